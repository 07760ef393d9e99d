import PyProof.Rows.All
import Wide.All
import OpenK.AllK
import Wide.FinOn
import HandS.ForMost
import HandS.ForExc
import HandS.TupAny
import HandS.TupLe
import HandS.IsInst
import HandS.TupMul
import KE.SortData
import KE.DataCmp
import HandS.More
import KE.KDictCopyH
import KE.KDictSum
import PyProof.TupleOfSeq
import HandS.Style
import HandS.CallLocal
import HandS.SetKeys
import HandS.Zip
import HandS.TryOnly
import HandS.ExcOwn
import HandS.Ends
import HandS.WordsExc
import HandS.Defaults
import HandS.Head0
import HandS.Head1
import HandS.Head2
import HandS.HeadEnd
import HandS.HeadHook1
import HandS.HeadHook2
import PySem.Challenge.RW_neartold_k16_whole_distances
set_option Elab.async false
set_option linter.all false
set_option maxRecDepth 100000
set_option maxHeartbeats 0
/-! the values and the store of the small interpreter, and how they stand for the heap -/
namespace NT
open PySem L2

inductive D where
  | non | bl (b : Bool) | int (i : Int) | str (x : Str) | tup (ds : List D) | lst (ds : List D) | wt (ds : List D) | wl (ds : List D) | ref (i : Nat) | fn (i : Nat) | ty (n : String)

inductive Cell where
  | lst (ds : List D)
  | dK (kvs : List (Key × D))
  | dT (kvs : List (List Key × D))
  | ins (c : Nat) (fs : List (Str × D))
abbrev Sto := List Cell

inductive R (A : Type) where
  | ok (a : A) (S : Sto)
  | exc (c : Nat) (S : Sto)
  | stuck

/-- the world's part that a value leans on -/
structure TW where
  K : PySem.W.Frag
  fa : Nat → Addr
  ca : Nat → Addr
  /-- lists in the making -/
  pz : List Addr := []
/-- the same, but for the lists in the making -/
def TW.wp (T : TW) (Z : List Addr) : TW := { T with pz := Z }

def WrL (K : PySem.W.Frag) (a : Addr) (xs : List V) : Prop :=
  ∃ (o : Obj) (its : Array Value) (n : Nat), K.lookup a = some o ∧ o.cls = .type "list" ∧ o.dict = none ∧ o.data = .seq its n ∧ its.size ≤ sizeLine ∧ Vals xs its.toList
def WrT (K : PySem.W.Frag) (a : Addr) (xs : List V) : Prop :=
  ∃ (o : Obj) (its : Array Value) (n : Nat), K.lookup a = some o ∧ o.cls = .type "tuple" ∧ o.data = .seq its n ∧ its.size ≤ sizeLine ∧ Vals xs its.toList
def LiL (K : PySem.W.Frag) (Z : List Addr) (H : Hp) (α : List Addr) (a : Addr) (xs : List V) : Prop := (Rd H a (.lst xs) ∧ a ∉ α ∧ a ∉ Z) ∨ WrL K a xs
def LiT (K : PySem.W.Frag) (H : Hp) (α : List Addr) (a : Addr) (xs : List V) : Prop := (Rd H a (.tup xs) ∧ a ∉ α) ∨ WrT K a xs
def TrL (Z : List Addr) (H : Hp) (α : List Addr) (a : Addr) (xs : List V) : Prop := H a = some (.lst xs) ∧ a ∉ α ∧ a ∉ Z
def TrT (H : Hp) (α : List Addr) (a : Addr) (xs : List V) : Prop := H a = some (.tup xs) ∧ a ∉ α
theorem TrL.sq {K Z H α a xs} (h : TrL Z H α a xs) : SqL K H a xs := SqL.of h.1
theorem TrT.sq {K H α a xs} (h : TrT H α a xs) : SqT K H a xs := SqT.of h.1
theorem LiL.sq {K Z H α a xs} (h : LiL K Z H α a xs) : SqL K H a xs := h.elim (fun h => .inl h.1) .inr
theorem LiT.sq {K H α a xs} (h : LiT K H α a xs) : SqT K H a xs := h.elim (fun h => .inl h.1) .inr

mutual
def Rep (T : TW) (H : Hp) (α : List Addr) : D → V → Prop
  | .non, v => v = .non
  | .bl b, v => v = .bl b
  | .int i, v => v = .int i
  | .str x, v => v = .str x
  | .tup ds, v => ∃ a vs, v = .ref a ∧ TrT H α a vs ∧ RepL T H α ds vs
  | .lst ds, v => ∃ a vs, v = .ref a ∧ TrL T.pz H α a vs ∧ RepL T H α ds vs
  | .wt ds, v => ∃ a vs, v = .ref a ∧ LiT T.K H α a vs ∧ RepL T H α ds vs
  | .wl ds, v => ∃ a vs, v = .ref a ∧ LiL T.K T.pz H α a vs ∧ RepL T H α ds vs
  | .ref i, v => ∃ a, v = .ref a ∧ α[i]? = some a
  | .fn i, v => v = .ref (T.fa i)
  | .ty n, v => v = .ty n
def RepL (T : TW) (H : Hp) (α : List Addr) : List D → List V → Prop
  | [], vs => vs = []
  | d :: ds, vs => ∃ v r, vs = v :: r ∧ Rep T H α d v ∧ RepL T H α ds r
end

structure Ext (H : Hp) (α : List Addr) (H' : Hp) (α' : List Addr) : Prop where
  pre : ∃ β, α' = α ++ β
  new : ∀ a ∈ α', a ∉ α → H a = none
  keep : ∀ a o, H a = some o → a ∉ α → H' a = some o
theorem Ext.refl (H : Hp) (α : List Addr) : Ext H α H α := ⟨⟨[], by simp⟩, fun a h n => absurd h n, fun _ _ h _ => h⟩
theorem Ext.sub {H α H' α'} (e : Ext H α H' α') : ∀ a ∈ α, a ∈ α' := fun a h => by
  obtain ⟨β, rfl⟩ := e.pre
  exact List.mem_append_left _ h
theorem Ext.trans {H α H1 α1 H2 α2} (e : Ext H α H1 α1) (f : Ext H1 α1 H2 α2) : Ext H α H2 α2 := by
  refine ⟨?_, fun a h n => ?_, fun a o h n => ?_⟩
  · obtain ⟨β, rfl⟩ := e.pre
    obtain ⟨γ, rfl⟩ := f.pre
    exact ⟨β ++ γ, by simp⟩
  · by_cases h1 : a ∈ α1
    · exact e.new a h1 n
    · cases q : H a with
      | none => rfl
      | some o =>
        have := e.keep a o q n
        rw [f.new a h h1] at this
        cases this
  · have h1 : a ∉ α1 := fun z => by
      rw [e.new a z n] at h; cases h
    exact f.keep a o (e.keep a o h n) h1
theorem Ext.get {H α H' α'} (e : Ext H α H' α') {i : Nat} {a : Addr} (h : α[i]? = some a) : α'[i]? = some a := by
  obtain ⟨β, rfl⟩ := e.pre
  rw [List.getElem?_append_left (by
    have := (List.getElem?_eq_some_iff.mp h).1
    exact this)]
  exact h
theorem Ext.rd {H α H' α'} (e : Ext H α H' α') {a : Addr} {u : HO} (h : Rd H a u) (n : a ∉ α) : Rd H' a u ∧ a ∉ α' := by
  rcases h with h | ⟨o, h⟩
  · refine ⟨.inl (e.keep a _ h n), fun z => ?_⟩
    rw [e.new a z n] at h; cases h
  · refine ⟨.inr ⟨o, e.keep a _ h n⟩, fun z => ?_⟩
    rw [e.new a z n] at h; cases h
mutual
theorem Rep.ext {T : TW} {H : Hp} {α : List Addr} {H' : Hp} {α' : List Addr} (e : Ext H α H' α') : ∀ {d : D} {v : V}, Rep T H α d v → Rep T H' α' d v
  | .non, _, h => h
  | .bl _, _, h => h
  | .int _, _, h => h
  | .str _, _, h => h
  | .tup ds, _, h => by
    obtain ⟨a, vs, e1, h1, h2⟩ := h
    exact ⟨a, vs, e1, ⟨e.keep a _ h1.1 h1.2, fun z => by have q := e.new a z h1.2; rw [h1.1] at q; cases q⟩, RepL.ext e h2⟩
  | .lst ds, _, h => by
    obtain ⟨a, vs, e1, h1, h2⟩ := h
    exact ⟨a, vs, e1, ⟨e.keep a _ h1.1 h1.2.1, (fun z => by have q := e.new a z h1.2.1; rw [h1.1] at q; cases q), h1.2.2⟩, RepL.ext e h2⟩
  | .wt ds, _, h => by
    obtain ⟨a, vs, e1, h1, h2⟩ := h
    refine ⟨a, vs, e1, ?_, RepL.ext e h2⟩
    rcases h1 with ⟨h1, n⟩ | h1
    · exact .inl (e.rd h1 n)
    · exact .inr h1
  | .wl ds, _, h => by
    obtain ⟨a, vs, e1, h1, h2⟩ := h
    refine ⟨a, vs, e1, ?_, RepL.ext e h2⟩
    rcases h1 with ⟨h1, n, nz⟩ | h1
    · exact .inl ⟨(e.rd h1 n).1, (e.rd h1 n).2, nz⟩
    · exact .inr h1
  | .ref i, _, h => by
    obtain ⟨a, e1, h1⟩ := h
    exact ⟨a, e1, e.get h1⟩
  | .fn _, _, h => h
  | .ty _, _, h => h
theorem RepL.ext {T : TW} {H : Hp} {α : List Addr} {H' : Hp} {α' : List Addr} (e : Ext H α H' α') : ∀ {ds : List D} {vs : List V}, RepL T H α ds vs → RepL T H' α' ds vs
  | [], _, h => h
  | d :: ds, _, h => by
    obtain ⟨v, r, e1, h1, h2⟩ := h
    exact ⟨v, r, e1, Rep.ext e h1, RepL.ext e h2⟩
end

section
variable {T : TW} {H : Hp} {α : List Addr}
theorem RepL.length : ∀ {ds : List D} {vs : List V}, RepL T H α ds vs → ds.length = vs.length
  | [], _, h => by cases h; rfl
  | _ :: ds, _, h => by
    obtain ⟨v, r, rfl, _, h2⟩ := h
    simp [RepL.length h2]
theorem RepL.get : ∀ {ds : List D} {vs : List V} {i : Nat} {d : D}, RepL T H α ds vs → ds[i]? = some d → ∃ v, vs[i]? = some v ∧ Rep T H α d v
  | [], _, _, _, _, e => by simp at e
  | _ :: ds, _, 0, d, h, e => by
    obtain ⟨v, r, rfl, h1, h2⟩ := h
    simp at e; subst e
    exact ⟨v, rfl, h1⟩
  | _ :: ds, _, i + 1, d, h, e => by
    obtain ⟨v, r, rfl, h1, h2⟩ := h
    obtain ⟨w, e1, h3⟩ := RepL.get (i := i) h2 (by simpa using e)
    exact ⟨w, by simpa using e1, h3⟩
theorem RepL.get' : ∀ {ds : List D} {vs : List V} {i : Nat} {v : V}, RepL T H α ds vs → vs[i]? = some v → ∃ d, ds[i]? = some d ∧ Rep T H α d v
  | [], _, _, _, h, e => by cases h; simp at e
  | d :: ds, _, 0, v, h, e => by
    obtain ⟨v', r, rfl, h1, h2⟩ := h
    simp at e; subst e
    exact ⟨d, rfl, h1⟩
  | _ :: ds, _, i + 1, v, h, e => by
    obtain ⟨v', r, rfl, h1, h2⟩ := h
    obtain ⟨w, e1, h3⟩ := RepL.get' (i := i) h2 (by simpa using e)
    exact ⟨w, by simpa using e1, h3⟩
theorem RepL.append : ∀ {ds es : List D} {vs ws : List V}, RepL T H α ds vs → RepL T H α es ws → RepL T H α (ds ++ es) (vs ++ ws)
  | [], _, _, _, h, h' => by cases h; exact h'
  | d :: ds, _, _, _, h, h' => by
    obtain ⟨v, r, rfl, h1, h2⟩ := h
    exact ⟨v, r ++ _, rfl, h1, RepL.append h2 h'⟩
theorem RepL.take : ∀ {ds : List D} {vs : List V} (n : Nat), RepL T H α ds vs → RepL T H α (ds.take n) (vs.take n)
  | ds, vs, 0, _ => by simp [RepL]
  | [], _, n + 1, h => by cases h; simp [RepL]
  | d :: ds, _, n + 1, h => by
    obtain ⟨v, r, rfl, h1, h2⟩ := h
    exact ⟨v, r.take n, rfl, h1, RepL.take n h2⟩
theorem RepL.drop : ∀ {ds : List D} {vs : List V} (n : Nat), RepL T H α ds vs → RepL T H α (ds.drop n) (vs.drop n)
  | ds, vs, 0, h => h
  | [], _, n + 1, h => by cases h; simp [RepL]
  | d :: ds, _, n + 1, h => by
    obtain ⟨v, r, rfl, h1, h2⟩ := h
    exact RepL.drop n h2
theorem RepL.set {d : D} {v : V} (hd : Rep T H α d v) : ∀ {ds : List D} {vs : List V} (n : Nat), RepL T H α ds vs → RepL T H α (ds.set n d) (vs.set n v)
  | [], _, n, h => by cases h; simp [RepL]
  | _ :: ds, _, 0, h => by
    obtain ⟨v, r, rfl, h1, h2⟩ := h
    exact ⟨_, r, rfl, hd, h2⟩
  | _ :: ds, _, n + 1, h => by
    obtain ⟨v, r, rfl, h1, h2⟩ := h
    exact ⟨v, _, rfl, h1, RepL.set hd n h2⟩
theorem RepL.ints : ∀ {ns : List Int} {vs : List V}, RepL T H α (ns.map D.int) vs → vs = ns.map V.int
  | [], _, h => h
  | n :: ns, _, h => by
    obtain ⟨v, r, rfl, h1, h2⟩ := h
    rw [RepL.ints h2, show v = V.int n from h1]; rfl
theorem RepL.of_ints : ∀ (ns : List Int), RepL T H α (ns.map D.int) (ns.map V.int)
  | [] => rfl
  | n :: ns => ⟨_, _, rfl, rfl, RepL.of_ints ns⟩
theorem RepL.bls : ∀ {ns : List Bool} {vs : List V}, RepL T H α (ns.map D.bl) vs → vs = ns.map V.bl
  | [], _, h => h
  | n :: ns, _, h => by
    obtain ⟨v, r, rfl, h1, h2⟩ := h
    rw [RepL.bls h2, show v = V.bl n from h1]; rfl
end

/-! cells -/
def RepKV {κ : Type} (T : TW) (H : Hp) (α : List Addr) : List (κ × D) → List (κ × V) → Prop
  | [], ws => ws = []
  | kd :: r, ws => ∃ v r', ws = (kd.1, v) :: r' ∧ Rep T H α kd.2 v ∧ RepKV T H α r r'
def CRep (T : TW) (H : Hp) (α : List Addr) : Cell → HO → Prop
  | .lst ds, u => ∃ vs, u = .lst vs ∧ RepL T H α ds vs
  | .dK kvs, u => ∃ ws, u = .dK ws ∧ RepKV T H α kvs ws
  | .dT kvs, u => ∃ ws, u = .dT ws ∧ RepKV T H α kvs ws
  | .ins c fs, u => ∃ dx ws, u = .ins (T.ca c) dx ws ∧ RepKV T H α fs ws
theorem RepKV.ext {κ : Type} {T : TW} {H : Hp} {α : List Addr} {H' : Hp} {α' : List Addr} (e : Ext H α H' α') : ∀ {ks : List (κ × D)} {ws : List (κ × V)}, RepKV T H α ks ws → RepKV T H' α' ks ws
  | [], _, h => h
  | _ :: _, _, h => by
    obtain ⟨v, r, rfl, h1, h2⟩ := h
    exact ⟨v, r, rfl, h1.ext e, RepKV.ext e h2⟩
theorem CRep.ext {T : TW} {H : Hp} {α : List Addr} {H' : Hp} {α' : List Addr} (e : Ext H α H' α') : ∀ {c : Cell} {u : HO}, CRep T H α c u → CRep T H' α' c u
  | .lst _, _, ⟨vs, h1, h2⟩ => ⟨vs, h1, h2.ext e⟩
  | .dK _, _, ⟨vs, h1, h2⟩ => ⟨vs, h1, h2.ext e⟩
  | .dT _, _, ⟨vs, h1, h2⟩ => ⟨vs, h1, h2.ext e⟩
  | .ins _ _, _, ⟨dx, vs, h1, h2⟩ => ⟨dx, vs, h1, h2.ext e⟩

structure HR (T : TW) (H : Hp) (α : List Addr) (S : Sto) : Prop where
  len : α.length = S.length
  nd : α.Nodup
  cell : ∀ (i : Nat) (c : Cell), S[i]? = some c → ∃ a u, α[i]? = some a ∧ H a = some u ∧ CRep T H α c u
  priv : ∀ a ∈ T.pz, a ∉ α ∧ ∃ xs, H a = some (.lst xs)

section
variable {T : TW} {H H' : Hp} {α α' : List Addr} {S : Sto}
theorem HR.there (h : HR T H α S) {a : Addr} (ha : a ∈ α) : ∃ u, H a = some u := by
  obtain ⟨i, hi⟩ := List.getElem?_of_mem ha
  have hl : i < S.length := by
    rw [← h.len]; exact (List.getElem?_eq_some_iff.mp hi).1
  obtain ⟨a', u, e, e2, _⟩ := h.cell i S[i] (by simp [hl])
  rw [hi] at e; cases e
  exact ⟨u, e2⟩
theorem HR.fresh (h : HR T H α S) {p : Addr} (hp : H p = none) : p ∉ α := fun z => by
  obtain ⟨u, e⟩ := h.there z
  rw [hp] at e; cases e
/-- a new object that is no cell -/
theorem Ext.laid (h : HR T H α S) {p : Addr} (hp : H p = none) (o : HO) : Ext H α (upd H p o) α :=
  ⟨⟨[], by simp⟩, fun a h n => absurd h n, fun a u e n => by rw [upd_ne (ne_of_none e hp)]; exact e⟩
theorem HR.freshZ (h : HR T H α S) {p : Addr} (hp : H p = none) : p ∉ T.pz := fun z => by
  obtain ⟨_, xs, e⟩ := h.priv p z
  rw [hp] at e; cases e
theorem HR.privE (h : HR T H α S) (e : Ext H α H' α') : ∀ a ∈ T.pz, a ∉ α' ∧ ∃ xs, H' a = some (.lst xs) := fun a ha => by
  obtain ⟨n, xs, q⟩ := h.priv a ha
  refine ⟨fun z => ?_, xs, e.keep a _ q n⟩
  rw [e.new a z n] at q; cases q
theorem HR.keep (h : HR T H α S) (e : Ext H α H' α) (k : ∀ a ∈ α, H' a = H a) : HR T H' α S :=
  ⟨h.len, h.nd, fun i c q => by
    obtain ⟨a, u, e1, e2, e3⟩ := h.cell i c q
    exact ⟨a, u, e1, by rw [k a (List.mem_of_getElem? e1)]; exact e2, e3.ext e⟩, h.privE e⟩
theorem HR.laid (h : HR T H α S) {p : Addr} (hp : H p = none) (o : HO) : HR T (upd H p o) α S :=
  h.keep (Ext.laid h hp o) fun a ha => upd_ne (by rintro rfl; exact h.fresh hp ha)
/-- a new cell -/
theorem Ext.cell (h : HR T H α S) {p : Addr} (hp : H p = none) (o : HO) : Ext H α (upd H p o) (α ++ [p]) :=
  ⟨⟨[p], rfl⟩, fun a h n => by
    rcases List.mem_append.mp h with z | z
    · exact absurd z n
    · rw [List.mem_singleton.mp z]; exact hp, fun a u e n => by rw [upd_ne (ne_of_none e hp)]; exact e⟩
theorem HR.push (h : HR T H α S) {p : Addr} (hp : H p = none) {c : Cell} {o : HO} (hc : CRep T H α c o) : HR T (upd H p o) (α ++ [p]) (S ++ [c]) := by
  have e := Ext.cell h hp o
  refine ⟨by simp [h.len], ?_, fun i c' q => ?_, h.privE e⟩
  · rw [List.nodup_append]
    refine ⟨h.nd, by simp, fun a ha b hb => ?_⟩
    rw [List.mem_singleton.mp hb]
    rintro rfl; exact h.fresh hp ha
  · by_cases hi : i < S.length
    · rw [List.getElem?_append_left hi] at q
      obtain ⟨a, u, e1, e2, e3⟩ := h.cell i c' q
      refine ⟨a, u, e.get e1, ?_, e3.ext e⟩
      rw [upd_ne (by rintro rfl; exact h.fresh hp (List.mem_of_getElem? e1))]
      exact e2
    · have hi' : i = S.length := by
        have := (List.getElem?_eq_some_iff.mp q).1
        simp at this; omega
      subst hi'
      simp at q; subst q
      refine ⟨p, o, ?_, upd_same, hc.ext e⟩
      rw [← h.len]; simp
/-- a cell is written -/
theorem Ext.write {a : Addr} (ha : a ∈ α) (o : HO) : Ext H α (upd H a o) α :=
  ⟨⟨[], by simp⟩, fun a h n => absurd h n, fun b u e n => by rw [upd_ne (by rintro rfl; exact n ha)]; exact e⟩
theorem HR.write (h : HR T H α S) {i : Nat} {a : Addr} (hi : α[i]? = some a) {c : Cell} {o : HO} (hc : CRep T H α c o) : HR T (upd H a o) α (S.set i c) := by
  have ha := List.mem_of_getElem? hi
  have e := Ext.write (H := H) ha o
  refine ⟨by simp [h.len], h.nd, fun j c' q => ?_, h.privE e⟩
  by_cases hj : i = j
  · subst hj
    have hl : i < S.length := by rw [← h.len]; exact (List.getElem?_eq_some_iff.mp hi).1
    rw [List.getElem?_set_self hl] at q
    cases q
    exact ⟨a, o, hi, upd_same, hc.ext e⟩
  · rw [List.getElem?_set_ne hj] at q
    obtain ⟨b, u, e1, e2, e3⟩ := h.cell j c' q
    refine ⟨b, u, e1, ?_, e3.ext e⟩
    rw [upd_ne (?_ : b ≠ a)]
    · exact e2
    · intro z; apply hj; subst z
      obtain ⟨h1, h2⟩ := List.getElem?_eq_some_iff.mp hi
      obtain ⟨h3, h4⟩ := List.getElem?_eq_some_iff.mp e1
      exact (List.getElem_inj h.nd).mp (h2.trans h4.symm)
end

/-! slots -/
abbrev Env := List (Option D)
def RepE (T : TW) (H : Hp) (α : List Addr) (ρ : Env) (σ : L2.St) : Prop :=
  ρ.length = σ.length ∧ ∀ (i : Nat) (d : D), ρ[i]? = some (some d) → ∃ v, σ[i]? = some (some v) ∧ Rep T H α d v
theorem RepE.ext {T : TW} {H : Hp} {α : List Addr} {H' : Hp} {α' : List Addr} {ρ : Env} {σ : L2.St} (e : Ext H α H' α') (h : RepE T H α ρ σ) : RepE T H' α' ρ σ :=
  ⟨h.1, fun i d q => by
    obtain ⟨v, e1, e2⟩ := h.2 i d q
    exact ⟨v, e1, e2.ext e⟩⟩
theorem RepE.set {T : TW} {H : Hp} {α : List Addr} {ρ : Env} {σ : L2.St} {d : D} {v : V} (h : RepE T H α ρ σ) (i : Nat) (hd : Rep T H α d v) : RepE T H α (ρ.set i (some d)) (σ.set i (some v)) := by
  refine ⟨by simp [h.1], fun j d' q => ?_⟩
  by_cases hj : i = j
  · subst hj
    have hl : i < ρ.length := by
      have := (List.getElem?_eq_some_iff.mp q).1
      simpa using this
    rw [List.getElem?_set_self hl] at q
    cases q
    exact ⟨v, List.getElem?_set_self (by rw [← h.1]; exact hl), hd⟩
  · rw [List.getElem?_set_ne hj] at q
    obtain ⟨w, e1, e2⟩ := h.2 j d' q
    exact ⟨w, by rw [List.getElem?_set_ne hj]; exact e1, e2⟩

/-- what is wanted of a result -/
def post (T : TW) (H : Hp) (α : List Addr) (r : R D) (Q : VK) (E : Nat → Hp → Prop) : Prop :=
  match r with
  | .ok d S' => ∀ v H' α', Ext H α H' α' → HR T H' α' S' → Rep T H' α' d v → Q v H'
  | .exc c S' => ∀ H' α', Ext H α H' α' → HR T H' α' S' → E c H'
  | .stuck => False
theorem post.ext {T : TW} {H : Hp} {α : List Addr} {H' : Hp} {α' : List Addr} (e : Ext H α H' α') {r : R D} {Q : VK} {E : Nat → Hp → Prop} (h : post T H α r Q E) : post T H' α' r Q E := by
  cases r with
  | ok d S => exact fun v H2 α2 e2 => h v H2 α2 (e.trans e2)
  | exc c S => exact fun H2 α2 e2 => h H2 α2 (e.trans e2)
  | stuck => exact h
end NT
/-! operations on the small values, and that the model's operations give them -/
namespace NT
open PySem L2

/-- what an operation with values is worth; the store behind it -/
abbrev OpF := Sto → List D → Option (D × Sto)
def rC (T : TW) (f : OpF) : List V → Hp → VK → Prop := fun xs H Q =>
  ∃ α S ds r S', HR T H α S ∧ RepL T H α ds xs ∧ f S ds = some (r, S') ∧ ∀ v H' α', Ext H α H' α' → HR T H' α' S' → Rep T H' α' r v → Q v H'
def rC2 (T : TW) (f : OpF) : R2 := fun x y H Q => rC T f [x, y] H Q

def asSeq (S : Sto) : D → Option (Bool × List D)
  | .tup ds => some (false, ds)
  | .lst ds => some (true, ds)
  | .wt ds => some (false, ds)
  | .wl ds => some (true, ds)
  | .ref i => match S[i]? with
    | some (.lst ds) => some (true, ds)
    | _ => none
  | _ => none
theorem asSeq_ok {T : TW} {H : Hp} {α : List Addr} {S : Sto} {d : D} {v : V} {b : Bool} {ds : List D} (h : HR T H α S) (r : Rep T H α d v) (e : asSeq S d = some (b, ds)) :
    ∃ a vs, v = .ref a ∧ RepL T H α ds vs ∧ (if b = true then SqL T.K H a vs else SqT T.K H a vs) := by
  cases d with
  | tup es =>
    cases e
    obtain ⟨a, vs, e1, h1, h2⟩ := r
    exact ⟨a, vs, e1, h2, h1.sq⟩
  | lst es =>
    cases e
    obtain ⟨a, vs, e1, h1, h2⟩ := r
    exact ⟨a, vs, e1, h2, h1.sq⟩
  | wt es =>
    cases e
    obtain ⟨a, vs, e1, h1, h2⟩ := r
    exact ⟨a, vs, e1, h2, h1.sq⟩
  | wl es =>
    cases e
    obtain ⟨a, vs, e1, h1, h2⟩ := r
    exact ⟨a, vs, e1, h2, h1.sq⟩
  | ref i =>
    obtain ⟨a, e1, h1⟩ := r
    simp only [asSeq] at e
    split at e
    · rename_i es q
      cases e
      obtain ⟨a', u, e2, e3, vs, rfl, e4⟩ := h.cell i _ q
      rw [h1] at e2; cases e2
      exact ⟨a, vs, e1, e4, SqL.of e3⟩
    · cases e
  | _ => cases e

/-! data -/
mutual
def D.py0 : D → Option PyData
  | .non => some .none
  | .bl b => some (.bool b)
  | .int i => some (.int i)
  | .str x => some (.str x)
  | .tup ds => (D.py0L ds).map .tuple
  | .lst ds => (D.py0L ds).map .list
  | .wt ds => (D.py0L ds).map .tuple
  | .wl ds => (D.py0L ds).map .list
  | .ref _ => none
  | .fn _ => none
  | .ty _ => none
def D.py0L : List D → Option (List PyData)
  | [] => some []
  | d :: ds => match D.py0 d, D.py0L ds with
    | some p, some ps => some (p :: ps)
    | _, _ => none
end
def D.py (S : Sto) : D → Option PyData
  | .ref i => match S[i]? with
    | some (.lst ds) => (D.py0L ds).map .list
    | _ => none
  | d => d.py0
section
variable {T : TW} {H : Hp} {α : List Addr}
mutual
theorem dp0 : ∀ {d : D} {v : V} {p : PyData}, Rep T H α d v → d.py0 = some p → Dp T.K H v p
  | .non, _, _, r, e => by cases r; cases e; exact .non
  | .bl b, _, _, r, e => by cases r; cases e; exact .bl b
  | .int i, _, _, r, e => by cases r; cases e; exact .int i
  | .str x, _, _, r, e => by cases r; cases e; exact .str x
  | .tup ds, _, _, r, e => by
    obtain ⟨a, vs, rfl, h1, h2⟩ := r
    rw [D.py0] at e
    obtain ⟨ps, e1, rfl⟩ := Option.map_eq_some_iff.mp e
    exact .tup h1.sq (dp0L h2 e1)
  | .lst ds, _, _, r, e => by
    obtain ⟨a, vs, rfl, h1, h2⟩ := r
    rw [D.py0] at e
    obtain ⟨ps, e1, rfl⟩ := Option.map_eq_some_iff.mp e
    exact .lst h1.sq (dp0L h2 e1)
  | .wt ds, _, _, r, e => by
    obtain ⟨a, vs, rfl, h1, h2⟩ := r
    rw [D.py0] at e
    obtain ⟨ps, e1, rfl⟩ := Option.map_eq_some_iff.mp e
    exact .tup h1.sq (dp0L h2 e1)
  | .wl ds, _, _, r, e => by
    obtain ⟨a, vs, rfl, h1, h2⟩ := r
    rw [D.py0] at e
    obtain ⟨ps, e1, rfl⟩ := Option.map_eq_some_iff.mp e
    exact .lst h1.sq (dp0L h2 e1)
  | .ref _, _, _, _, e => by cases e
  | .fn _, _, _, _, e => by cases e
  | .ty _, _, _, _, e => by cases e
theorem dp0L : ∀ {ds : List D} {vs : List V} {ps : List PyData}, RepL T H α ds vs → D.py0L ds = some ps → DpAll T.K H vs ps
  | [], _, _, r, e => by cases r; cases e; exact .nil
  | d :: ds, _, _, r, e => by
    obtain ⟨v, vs, rfl, h1, h2⟩ := r
    rw [D.py0L] at e
    split at e
    · rename_i p ps e1 e2
      cases e
      exact .cons (dp0 h1 e1) (dp0L h2 e2)
    · cases e
end
theorem dp {S : Sto} {d : D} {v : V} {p : PyData} (h : HR T H α S) (r : Rep T H α d v) (e : d.py S = some p) : Dp T.K H v p := by
  cases d with
  | ref i =>
    unfold D.py at e
    simp only at e
    split at e
    · rename_i ds q
      obtain ⟨ps, e1, rfl⟩ := Option.map_eq_some_iff.mp e
      obtain ⟨a, rfl, h1⟩ := r
      obtain ⟨a', u, e2, e3, vs, rfl, e4⟩ := h.cell i _ q
      rw [h1] at e2; cases e2
      exact .lst (SqL.of e3) (dp0L e4 e1)
    · cases e
  | non => exact dp0 r e
  | bl b => exact dp0 r e
  | int i => exact dp0 r e
  | str x => exact dp0 r e
  | tup ds => exact dp0 r e
  | lst ds => exact dp0 r e
  | wt ds => exact dp0 r e
  | wl ds => exact dp0 r e
  | fn i => exact dp0 r e
  | ty n => exact dp0 r e
end

/-! ### results -/
section
variable {T : TW} {H : Hp} {α : List Addr} {S : Sto} {Q : VK} {r : D}
theorem fin0 (h : HR T H α S) (q : ∀ v H' α', Ext H α H' α' → HR T H' α' S → Rep T H' α' r v → Q v H') {v : V} (hv : Rep T H α r v) : Q v H := q v H α (Ext.refl H α) h hv
theorem finT {ds : List D} {vs : List V} (h : HR T H α S) (q : ∀ v H' α', Ext H α H' α' → HR T H' α' S → Rep T H' α' (.tup ds) v → Q v H') (rs : RepL T H α ds vs) {p : Addr} (hp : H p = none) : Q (.ref p) (upd H p (.tup vs)) := by
  have e := Ext.laid h hp (.tup vs)
  exact q _ _ _ e (h.laid hp _) ⟨p, vs, rfl, ⟨upd_same, h.fresh hp⟩, rs.ext e⟩
theorem finL {ds : List D} {vs : List V} (h : HR T H α S) (q : ∀ v H' α', Ext H α H' α' → HR T H' α' S → Rep T H' α' (.lst ds) v → Q v H') (rs : RepL T H α ds vs) {p : Addr} (hp : H p = none) : Q (.ref p) (upd H p (.lst vs)) := by
  have e := Ext.laid h hp (.lst vs)
  exact q _ _ _ e (h.laid hp _) ⟨p, vs, rfl, ⟨upd_same, h.fresh hp, h.freshZ hp⟩, rs.ext e⟩
end

section
variable {T : TW}
def cellL (S : Sto) (i : Nat) : Option (List D) := match S[i]? with
  | some (.lst ds) => some ds
  | _ => none
theorem cellL_ok {H : Hp} {α : List Addr} {S : Sto} {i : Nat} {ds : List D} {v : V} (h : HR T H α S) (r : Rep T H α (.ref i) v) (e : cellL S i = some ds) :
    ∃ a vs, v = .ref a ∧ α[i]? = some a ∧ H a = some (.lst vs) ∧ RepL T H α ds vs := by
  unfold cellL at e
  split at e
  · rename_i ds' q
    cases e
    obtain ⟨a, rfl, h1⟩ := r
    obtain ⟨a', u, e2, e3, vs, rfl, e4⟩ := h.cell _ _ q
    rw [h1] at e2; cases e2
    exact ⟨a, vs, rfl, h1, e3, e4⟩
  · cases e
/-- a tracked list, read -/
def trkL (S : Sto) : D → Option (List D)
  | .lst ds => some ds
  | .ref i => cellL S i
  | _ => none
theorem trkL_ok {H : Hp} {α : List Addr} {S : Sto} {d : D} {ds : List D} {v : V} (h : HR T H α S) (r : Rep T H α d v) (e : trkL S d = some ds) :
    ∃ a vs, v = .ref a ∧ H a = some (.lst vs) ∧ RepL T H α ds vs := by
  cases d with
  | lst es =>
    cases e
    obtain ⟨a, vs, rfl, h1, h2⟩ := r
    exact ⟨a, vs, rfl, h1.1, h2⟩
  | ref i =>
    obtain ⟨a, vs, e1, _, e2, e3⟩ := cellL_ok h r e
    exact ⟨a, vs, e1, e2, e3⟩
  | _ => cases e
end
/-! ### arithmetic -/
def addD : OpF := fun S ds => match ds with
  | [.int i, .int j] => some (.int (i + j), S)
  | [.str x, .str y] => if x.length + y.length ≤ sizeLine then some (.str (x ++ y), S) else none
  | [.tup a, .tup b] => if a.length + b.length ≤ sizeLine then some (.tup (a ++ b), S) else none
  | [x, y] => match trkL S x, trkL S y with
    | some a, some b => if a.length + b.length ≤ sizeLine then some (.lst (a ++ b), S) else none
    | _, _ => none
  | _ => none
def subD : OpF := fun S ds => match ds with
  | [.int i, .int j] => some (.int (i - j), S)
  | _ => none
instance (i j : Int) : Decidable (CMul i j) := by unfold CMul; infer_instance
instance (i j : Int) : Decidable (CDivN i j) := by unfold CDivN; infer_instance
def mulD : OpF := fun S ds => match ds with
  | [.int i, .int j] => if CMul i j then some (.int (i * j), S) else none
  | [.tup a, .int k] => if k = 1 then some (.tup a, S) else if a ≠ [] ∧ 2 ≤ k ∧ k ≤ 1000 ∧ a.length ≤ 1000 then some (.tup (List.replicate k.toNat a).flatten, S) else none
  | _ => none
def modD : OpF := fun S ds => match ds with
  | [.int i, .int j] => if j ≠ 0 then some (.int (i.fmod j), S) else none
  | _ => none
def fdivD : OpF := fun S ds => match ds with
  | [.int i, .int j] => if CDivN i j then some (.int (i.fdiv j), S) else none
  | _ => none
section
variable {X : Cx} {T : TW}
theorem OpR.imp {f : Value → Value → Sem Value} {r r' : R2} (h : OpR X f r) (k : ∀ x y H Q, r' x y H Q → r x y H Q) : OpR X f r' := fun pins s σ H x y v u Q I rx ry q => h pins s σ H x y v u Q I rx ry (k _ _ _ _ q)
theorem OpR.cases {f : Value → Value → Sem Value} {r' : R2} (h : ∀ x y H Q, r' x y H Q → ∃ r, OpR X f r ∧ r x y H Q) : OpR X f r' := fun pins s σ H x y v u Q I rx ry q => by
  obtain ⟨r, h1, h2⟩ := h x y H Q q
  exact h1 pins s σ H x y v u Q I rx ry h2
theorem CallR.cases {f : Value} {r' : List V → Hp → VK → Prop} (h : ∀ xs H Q, r' xs H Q → ∃ r, CallR X f r ∧ r xs H Q) : CallR X f r' := fun pins s σ H xs us Q I rx q => by
  obtain ⟨r, h1, h2⟩ := h xs H Q q
  exact h1 pins s σ H xs us Q I rx h2

theorem RepL.one {H : Hp} {α : List Addr} {d : D} {vs : List V} (h : RepL T H α [d] vs) : ∃ v, vs = [v] ∧ Rep T H α d v := by
  obtain ⟨v, r, rfl, h1, h2⟩ := h
  cases h2
  exact ⟨v, rfl, h1⟩
theorem RepL.two {H : Hp} {α : List Addr} {d e : D} {vs : List V} (h : RepL T H α [d, e] vs) : ∃ v w, vs = [v, w] ∧ Rep T H α d v ∧ Rep T H α e w := by
  obtain ⟨v, r, rfl, h1, h2⟩ := h
  obtain ⟨w, rfl, h3⟩ := RepL.one h2
  exact ⟨v, w, rfl, h1, h3⟩
theorem op_add' (hK : X.K = T.K) : OpR X (binaryOp .Add) (rC2 T addD) := by
  refine OpR.cases fun x y H Q ⟨α, S, ds, r, S', h, rs, e, q⟩ => ?_
  unfold addD at e
  split at e
  · cases e
    obtain ⟨v, w, e, h1, h2⟩ := rs.two
    cases e; cases h1; cases h2
    exact ⟨_, op_add, _, _, rfl, rfl, fin0 h q rfl⟩
  · split at e
    · rename_i hl
      cases e
      obtain ⟨v, w, e, h1, h2⟩ := rs.two
      cases e; cases h1; cases h2
      exact ⟨_, op_add_str, _, _, rfl, rfl, hl, fin0 h q rfl⟩
    · cases e
  · rename_i a b
    split at e
    · rename_i hl
      cases e
      obtain ⟨v, w, e, h1, h2⟩ := rs.two
      cases e
      obtain ⟨p1, vs, rfl, l1, r1⟩ := h1
      obtain ⟨p2, ws, rfl, l2, r2⟩ := h2
      refine ⟨_, op_catA, p1, p2, vs, ws, rfl, rfl, hK ▸ l1.sq, hK ▸ l2.sq, by rw [← r1.length, ← r2.length]; exact hl, fun ev => ?_, fun _ ew => ?_, fun _ _ p hp => finT h q (r1.append r2) hp⟩
      · subst ev
        have : a = [] := List.eq_nil_of_length_eq_zero (by rw [r1.length]; rfl)
        subst this
        exact fin0 h q ⟨p2, ws, rfl, l2, r2⟩
      · subst ew
        have : b = [] := List.eq_nil_of_length_eq_zero (by rw [r2.length]; rfl)
        subst this
        rw [List.append_nil] at q
        exact fin0 h q ⟨p1, vs, rfl, l1, r1⟩
    · cases e
  · split at e
    · rename_i a b e1 e2
      split at e
      · rename_i hl
        cases e
        obtain ⟨v, w, e, h1, h2⟩ := rs.two
        cases e
        obtain ⟨p1, vs, rfl, l1, r1⟩ := trkL_ok h h1 e1
        obtain ⟨p2, ws, rfl, l2, r2⟩ := trkL_ok h h2 e2
        exact ⟨_, op_cat, p1, p2, vs, ws, rfl, rfl, l1, l2, by rw [← r1.length, ← r2.length]; exact hl, fun p hp => finL h q (r1.append r2) hp⟩
      · cases e
    · cases e
  · cases e
theorem op_sub' : OpR X (binaryOp .Sub) (rC2 T subD) := by
  refine OpR.cases fun x y H Q ⟨α, S, ds, r, S', h, rs, e, q⟩ => ?_
  unfold subD at e
  split at e
  · cases e
    obtain ⟨v, w, e, h1, h2⟩ := rs.two
    cases e; cases h1; cases h2
    exact ⟨_, op_sub, _, _, rfl, rfl, fin0 h q rfl⟩
  · cases e
section
set_option maxHeartbeats 4000000
open PySem.Spec PyProof.Rows
theorem tuple_mul1 (l : Addr) (items : Array Value) (n : Nat) (dd : Option Addr) (sl : Array (Option Value)) (x : Int) (u : Tok) (c0 : (decide (x < -(2 ^ 63)) || decide (x ≥ 2 ^ 63)) = false) (c1 : (items.isEmpty || x == 1) = true) :
    Meets (Builtin.«tuple.__mul__» ⟨[.ref l, .int x u], []⟩) (fun _ R s => s.heap.get? l = some { cls := .type "tuple", dict := dd, data := .seq items n, slots := sl } ∧ R (.ok (.ret (.ref l))) s) :=
  .of_wp fun prog w A R s h => by
    obtain ⟨hp, g, d, tk, os⟩ := s
    obtain ⟨hl, h⟩ := h
    have f1 := AutoSeq1.idx_int
    wp_walk using wpAny_loadPart' hl
    refine wpAny_ite_false (decide_eq_false (by rw [c0]; exact Bool.false_ne_true)) ?_
    wp_walk using wpAny_loadPart' hl
    all_goals exact ⟨_, rfl, h⟩
theorem op_rep1 {X : Cx} : OpR X (binaryOp .Mult) (fun x y H Q => ∃ l xs, x = .ref l ∧ y = .int 1 ∧ SqT X.K H l xs ∧ Q (.ref l) H) := by
  intro pins s σ H x y v u Q I rx ry h
  obtain ⟨l, xs, rfl, rfl, hT, q⟩ := h
  cases rx
  obtain ⟨t, rfl⟩ := ry
  obtain ⟨its, r, ⟨⟨cls, dd, data, sl⟩, ho, hc, n, hd⟩, hs⟩ := I.tuple hT
  simp only at hc hd
  subst hc hd
  have c0 : (decide ((1 : Int) < -(2 ^ 63)) || decide ((1 : Int) ≥ 2 ^ 63)) = false := by decide
  have c1 : (its.toArray.isEmpty || (1 : Int) == 1) = true := by simp
  refine wpAny_binaryOp_repeat_ref (T := "tuple") (U := "int") (by decide) ⟨_, ho, rfl⟩ (fun s' => typeIs_int s' 1 t) noFill_tuple_mul PySem.F.fills_int_mul PySem.F.slot_int_rmul repeat_tuple PySem.F.slot_int_index.lookup
    (call_meets PySem.F.slot_int_rmul (typeIs_int s 1 t) PySem.F.entry_int_rmul (PySem.F.args_int_rmul_2 _ _) (int_rmul_tuple 1 t l its.toArray n dd sl)
      ⟨ho, rfl, ⟨_, ho, rfl⟩, call_meets PySem.F.slot_tuple_mul ⟨_, ho, rfl⟩ PySem.F.entry_tuple_mul (PySem.F.args_tuple_mul_2 _ _) (tuple_mul1 l its.toArray n dd sl 1 t c0 c1) ⟨ho, ?_⟩⟩)
  exact ⟨.ref l, _, I, rfl, q⟩
end
theorem RepL.rep {H : Hp} {α : List Addr} {ds : List D} {vs : List V} (h : RepL T H α ds vs) : ∀ n : Nat, RepL T H α (List.replicate n ds).flatten (List.replicate n vs).flatten
  | 0 => rfl
  | n + 1 => by
    rw [List.replicate_succ, List.replicate_succ, List.flatten_cons, List.flatten_cons]
    exact h.append (RepL.rep h n)
theorem op_mul' (hK : X.K = T.K) : OpR X (binaryOp .Mult) (rC2 T mulD) := by
  refine OpR.cases fun x y H Q ⟨α, S, ds, r, S', h, rs, e, q⟩ => ?_
  unfold mulD at e
  split at e
  · split at e
    · rename_i hc
      cases e
      obtain ⟨v, w, e, h1, h2⟩ := rs.two
      cases e; cases h1; cases h2
      exact ⟨_, op_mul, _, _, rfl, rfl, hc, fin0 h q rfl⟩
    · cases e
  · split at e
    · rename_i a k hk1
      cases e
      obtain ⟨v, w, e, h1, h2⟩ := rs.two
      cases e; cases h2
      subst hk1
      obtain ⟨p1, vs, rfl, l1, r1⟩ := id h1
      exact ⟨_, op_rep1, p1, vs, rfl, rfl, hK ▸ l1.sq, fin0 h q h1⟩
    split at e
    · rename_i a k _ hc
      cases e
      obtain ⟨v, w, e, h1, h2⟩ := rs.two
      cases e; cases h2
      obtain ⟨p1, vs, rfl, l1, r1⟩ := h1
      exact ⟨_, op_repT, p1, k, vs, rfl, rfl, hK ▸ l1.sq, fun e => hc.1 (by subst e; exact List.eq_nil_of_length_eq_zero r1.length), hc.2.1, hc.2.2.1, by rw [← r1.length]; exact hc.2.2.2, fun p hp => finT h q (RepL.rep r1 k.toNat) hp⟩
    · cases e
  · cases e
theorem op_mod' : OpR X (binaryOp .Mod) (rC2 T modD) := by
  refine OpR.cases fun x y H Q ⟨α, S, ds, r, S', h, rs, e, q⟩ => ?_
  unfold modD at e
  split at e
  · split at e
    · rename_i hc
      cases e
      obtain ⟨v, w, e, h1, h2⟩ := rs.two
      cases e; cases h1; cases h2
      exact ⟨_, op_modN, _, _, rfl, rfl, hc, fin0 h q rfl⟩
    · cases e
  · cases e
theorem op_fdiv' : OpR X (binaryOp .FloorDiv) (rC2 T fdivD) := by
  refine OpR.cases fun x y H Q ⟨α, S, ds, r, S', h, rs, e, q⟩ => ?_
  unfold fdivD at e
  split at e
  · split at e
    · rename_i hc
      cases e
      obtain ⟨v, w, e, h1, h2⟩ := rs.two
      cases e; cases h1; cases h2
      exact ⟨_, op_fdivN, _, _, rfl, rfl, hc, fin0 h q rfl⟩
    · cases e
  · cases e

/-! ### comparisons -/
def eqD : OpF := fun S ds => match ds with
  | [a, b] => match a.py S, b.py S with
    | some p, some q => if SeqAt.shaped p = true ∧ SeqAt.shaped q = true then some (.bl (PyData.eqv p q), S) else none
    | _, _ => none
  | _ => none
def neD : OpF := fun S ds => match ds with
  | [a, b] => match a.py S, b.py S with
    | some p, some q => if SeqAt.shaped p = true ∧ SeqAt.shaped q = true then some (.bl (!PyData.eqv p q), S) else none
    | _, _ => none
  | _ => none
theorem op_eq' (hK : X.K = T.K) (hu : X.A.units + 64 < cLine) : OpR X (compareOp .Eq) (rC2 T eqD) := by
  refine OpR.cases fun x y H Q ⟨α, S, ds, r, S', h, rs, e, q⟩ => ?_
  unfold eqD at e
  split at e
  · split at e
    · rename_i p p' e1 e2
      split at e
      · rename_i hc
        cases e
        obtain ⟨v, w, e, h1, h2⟩ := rs.two
        cases e
        exact ⟨_, op_eqD hu, p, p', hK ▸ dp h h1 e1, hK ▸ dp h h2 e2, hc.1, hc.2, fin0 h q rfl⟩
      · cases e
    · cases e
  · cases e
theorem op_ne' (hK : X.K = T.K) (hu : X.A.units + 64 < cLine) : OpR X (compareOp .NotEq) (rC2 T neD) := by
  refine OpR.cases fun x y H Q ⟨α, S, ds, r, S', h, rs, e, q⟩ => ?_
  unfold neD at e
  split at e
  · split at e
    · rename_i p p' e1 e2
      split at e
      · rename_i hc
        cases e
        obtain ⟨v, w, e, h1, h2⟩ := rs.two
        cases e
        exact ⟨_, op_neD hu, p, p', hK ▸ dp h h1 e1, hK ▸ dp h h2 e2, hc.1, hc.2, fin0 h q rfl⟩
      · cases e
    · cases e
  · cases e
end
end NT
namespace NT
open PySem L2
section
variable {X : Cx} {T : TW}

/-! ### order -/
def ordOk (p q : PyData) : Bool := PySem.W.alike p q && (match p with | .none => false | _ => true) && decide (p.depth ≤ 60)
theorem ordOk_iff {p q : PyData} (h : ordOk p q = true) : PySem.W.alike p q = true ∧ p ≠ .none ∧ p.depth ≤ 60 := by
  unfold ordOk at h
  simp only [Bool.and_eq_true, decide_eq_true_eq] at h
  obtain ⟨⟨h1, h2⟩, h3⟩ := h
  refine ⟨h1, ?_, h3⟩
  rintro rfl
  cases h2
def ordD (f : PyData → PyData → Bool) : OpF := fun S ds => match ds with
  | [a, b] => match a.py S, b.py S with
    | some p, some q => if ordOk p q = true then some (.bl (f p q), S) else none
    | _, _ => none
  | _ => none
theorem op_ord {op : CmpOp} {f : PyData → PyData → Bool} (hK : X.K = T.K) (hu : X.A.units + 64 < cLine)
    (rule : ∀ {E : Value → Shared → Prop} {s : Shared} {a b : Value} {da db : PyData} {as bs : List Addr} {Q : Value → Shared → Prop}, Reads s.heap a da as → Reads s.heap b db bs → PySem.W.alike da db = true → da ≠ .none → X.A.units + min da.depth db.depth < cLine → Q (.bool (f da db)) s → wpAny (model X.prog X.w) X.A (compareOp op a b) Q E s) :
    OpR X (compareOp op) (rC2 T (ordD f)) := by
  intro pins s σ H x y v u Q I rx ry h
  obtain ⟨α, S, ds, r, S', h, rs, e, q⟩ := h
  unfold ordD at e
  split at e
  · split at e
    · rename_i p p' e1 e2
      split at e
      · rename_i hc
        cases e
        obtain ⟨v', w', e, h1, h2⟩ := rs.two
        cases e
        obtain ⟨c1, c2, c3⟩ := ordOk_iff hc
        obtain ⟨as, r1⟩ := Dp.reads I p _ _ (hK ▸ dp h h1 e1) rx
        obtain ⟨bs, r2⟩ := Dp.reads I p' _ _ (hK ▸ dp h h2 e2) ry
        refine rule r1 r2 c1 c2 ?_ ⟨.bl _, H, I, rfl, fin0 h q rfl⟩
        have := Nat.min_le_left p.depth p'.depth
        omega
      · cases e
    · cases e
  · cases e
theorem op_lt' (hK : X.K = T.K) (hu : X.A.units + 64 < cLine) : OpR X (compareOp .Lt) (rC2 T (ordD fun p q => PySem.W.dataLt p q)) := op_ord hK hu fun r1 r2 h1 h2 h3 h4 => PySem.W.lt_data r1 r2 h1 h2 h3 h4
theorem op_gt' (hK : X.K = T.K) (hu : X.A.units + 64 < cLine) : OpR X (compareOp .Gt) (rC2 T (ordD fun p q => PySem.W.dataLt q p)) := op_ord hK hu fun r1 r2 h1 h2 h3 h4 => PySem.W.gt_data r1 r2 h1 h2 h3 h4
theorem op_le' (hK : X.K = T.K) (hu : X.A.units + 64 < cLine) : OpR X (compareOp .LtE) (rC2 T (ordD fun p q => !PySem.W.dataLt q p)) := op_ord hK hu fun r1 r2 h1 h2 h3 h4 => PySem.W.le_data r1 r2 h1 h2 h3 h4
theorem op_ge' (hK : X.K = T.K) (hu : X.A.units + 64 < cLine) : OpR X (compareOp .GtE) (rC2 T (ordD fun p q => !PySem.W.dataLt p q)) := op_ord hK hu fun r1 r2 h1 h2 h3 h4 => PySem.W.ge_data r1 r2 h1 h2 h3 h4

/-! ### is None, is True -/
def D.isN : D → Bool
  | .non => true
  | _ => false
def isD : OpF := fun S ds => match ds with
  | [a, .non] => some (.bl a.isN, S)
  | [.bl a, .bl b] => some (.bl (decide (a = b)), S)
  | _ => none
def isnotD : OpF := fun S ds => match ds with
  | [a, .non] => some (.bl (!a.isN), S)
  | [.bl a, .bl b] => some (.bl (!decide (a = b)), S)
  | _ => none
theorem isNon {H : Hp} {α : List Addr} {d : D} {v : V} (r : Rep T H α d v) : decide (v = .non) = d.isN := by
  cases d with
  | non => cases r; rfl
  | bl b => cases r; rfl
  | int i => cases r; rfl
  | str x => cases r; rfl
  | tup ds => obtain ⟨a, vs, rfl, _⟩ := r; rfl
  | lst ds => obtain ⟨a, vs, rfl, _⟩ := r; rfl
  | wt ds => obtain ⟨a, vs, rfl, _⟩ := r; rfl
  | wl ds => obtain ⟨a, vs, rfl, _⟩ := r; rfl
  | ref i => obtain ⟨a, rfl, _⟩ := r; rfl
  | fn i => cases r; rfl
  | ty n => cases r; rfl
theorem op_is' : OpR X (compareOp .Is) (rC2 T isD) := by
  refine OpR.cases fun x y H Q ⟨α, S, ds, r, S', h, rs, e, q⟩ => ?_
  unfold isD at e
  split at e
  · cases e
    obtain ⟨v, w, e, h1, h2⟩ := rs.two
    cases e; cases h2
    refine ⟨_, op_isN, rfl, ?_⟩
    rw [isNon h1]
    exact fin0 h q rfl
  · cases e
    obtain ⟨v, w, e, h1, h2⟩ := rs.two
    cases e; cases h1; cases h2
    exact ⟨_, op_is_bl, _, _, rfl, rfl, fin0 h q rfl⟩
  · cases e
theorem op_isnot' : OpR X (compareOp .IsNot) (rC2 T isnotD) := by
  refine OpR.cases fun x y H Q ⟨α, S, ds, r, S', h, rs, e, q⟩ => ?_
  unfold isnotD at e
  split at e
  · cases e
    obtain ⟨v, w, e, h1, h2⟩ := rs.two
    cases e; cases h2
    refine ⟨_, op_notN, rfl, ?_⟩
    rw [isNon h1]
    exact fin0 h q rfl
  · cases e
    obtain ⟨v, w, e, h1, h2⟩ := rs.two
    cases e; cases h1; cases h2
    exact ⟨_, op_isnot_bl, _, _, rfl, rfl, fin0 h q rfl⟩
  · cases e

/-! ### dicts -/
def look {κ : Type} [DecidableEq κ] (kvs : List (κ × D)) (k : κ) : Option D := (kvs.find? fun kv => decide (kv.1 = k)).map (·.2)
def putD {κ : Type} [DecidableEq κ] (kvs : List (κ × D)) (k : κ) (v : D) : List (κ × D) :=
  if (kvs.any fun kv => decide (kv.1 = k)) = true then kvs.map fun kv => if kv.1 = k then (kv.1, v) else kv else kvs ++ [(k, v)]
def dropD {κ : Type} [DecidableEq κ] (kvs : List (κ × D)) (k : κ) : List (κ × D) := kvs.filter fun kv => decide (kv.1 ≠ k)
def keyOf : D → Option Key
  | .int i => some (.inl i)
  | .str x => some (.inr x)
  | _ => none
def keysOf : List D → Option (List Key)
  | [] => some []
  | d :: ds => match keyOf d, keysOf ds with
    | some k, some ks => some (k :: ks)
    | _, _ => none
def RO (T : TW) (H : Hp) (α : List Addr) : Option D → Option V → Prop
  | some d, r => ∃ v, r = some v ∧ Rep T H α d v
  | none, r => r = none
theorem RO.isSome {H : Hp} {α : List Addr} : ∀ {o : Option D} {r : Option V}, RO T H α o r → r.isSome = o.isSome
  | some _, _, ⟨v, e, _⟩ => by rw [e]; rfl
  | none, _, e => by rw [show _ = none from e]; rfl
section
variable {H : Hp} {α : List Addr}
theorem keyOf_rep {d : D} {v : V} {k : Key} (r : Rep T H α d v) (e : keyOf d = some k) : v = kV k := by
  unfold keyOf at e
  split at e <;> cases e <;> cases r <;> rfl
theorem keysOf_rep : ∀ {ds : List D} {vs : List V} {ks : List Key}, RepL T H α ds vs → keysOf ds = some ks → vs = ks.map kV
  | [], _, _, r, e => by cases e; cases r; rfl
  | d :: ds, _, _, r, e => by
    obtain ⟨v, vs, rfl, h1, h2⟩ := r
    rw [keysOf] at e
    split at e
    · rename_i k ks e1 e2
      cases e
      rw [keyOf_rep h1 e1, keysOf_rep h2 e2]; rfl
    · cases e
variable {κ : Type} [DecidableEq κ]
theorem RepKV.look : ∀ {kvs : List (κ × D)} {ws : List (κ × V)} (k : κ), RepKV T H α kvs ws → RO T H α (NT.look kvs k) (valV ws k)
  | [], _, k, r => by cases r; rfl
  | kd :: kvs, _, k, r => by
    obtain ⟨v, ws, rfl, h1, h2⟩ := r
    by_cases hk : kd.1 = k
    · subst hk
      simp only [NT.look, List.find?_cons, decide_true, Option.map_some]
      exact ⟨v, valV_pos rfl, h1⟩
    · have := RepKV.look k h2
      simp only [NT.look, List.find?_cons, hk, decide_false] at this ⊢
      rw [valV_neg (p := (kd.1, v)) hk]
      exact this
theorem RepKV.length : ∀ {kvs : List (κ × D)} {ws : List (κ × V)}, RepKV T H α kvs ws → kvs.length = ws.length
  | [], _, r => by cases r; rfl
  | kd :: kvs, _, r => by
    obtain ⟨v, ws, rfl, h1, h2⟩ := r
    simp [RepKV.length h2]
theorem RepKV.anyk : ∀ {kvs : List (κ × D)} {ws : List (κ × V)} (k : κ), RepKV T H α kvs ws → (kvs.any fun kv => decide (kv.1 = k)) = (ws.any fun kv => decide (kv.1 = k))
  | [], _, k, r => by cases r; rfl
  | kd :: kvs, _, k, r => by
    obtain ⟨v, ws, rfl, h1, h2⟩ := r
    simp only [List.any_cons, RepKV.anyk k h2]
theorem RepKV.repl {d : D} {v : V} (hd : Rep T H α d v) : ∀ {kvs : List (κ × D)} {ws : List (κ × V)} (k : κ), RepKV T H α kvs ws → RepKV T H α (kvs.map fun kv => if kv.1 = k then (kv.1, d) else kv) (ws.map fun kv => if kv.1 = k then (kv.1, v) else kv)
  | [], _, k, r => by cases r; rfl
  | kd :: kvs, _, k, r => by
    obtain ⟨w, ws, rfl, h1, h2⟩ := r
    simp only [List.map_cons]
    by_cases hk : kd.1 = k
    · simp only [hk, if_true]
      exact ⟨v, _, rfl, hd, RepKV.repl hd k h2⟩
    · simp only [hk, if_false]
      exact ⟨w, _, rfl, h1, RepKV.repl hd k h2⟩
theorem RepKV.snoc {d : D} {v : V} (hd : Rep T H α d v) (k : κ) : ∀ {kvs : List (κ × D)} {ws : List (κ × V)}, RepKV T H α kvs ws → RepKV T H α (kvs ++ [(k, d)]) (ws ++ [(k, v)])
  | [], _, r => by cases r; exact ⟨v, [], rfl, hd, rfl⟩
  | kd :: kvs, _, r => by
    obtain ⟨w, ws, rfl, h1, h2⟩ := r
    exact ⟨w, _, rfl, h1, RepKV.snoc hd k h2⟩
theorem RepKV.put {d : D} {v : V} (hd : Rep T H α d v) {kvs : List (κ × D)} {ws : List (κ × V)} (k : κ) (r : RepKV T H α kvs ws) : RepKV T H α (putD kvs k d) (putK ws k v) := by
  unfold putD putK
  rw [RepKV.anyk k r]
  split
  · exact RepKV.repl hd k r
  · exact RepKV.snoc hd k r
theorem RepKV.drop : ∀ {kvs : List (κ × D)} {ws : List (κ × V)} (k : κ), RepKV T H α kvs ws → RepKV T H α (dropD kvs k) (dropK ws k)
  | [], _, k, r => by cases r; rfl
  | kd :: kvs, _, k, r => by
    obtain ⟨w, ws, rfl, h1, h2⟩ := r
    unfold dropD dropK
    by_cases hk : kd.1 = k
    · simp only [List.filter_cons, hk, ne_eq, not_true_eq_false, decide_false]
      exact RepKV.drop k h2
    · simp only [List.filter_cons, hk, ne_eq, not_false_eq_true, decide_true, if_true]
      exact ⟨w, _, rfl, h1, RepKV.drop k h2⟩
end
/-- what a dict holds for a key: none: no dict, no key -/
def dGet (S : Sto) (d k : D) : Option (Option D) := match d with
  | .ref i => match S[i]? with
    | some (.dK kvs) => (keyOf k).map fun kk => look kvs kk
    | some (.dT kvs) => match k with
      | .tup ds => (keysOf ds).map fun kk => look kvs kk
      | _ => none
    | _ => none
  | _ => none
theorem dGet_ok {H : Hp} {α : List Addr} {S : Sto} {d k : D} {x y : V} {o : Option D} (h : HR T H α S) (r1 : Rep T H α d x) (r2 : Rep T H α k y) (e : dGet S d k = some o) :
    ∃ a r, x = .ref a ∧ DGet H a y r ∧ RO T H α o r := by
  unfold dGet at e
  split at e
  · obtain ⟨a, rfl, h1⟩ := r1
    split at e
    · rename_i kvs q
      obtain ⟨kk, e1, rfl⟩ := Option.map_eq_some_iff.mp e
      obtain ⟨a', u, e2, e3, ws, rfl, e4⟩ := h.cell _ _ q
      rw [h1] at e2; cases e2
      refine ⟨a, valV ws kk, rfl, keyOf_rep r2 e1 ▸ DGet.k e3, ?_⟩
      exact e4.look kk
    · rename_i kvs q
      split at e
      · rename_i ds
        obtain ⟨kk, e1, rfl⟩ := Option.map_eq_some_iff.mp e
        obtain ⟨a', u, e2, e3, ws, rfl, e4⟩ := h.cell _ _ q
        rw [h1] at e2; cases e2
        obtain ⟨b, vs, rfl, l1, l2⟩ := r2
        refine ⟨a, valV ws kk, rfl, DGet.t e3 (keysOf_rep l2 e1 ▸ l1.1), ?_⟩
        exact e4.look kk
      · cases e
    · cases e
  · cases e

/-! ### in -/
def strIn (i j : Str) : Bool := !(Builtin.Str.occurrences j i 0 j.length 1).isEmpty
def inB (S : Sto) (x c : D) : Option Bool := match dGet S c x with
  | some o => some o.isSome
  | none => match asSeq S c with
    | some (_, ds) => match x.py S, D.py0L ds with
      | some p, some ps => if SeqAt.shaped p = true ∧ SeqAt.shaped (.list ps) = true then some (ps.any fun z => PyData.eqv z p) else none
      | _, _ => none
    | none => match x, c with
      | .str i, .str j => some (strIn i j)
      | _, _ => none
def inG (g : Bool → Bool) : OpF := fun S ds => match ds with
  | [x, c] => (inB S x c).map fun b => (.bl (g b), S)
  | _ => none
theorem op_in_gen {op : CmpOp} {g : Bool → Bool} (hK : X.K = T.K)
    (r1 : ∀ {pins σ H s a y o u} {Q : Value → Shared → Prop}, Inv X pins σ H s → DGet H a y o → RelV y u → (∀ s', Inv X pins σ H s' → Q (.bool (g o.isSome)) s') → wpAny (model X.prog X.w) X.A (compareOp op u (.ref a)) Q X.xe s)
    (r2 : ∀ {s : Shared} {c x : Value} {xs : List PyData} {d : PyData} {as bs : List Addr} {Q : Value → Shared → Prop}, Reads s.heap c (.list xs) as → Reads s.heap x d bs → PyData.canLayAll0 xs = true → d.canLay0 = true → X.A.units + 1 + min (PyData.depthAll xs) d.depth < cLine → Q (.bool (g (xs.any fun y => PyData.eqv y d))) s → wpAny (model X.prog X.w) X.A (compareOp op x c) Q X.xe s)
    (r3 : ∀ {s : Shared} {c x : Value} {xs : List PyData} {d : PyData} {as bs : List Addr} {Q : Value → Shared → Prop}, Reads s.heap c (.tuple xs) as → Reads s.heap x d bs → PyData.canLayAll0 xs = true → d.canLay0 = true → X.A.units + 1 + min (PyData.depthAll xs) d.depth < cLine → Q (.bool (g (xs.any fun y => PyData.eqv y d))) s → wpAny (model X.prog X.w) X.A (compareOp op x c) Q X.xe s)
    (r4 : OpR X (compareOp op) (fun x y H Q => ∃ i j, x = .str i ∧ y = .str j ∧ Q (.bl (g (strIn i j))) H)) (hu : X.A.units + 65 < cLine) :
    OpR X (compareOp op) (rC2 T (inG g)) := by
  intro pins s σ H x y v u Q I rx ry hh
  obtain ⟨α, S, ds, r, S', h, rs, e, q⟩ := hh
  unfold inG at e
  split at e
  · rename_i dx dc
    obtain ⟨v', w', ee, h1, h2⟩ := rs.two
    cases ee
    obtain ⟨b, e1, e2⟩ := Option.map_eq_some_iff.mp e
    cases e2
    unfold inB at e1
    split at e1
    · rename_i o eo
      cases e1
      obtain ⟨a, r, rfl, dg, ho⟩ := dGet_ok h h2 h1 eo
      cases ry
      refine r1 I dg rx fun s' I' => ⟨.bl _, H, I', rfl, ?_⟩
      rw [ho.isSome]
      exact fin0 h q rfl
    · split at e1
      · rename_i bb ds eq
        split at e1
        · rename_i p ps e2 e3
          split at e1
          · rename_i hc
            cases e1
            obtain ⟨a, vs, rfl, rl, sq⟩ := asSeq_ok h h2 eq
            have da : DpAll T.K H vs ps := dp0L rl e3
            have dx := dp h h1 e2
            rw [← hK] at dx da sq
            obtain ⟨bs, rd⟩ := Dp.reads I p _ _ dx rx
            have c1 := SeqAt.canLay_of_shaped hc.1
            have c2 : PyData.canLayAll0 ps = true := SeqAt.canLay_of_shaped hc.2
            have hd := SeqAt.depth_of_shaped hc.1
            have hm := Nat.min_le_right (PyData.depthAll ps) p.depth
            cases bb with
            | true =>
              obtain ⟨as, ra⟩ := Dp.reads I (.list ps) _ _ (Dp.lst (by simpa using sq) da) ry
              exact r2 ra rd c2 c1 (by omega) ⟨.bl _, H, I, rfl, fin0 h q rfl⟩
            | false =>
              obtain ⟨as, ra⟩ := Dp.reads I (.tuple ps) _ _ (Dp.tup (by simpa using sq) da) ry
              exact r3 ra rd c2 c1 (by omega) ⟨.bl _, H, I, rfl, fin0 h q rfl⟩
          · cases e1
        · cases e1
      · split at e1
        · cases e1
          cases h1; cases h2
          exact r4 pins s σ H _ _ v u Q I rx ry ⟨_, _, rfl, rfl, fin0 h q rfl⟩
        · cases e1
  · cases e
theorem op_in' (hK : X.K = T.K) (hu : X.A.units + 65 < cLine) : OpR X (compareOp .In) (rC2 T (inG fun b => b)) :=
  op_in_gen (g := fun b => b) hK (fun I dg ry k => d_in (by omega) I dg ry k) (fun h1 h2 h3 h4 h5 h6 => SeqAt.in_list_reads h1 h2 h3 h4 h5 h6) (fun h1 h2 h3 h4 h5 h6 => SeqAt.in_tuple_reads h1 h2 h3 h4 h5 h6) op_in_str hu
theorem op_notin' (hK : X.K = T.K) (hu : X.A.units + 65 < cLine) : OpR X (compareOp .NotIn) (rC2 T (inG fun b => !b)) :=
  op_in_gen (g := fun b => !b) hK (fun I dg ry k => d_notIn (by omega) I dg ry k) (fun h1 h2 h3 h4 h5 h6 => SeqAt.notIn_list_reads h1 h2 h3 h4 h5 h6) (fun h1 h2 h3 h4 h5 h6 => SeqAt.notIn_tuple_reads h1 h2 h3 h4 h5 h6) op_notin_str hu
end
end NT
namespace NT
open PySem L2
section
variable {X : Cx} {T : TW}
theorem IxR.cases {r' : R2} (h : ∀ x y H Q, r' x y H Q → ∃ r, IxR X r ∧ r x y H Q) : IxR X r' := fun value slice pins s σ H x y v u Q I rx ry q => by
  obtain ⟨r, h1, h2⟩ := h x y H Q q
  exact h1 value slice pins s σ H x y v u Q I rx ry h2
theorem SlR.cases {r' : V → Option Int → Option Int → Hp → VK → Prop} (h : ∀ x lo hi H Q, r' x lo hi H Q → ∃ r, SlR X r ∧ r x lo hi H Q) : SlR X r' := fun pins s σ H x v vl vu lo hi sl Q I rx hs pl pu q => by
  obtain ⟨r, h1, h2⟩ := h x lo hi H Q q
  exact h1 pins s σ H x v vl vu lo hi sl Q I rx hs pl pu h2

/-! ### subscripts -/
open PySem.Spec PyProof.Rows in
theorem ix_dict (hu : X.A.units + 1 < cLine) : IxR X (fun x y H Q => ∃ a v, x = .ref a ∧ DGet H a y (some v) ∧ Q v H) := by
  intro value slice pins s σ H x y v u Q I rx ry h hs
  obtain ⟨a, z, rfl, g, q⟩ := h
  cases rx
  have hT := dict_typeIs I g
  unfold subscriptTail
  refine wpAny_bind ?_
  rw [getitemInPython_of_ne hT.not_modules]
  refine wpAny_bind (wpAny_specialOf hT PySem.F.slot_dict_getitem.lookup ?_)
  have fin : wpAny (model X.prog X.w) X.A (subscripted slice false (.ref a) u) (fun r s₃ => wpAny (model X.prog X.w) X.A (letTemporaryGo value (.ref a) r >>= fun _ => pure r) (EP X pins σ Q) X.xe s₃) X.xe s := by
    rw [hs]
    exact wpAny_operating (wpAny_mono (d_getItem (E := X.xe) hu I g ry fun w' s3 I3 rw' => (show EP X pins σ Q w' s3 from ⟨z, H, I3, rw', q⟩)) (fun r s₃ h₃ => wpAny_bind (wpAny_letTemporaryGo (wpAny_pure h₃))) fun _ _ x => x)
  first
    | exact wpAny_pure (wpAny_bind fin)
    | exact wpAny_bind (wpAny_pure (wpAny_bind fin))
    | exact wpAny_bind fin
def idxD : OpF := fun S ds => match ds with
  | [d, k] => match dGet S d k with
    | some (some v) => some (v, S)
    | some none => none
    | none => match d, k with
      | .str z, .int i => if z.length ≤ sizeLine then (atI z.cps.toList i).map fun c => (.str ⟨#[c]⟩, S) else none
      | d, .int i => match asSeq S d with
        | some (_, es) => (atI es i).map fun e => (e, S)
        | none => none
      | _, _ => none
  | _ => none
theorem RepL.atI {H : Hp} {α : List Addr} {ds : List D} {vs : List V} {i : Int} {d : D} (r : RepL T H α ds vs) (e : L2.atI ds i = some d) : ∃ v, L2.atI vs i = some v ∧ Rep T H α d v := by
  unfold L2.atI at e ⊢
  rw [← r.length]
  cases q : ixN ds.length i with
  | none => rw [q] at e; cases e
  | some j =>
    rw [q] at e
    exact r.get e
theorem ix_ok (hK : X.K = T.K) (hu : X.A.units + 1 < cLine) : IxR X (rC2 T idxD) := by
  refine IxR.cases fun x y H Q ⟨α, S, ds, r, S', h, rs, e, q⟩ => ?_
  unfold idxD at e
  split at e
  · obtain ⟨v, w, ee, h1, h2⟩ := rs.two
    cases ee
    split at e
    · rename_i d' e1
      cases e
      obtain ⟨a, o, rfl, g, v', rfl, r'⟩ := dGet_ok h h1 h2 e1
      exact ⟨_, ix_dict hu, a, v', rfl, g, fin0 h q r'⟩
    · cases e
    · split at e
      · rename_i z i _
        split at e
        · rename_i hl
          obtain ⟨c, e1, e2⟩ := Option.map_eq_some_iff.mp e
          cases e2; cases h1; cases h2
          exact ⟨_, ix_str, z, i, c, rfl, rfl, hl, e1, fin0 h q rfl⟩
        · cases e
      · rename_i d i _ _
        split at e
        · rename_i b es e1
          obtain ⟨d', e2, e3⟩ := Option.map_eq_some_iff.mp e
          cases e3; cases h2
          obtain ⟨a, vs, rfl, rl, sq⟩ := asSeq_ok h h1 e1
          obtain ⟨v', e4, r'⟩ := rl.atI e2
          rw [← hK] at sq
          cases b with
          | true => exact ⟨_, ix_list, a, vs, i, v', rfl, rfl, by simpa using sq, e4, fin0 h q r'⟩
          | false => exact ⟨_, ix_tup, a, vs, i, v', rfl, rfl, by simpa using sq, e4, fin0 h q r'⟩
        · cases e
      · cases e
  · cases e

/-! ### slices -/
def cutD (xs : List D) (lo hi : Option Int) : List D := (xs.drop (HT.sIx xs.length 0 lo)).take (HT.sIx xs.length xs.length hi - HT.sIx xs.length 0 lo)
theorem RepL.cut {H : Hp} {α : List Addr} {ds : List D} {vs : List V} (lo hi : Option Int) (r : RepL T H α ds vs) : RepL T H α (cutD ds lo hi) (cutV vs lo hi) := by
  unfold cutD cutV
  rw [r.length]
  exact (r.drop _).take _
def slcF (S : Sto) (d : D) (lo hi : Option Int) : Option D := match asSeq S d with
  | some (true, ds) => some (.lst (cutD ds lo hi))
  | some (false, ds) => match d with
    | .tup _ => some (.tup (cutD ds lo hi))
    | _ => none
  | none => none
def rSlc (T : TW) : V → Option Int → Option Int → Hp → VK → Prop := fun x lo hi H Q =>
  ∃ α S d r, HR T H α S ∧ Rep T H α d x ∧ slcF S d lo hi = some r ∧ ∀ v H' α', Ext H α H' α' → HR T H' α' S → Rep T H' α' r v → Q v H'
theorem cut_whole {ds : List D} {lo hi : Option Int} (h : HT.sIx ds.length 0 lo = 0 ∧ HT.sIx ds.length ds.length hi = ds.length) : cutD ds lo hi = ds := by
  unfold cutD
  rw [h.1, h.2]
  simp
theorem sl_ok (hK : X.K = T.K) : SlR X (rSlc T) := by
  refine SlR.cases fun x lo hi H Q ⟨α, S, d, r, h, rd, e, q⟩ => ?_
  unfold slcF at e
  split at e
  · rename_i ds e1
    cases e
    obtain ⟨a, vs, rfl, rl, sq⟩ := asSeq_ok h rd e1
    rw [← hK] at sq
    exact ⟨_, sl_list, a, vs, rfl, by simpa using sq, fun p hp => finL h q (rl.cut lo hi) hp⟩
  · rename_i ds e1
    split at e
    · cases e
      cases e1
      obtain ⟨a, vs, rfl, l, rl⟩ := id rd
      refine ⟨_, sl_tupA, a, vs, rfl, l.sq, fun hw => ?_, fun _ p hp => finT h q (rl.cut lo hi) hp⟩
      rw [← rl.length] at hw
      rw [cut_whole hw] at q
      exact fin0 h q rd
    · cases e
  · cases e

/-! ### built-in functions -/
def lenD : OpF := fun S ds => match ds with
  | [.str x] => if x.length ≤ sizeLine then some (.int x.length, S) else none
  | [d] => match asSeq S d with
    | some (_, es) => some (.int es.length, S)
    | none => match d with
      | .ref i => match S[i]? with
        | some (.dK kvs) => some (.int kvs.length, S)
        | _ => none
      | _ => none
  | _ => none
theorem call_lenDK : CallR X (.builtin "len") (fun xs H Q => ∃ a kvs, xs = [.ref a] ∧ H a = some (.dK kvs) ∧ Q (.int kvs.length) H) := by
  intro pins s σ H xs us Q I r h
  obtain ⟨a, kvs, rfl, ha, q⟩ := h
  obtain ⟨u, rfl, rx⟩ := vals1 r
  cases rx
  exact d_len I (.inl ha) fun t s' I' => ⟨.int kvs.length, H, I', ⟨_, rfl⟩, q⟩
theorem len_ok (hK : X.K = T.K) : CallR X (.builtin "len") (rC T lenD) := by
  refine CallR.cases fun xs H Q ⟨α, S, ds, r, S', h, rs, e, q⟩ => ?_
  unfold lenD at e
  split at e
  · split at e
    · rename_i hl
      cases e
      obtain ⟨v, rfl, h1⟩ := rs.one
      cases h1
      exact ⟨_, call_len_str, _, rfl, hl, fin0 h q rfl⟩
    · cases e
  · obtain ⟨v, rfl, h1⟩ := rs.one
    split at e
    · rename_i b es e1
      cases e
      obtain ⟨a, vs, rfl, rl, sq⟩ := asSeq_ok h h1 e1
      rw [← hK] at sq
      refine ⟨_, call_len_seq, a, vs, rfl, ?_, by rw [← rl.length]; exact fin0 h q rfl⟩
      cases b with
      | true => exact .inl (by simpa using sq)
      | false => exact .inr (by simpa using sq)
    · split at e
      · split at e
        · rename_i kvs q2
          cases e
          obtain ⟨a, rfl, h2⟩ := h1
          obtain ⟨a', u, e2, e3, ws, rfl, e4⟩ := h.cell _ _ q2
          rw [h2] at e2; cases e2
          exact ⟨_, call_lenDK, a, ws, rfl, e3, by rw [← e4.length]; exact fin0 h q rfl⟩
        · cases e
      · cases e
  · cases e
def absD : OpF := fun S ds => match ds with
  | [.int i] => some (.int (if i < 0 then -i else i), S)
  | _ => none
theorem abs_ok : CallR X (.builtin "abs") (rC T absD) := by
  refine CallR.cases fun xs H Q ⟨α, S, ds, r, S', h, rs, e, q⟩ => ?_
  unfold absD at e
  split at e
  · cases e
    obtain ⟨v, rfl, h1⟩ := rs.one
    cases h1
    exact ⟨_, call_abs, _, rfl, fin0 h q rfl⟩
  · cases e
def tupleD : OpF := fun S ds => match ds with
  | [.tup es] => some (.tup es, S)
  | [d] => match asSeq S d with
    | some (true, es) => some (.tup es, S)
    | _ => none
  | _ => none
theorem tuple_ok (hK : X.K = T.K) : CallR X (.type "tuple") (rC T tupleD) := by
  refine CallR.cases fun xs H Q ⟨α, S, ds, r, S', h, rs, e, q⟩ => ?_
  unfold tupleD at e
  split at e
  · cases e
    obtain ⟨v, rfl, h1⟩ := rs.one
    obtain ⟨a, vs, rfl, l, rl⟩ := id h1
    exact ⟨_, call_tupleT, a, vs, rfl, l.sq, fin0 h q h1⟩
  · obtain ⟨v, rfl, h1⟩ := rs.one
    split at e
    · rename_i es e1
      cases e
      obtain ⟨a, vs, rfl, rl, sq⟩ := asSeq_ok h h1 e1
      rw [← hK] at sq
      exact ⟨_, call_tuple_of, a, vs, rfl, .inl ⟨by simpa using sq, fun p hp => finT h q rl hp⟩⟩
    · cases e
  · cases e
def listD : OpF := fun S ds => match ds with
  | [d] => match asSeq S d with
    | some (_, es) => some (.lst es, S)
    | _ => none
  | _ => none
theorem list_ok (hK : X.K = T.K) : CallR X (.type "list") (rC T listD) := by
  refine CallR.cases fun xs H Q ⟨α, S, ds, r, S', h, rs, e, q⟩ => ?_
  unfold listD at e
  split at e
  · obtain ⟨v, rfl, h1⟩ := rs.one
    split at e
    · rename_i b es e1
      cases e
      obtain ⟨a, vs, rfl, rl, sq⟩ := asSeq_ok h h1 e1
      rw [← hK] at sq
      refine ⟨_, call_list_of, a, vs, rfl, ?_, fun p hp => finL h q rl hp⟩
      cases b with
      | true => exact .inl (by simpa using sq)
      | false => exact .inr (by simpa using sq)
    · cases e
  · cases e
def asBls : List D → Option (List Bool)
  | [] => some []
  | .bl b :: ds => (asBls ds).map (b :: ·)
  | _ => none
theorem asBls_ok {H : Hp} {α : List Addr} : ∀ {ds : List D} {bs : List Bool} {vs : List V}, RepL T H α ds vs → asBls ds = some bs → vs = bs.map V.bl
  | [], _, _, r, e => by cases e; cases r; rfl
  | .bl b :: ds, _, _, r, e => by
    obtain ⟨v, vs, rfl, h1, h2⟩ := r
    rw [asBls] at e
    obtain ⟨bs, e1, rfl⟩ := Option.map_eq_some_iff.mp e
    rw [asBls_ok h2 e1, show v = V.bl b from h1]; rfl
  | .non :: _, _, _, _, e => by cases e
  | .int _ :: _, _, _, _, e => by cases e
  | .str _ :: _, _, _, _, e => by cases e
  | .tup _ :: _, _, _, _, e => by cases e
  | .lst _ :: _, _, _, _, e => by cases e
  | .wt _ :: _, _, _, _, e => by cases e
  | .wl _ :: _, _, _, _, e => by cases e
  | .ref _ :: _, _, _, _, e => by cases e
  | .fn _ :: _, _, _, _, e => by cases e
  | .ty _ :: _, _, _, _, e => by cases e
def allD : OpF := fun S ds => match ds with
  | [d] => match asSeq S d with
    | some (true, es) => (asBls es).map fun bs => (.bl (bs.all id), S)
    | _ => none
  | _ => none
def anyD : OpF := fun S ds => match ds with
  | [d] => match asSeq S d with
    | some (true, es) => (asBls es).map fun bs => (.bl (bs.any id), S)
    | _ => none
  | _ => none
theorem all_ok (hK : X.K = T.K) (hc : X.calm = true) : CallR X (.builtin "all") (rC T allD) := by
  refine CallR.cases fun xs H Q ⟨α, S, ds, r, S', h, rs, e, q⟩ => ?_
  unfold allD at e
  split at e
  · obtain ⟨v, rfl, h1⟩ := rs.one
    split at e
    · rename_i es e1
      obtain ⟨bs, e2, e3⟩ := Option.map_eq_some_iff.mp e
      cases e3
      obtain ⟨a, vs, rfl, rl, sq⟩ := asSeq_ok h h1 e1
      rw [← hK] at sq
      rw [asBls_ok rl e2] at sq
      exact ⟨_, cr_all hc, a, bs, rfl, by simpa using sq, fin0 h q rfl⟩
    · cases e
  · cases e
theorem any_ok (hK : X.K = T.K) (hc : X.calm = true) : CallR X (.builtin "any") (rC T anyD) := by
  refine CallR.cases fun xs H Q ⟨α, S, ds, r, S', h, rs, e, q⟩ => ?_
  unfold anyD at e
  split at e
  · obtain ⟨v, rfl, h1⟩ := rs.one
    split at e
    · rename_i es e1
      obtain ⟨bs, e2, e3⟩ := Option.map_eq_some_iff.mp e
      cases e3
      obtain ⟨a, vs, rfl, rl, sq⟩ := asSeq_ok h h1 e1
      rw [← hK] at sq
      rw [asBls_ok rl e2] at sq
      exact ⟨_, cr_any hc, a, bs, rfl, by simpa using sq, fin0 h q rfl⟩
    · cases e
  · cases e
def intD : OpF := fun S ds => match ds with
  | [.int i] => some (.int i, S)
  | [.bl b] => some (.int (if b then 1 else 0), S)
  | _ => none
theorem int_ok : CallR X (.type "int") (rC T intD) := by
  refine CallR.cases fun xs H Q ⟨α, S, ds, r, S', h, rs, e, q⟩ => ?_
  unfold intD at e
  split at e
  · cases e
    obtain ⟨v, rfl, h1⟩ := rs.one
    cases h1
    exact ⟨_, call_int1, .inl ⟨_, rfl, fin0 h q rfl⟩⟩
  · cases e
    obtain ⟨v, rfl, h1⟩ := rs.one
    cases h1
    exact ⟨_, call_int1, .inr ⟨_, rfl, fin0 h q rfl⟩⟩
  · cases e

/-! ### isinstance -/
def tyName (S : Sto) : D → Option String
  | .non => some "NoneType"
  | .bl _ => some "bool"
  | .int _ => some "int"
  | .str _ => some "str"
  | .tup _ => some "tuple"
  | .wt _ => some "tuple"
  | .lst _ => some "list"
  | .wl _ => some "list"
  | .ref i => match S[i]? with
    | some (.lst _) => some "list"
    | _ => none
  | _ => none
theorem tyName_ok {H : Hp} {α : List Addr} {S : Sto} {d : D} {v : V} {n : String} (h : HR T H α S) (r : Rep T H α d v) (e : tyName S d = some n) : TyX T.K H v (.type n) := by
  cases d with
  | non => cases e; cases r; exact .base .non
  | bl b => cases e; cases r; exact .base (.bl b)
  | int i => cases e; cases r; exact .base (.int i)
  | str x => cases e; cases r; exact .base (.str x)
  | tup ds => cases e; obtain ⟨a, vs, rfl, l, _⟩ := r; exact .base (.tup l.1)
  | lst ds => cases e; obtain ⟨a, vs, rfl, l, _⟩ := r; exact .base (.lst l.1)
  | wt ds =>
    cases e
    obtain ⟨a, vs, rfl, l, _⟩ := r
    rcases l with ⟨l | ⟨o, l⟩, _⟩ | ⟨o, its, n, l1, l2, _⟩
    · exact .base (.tup l)
    · exact .fTuple l
    · exact .kTuple l1 l2
  | wl ds =>
    cases e
    obtain ⟨a, vs, rfl, l, _⟩ := r
    rcases l with ⟨l | ⟨o, l⟩, _, _⟩ | ⟨o, its, n, l1, l2, _⟩
    · exact .base (.lst l)
    · exact .base (.frz l)
    · exact .kList l1 l2
  | ref i =>
    simp only [tyName] at e
    split at e
    · rename_i ds q
      cases e
      obtain ⟨a, rfl, h1⟩ := r
      obtain ⟨a', u, e2, e3, vs, rfl, e4⟩ := h.cell _ _ q
      rw [h1] at e2; cases e2
      exact .base (.lst e3)
    · cases e
  | fn i => cases e
  | ty n => cases e
def isiB (a b : String) : Option Bool := if b ∈ ["int", "bool", "str", "tuple", "list"] then some (decide (a = b) || (decide (a = "bool") && decide (b = "int"))) else none
def isiD : OpF := fun S ds => match ds with
  | [d, .ty n] => match tyName S d with
    | some m => (isiB m n).map fun b => (.bl b, S)
    | none => none
  | _ => none
theorem isiB_kit : ∀ a ∈ ["NoneType", "bool", "int", "str", "tuple", "list"], ∀ b ∈ ["int", "bool", "str", "tuple", "list"], kitB a b = isiB a b := by
  intro a ha b hb
  simp only [List.mem_cons, List.not_mem_nil, or_false] at ha hb
  rcases ha with rfl | rfl | rfl | rfl | rfl | rfl <;> rcases hb with rfl | rfl | rfl | rfl | rfl <;> decide +kernel
theorem tyName_mem {S : Sto} {d : D} {n : String} (e : tyName S d = some n) : n ∈ ["NoneType", "bool", "int", "str", "tuple", "list"] := by
  unfold tyName at e
  split at e <;> first | (cases e; decide) | (split at e <;> first | (cases e; decide) | cases e) | cases e
theorem isi_ok (hK : X.K = T.K) : CallR X (.builtin "isinstance") (rC T isiD) := by
  refine CallR.cases fun xs H Q ⟨α, S, ds, r, S', h, rs, e, q⟩ => ?_
  unfold isiD at e
  split at e
  · rename_i d n
    obtain ⟨v, w, rfl, h1, h2⟩ := rs.two
    cases h2
    split at e
    · rename_i m e1
      obtain ⟨b, e2, e3⟩ := Option.map_eq_some_iff.mp e
      cases e3
      have ty := tyName_ok h h1 e1
      rw [← hK] at ty
      refine ⟨_, call_isi, v, .ty n, .type m, .type n, b, rfl, .ty n, ty, kit_ty ?_, fin0 h q rfl⟩
      have hn : n ∈ ["int", "bool", "str", "tuple", "list"] := by
        unfold isiB at e2
        split at e2
        · assumption
        · cases e2
      rw [isiB_kit m (tyName_mem e1) n hn]
      exact e2
    · cases e
  · cases e
end
end NT
namespace NT
open PySem L2

section
open PySem.Spec PyProof.Rows
variable {prog : Program} {w : World} {A : Around} {E : Value → Shared → Prop} {s : Shared}
def best4 (f : Int → Int → Bool) (a b c d : Int) : Int := [b, c, d].foldl (fun m x => if f x m = true then x else m) a
theorem best4_at (f : Int → Int → Bool) {a b c d : Int} {t1 t2 t3 t4 : Tok} {v : Value} (h : (intItems #[(a, t1), (b, t2), (c, t3), (d, t4)])[argBest (fun i j => f (numAt #[(a, t1), (b, t2), (c, t3), (d, t4)] i) (numAt #[(a, t1), (b, t2), (c, t3), (d, t4)] j)) 3]? = some v) : ∃ t, v = .int (best4 f a b c d) t := by
  simp only [argBest, numAt, best4, List.foldl] at h ⊢
  simp at h
  by_cases h1 : f b a = true
  · simp only [h1, if_true] at h ⊢
    by_cases h2 : f c b = true
    · simp only [h2, if_true] at h ⊢
      by_cases h3 : f d c = true <;> simp [h3, h2, h1, intItems] at h ⊢ <;> exact ⟨_, h.symm⟩
    · by_cases h3 : f d b = true <;> simp [h3, h2, h1, intItems] at h ⊢ <;> exact ⟨_, h.symm⟩
  · by_cases h2 : f c a = true
    · by_cases h3 : f d c = true <;> simp [h3, h2, h1, intItems] at h ⊢ <;> exact ⟨_, h.symm⟩
    · by_cases h3 : f d a = true <;> simp [h3, h2, h1, intItems] at h ⊢ <;> exact ⟨_, h.symm⟩
theorem args4_max (a b c d : Value) : argsOk "max" ⟨[a, b, c, d], []⟩ := by unfold argsOk; kernel_rfl
theorem max_four {a b c d : Int} {t1 t2 t3 t4 : Tok} {Q : Value → Shared → Prop} (hh : A.handled = none)
    (h : ∀ h' tk t, (∀ c o, s.heap.get? c = some o → h'.get? c = some o) → Q (.int (best4 (fun x m => decide (x > m)) a b c d) t) { s with heap := h', toks := tk }) :
    wpAny (model prog w) A (call (.builtin "max") [.int a t1, .int b t2, .int c t3, .int d t4]) Q E s := by
  have hT : (s.heap.push { cls := .type "tuple", data := .seq #[.int a t1, .int b t2, .int c t3, .int d t4] }).IsTuple s.heap.objs.size (intItems #[(a, t1), (b, t2), (c, t3), (d, t4)]) := ⟨_, Heap.get?_push_size _ rfl, rfl, 0, by simp [intItems]⟩
  have hsz : (s.heap.push { cls := .type "tuple", data := .seq #[.int a t1, .int b t2, .int c t3, .int d t4] }).objs.size = s.heap.objs.size + 1 := Heap.size_push ..
  have nm : (toString "max" ++ toString ".loop" : String) = "max.loop" := by decide
  refine call_function_tree F.kind_max F.plain_max F.entry_max (args4_max _ _ _ _) ?_
  show wpAny _ A.in1 (Builtin.Builtins.bindParams "max" ["key", "default"] 0 ⟨[], []⟩ >>= _) _ _ s
  refine wpAny_bind (wpAny_of_eq (show Builtin.Builtins.bindParams "max" ["key", "default"] 0 ⟨[], []⟩ = pure [none, none] from rfl) ?_)
  show wpAny _ A.in1 (newTuple [.int a t1, .int b t2, .int c t3, .int d t4] >>= _) _ _ s
  refine wpAny_bind (wpAny_newObj_type ?_)
  refine wpAny_bind (wpAny_pyIter_tuple hT ?_)
  refine wpAny_bind (wpAny_newObj_type ?_)
  rw [nm]
  have W := Walks.tuple (prog := prog) (w := w) (A := A.in1) hh (s.heap.push { cls := .type "tuple", data := .seq #[.int a t1, .int b t2, .int c t3, .int d t4] }).objs.size s.heap.objs.size (by rw [hsz]; exact Nat.ne_of_lt (Nat.lt_succ_self _)) (intItems #[(a, t1), (b, t2), (c, t3), (d, t4)])
  generalize hg : s.heap.push { cls := .type "tuple", data := .seq #[.int a t1, .int b t2, .int c t3, .int d t4] } = g at hT hsz W ⊢
  have kg : ∀ c o, s.heap.get? c = some o → g.get? c = some o := fun c o e => by rw [← hg]; exact Heap.get?_push_of_some _ e
  have ki : (g.push { cls := .type "tuple_iterator", data := .fields #[.ref s.heap.objs.size, .int 0 0] }).objs.size = g.objs.size + 1 := Heap.size_push ..
  refine wpAny_pure ⟨plainId_quiet F.plain_max_loop _, codeAny_max_loop_first W (fun i j => decide (numAt #[(a, t1), (b, t2), (c, t3), (d, t4)] i > numAt #[(a, t1), (b, t2), (c, t3), (d, t4)] j)) (CmpOf.ints_gt (numAt _) fun _ _ => intItems_at) (g.push { cls := .type "tuple_iterator", data := .fields #[.ref s.heap.objs.size, .int 0 0] }).objs.size ?_ (by simp [intItems]) ⟨⟨_, Heap.get?_push_of_some _ (Heap.get?_push_size _ rfl), rfl, rfl⟩, (hT.push _).push _⟩ (Heap.get?_push_size _ rfl) fun v h' tk hP hk => ?_⟩
  · rw [ki, hsz]
    simp only [List.mem_cons, List.not_mem_nil, or_false, not_or]
    constructor <;> (unfold Addr at *; omega)
  · obtain ⟨t, rfl⟩ := best4_at (fun x m => decide (x > m)) (by simpa [intItems] using hP)
    refine h h' tk t fun c o e => hk c o ?_ ?_ (Heap.get?_push_of_some _ (Heap.get?_push_of_some _ (kg c o e)))
    · have l := Heap.lt_size e
      simp only [List.mem_cons, List.not_mem_nil, or_false]
      intro z
      rw [z, hsz] at l
      exact absurd l (by show ¬ (s.heap.objs.size + 1 < s.heap.objs.size); omega)
    · have l := Heap.lt_size e
      rw [ki, hsz]
      exact Nat.ne_of_lt (Nat.lt_of_lt_of_le l (by show s.heap.objs.size ≤ s.heap.objs.size + 1 + 1; omega))
theorem args4_min (a b c d : Value) : argsOk "min" ⟨[a, b, c, d], []⟩ := by unfold argsOk; kernel_rfl
theorem min_four {a b c d : Int} {t1 t2 t3 t4 : Tok} {Q : Value → Shared → Prop} (hh : A.handled = none)
    (h : ∀ h' tk t, (∀ c o, s.heap.get? c = some o → h'.get? c = some o) → Q (.int (best4 (fun x m => decide (x < m)) a b c d) t) { s with heap := h', toks := tk }) :
    wpAny (model prog w) A (call (.builtin "min") [.int a t1, .int b t2, .int c t3, .int d t4]) Q E s := by
  have hT : (s.heap.push { cls := .type "tuple", data := .seq #[.int a t1, .int b t2, .int c t3, .int d t4] }).IsTuple s.heap.objs.size (intItems #[(a, t1), (b, t2), (c, t3), (d, t4)]) := ⟨_, Heap.get?_push_size _ rfl, rfl, 0, by simp [intItems]⟩
  have hsz : (s.heap.push { cls := .type "tuple", data := .seq #[.int a t1, .int b t2, .int c t3, .int d t4] }).objs.size = s.heap.objs.size + 1 := Heap.size_push ..
  have nm : (toString "min" ++ toString ".loop" : String) = "min.loop" := by decide
  refine call_function_tree F.kind_min F.plain_min F.entry_min (args4_min _ _ _ _) ?_
  show wpAny _ A.in1 (Builtin.Builtins.bindParams "min" ["key", "default"] 0 ⟨[], []⟩ >>= _) _ _ s
  refine wpAny_bind (wpAny_of_eq (show Builtin.Builtins.bindParams "min" ["key", "default"] 0 ⟨[], []⟩ = pure [none, none] from rfl) ?_)
  show wpAny _ A.in1 (newTuple [.int a t1, .int b t2, .int c t3, .int d t4] >>= _) _ _ s
  refine wpAny_bind (wpAny_newObj_type ?_)
  refine wpAny_bind (wpAny_pyIter_tuple hT ?_)
  refine wpAny_bind (wpAny_newObj_type ?_)
  rw [nm]
  have W := Walks.tuple (prog := prog) (w := w) (A := A.in1) hh (s.heap.push { cls := .type "tuple", data := .seq #[.int a t1, .int b t2, .int c t3, .int d t4] }).objs.size s.heap.objs.size (by rw [hsz]; exact Nat.ne_of_lt (Nat.lt_succ_self _)) (intItems #[(a, t1), (b, t2), (c, t3), (d, t4)])
  generalize hg : s.heap.push { cls := .type "tuple", data := .seq #[.int a t1, .int b t2, .int c t3, .int d t4] } = g at hT hsz W ⊢
  have kg : ∀ c o, s.heap.get? c = some o → g.get? c = some o := fun c o e => by rw [← hg]; exact Heap.get?_push_of_some _ e
  have ki : (g.push { cls := .type "tuple_iterator", data := .fields #[.ref s.heap.objs.size, .int 0 0] }).objs.size = g.objs.size + 1 := Heap.size_push ..
  refine wpAny_pure ⟨plainId_quiet F.plain_min_loop _, codeAny_min_loop_first W (fun i j => decide (numAt #[(a, t1), (b, t2), (c, t3), (d, t4)] i < numAt #[(a, t1), (b, t2), (c, t3), (d, t4)] j)) (CmpOf.ints_lt (numAt _) fun _ _ => intItems_at) (g.push { cls := .type "tuple_iterator", data := .fields #[.ref s.heap.objs.size, .int 0 0] }).objs.size ?_ (by simp [intItems]) ⟨⟨_, Heap.get?_push_of_some _ (Heap.get?_push_size _ rfl), rfl, rfl⟩, (hT.push _).push _⟩ (Heap.get?_push_size _ rfl) fun v h' tk hP hk => ?_⟩
  · rw [ki, hsz]
    simp only [List.mem_cons, List.not_mem_nil, or_false, not_or]
    constructor <;> (unfold Addr at *; omega)
  · obtain ⟨t, rfl⟩ := best4_at (fun x m => decide (x < m)) (by simpa [intItems] using hP)
    refine h h' tk t fun c o e => hk c o ?_ ?_ (Heap.get?_push_of_some _ (Heap.get?_push_of_some _ (kg c o e)))
    · have l := Heap.lt_size e
      simp only [List.mem_cons, List.not_mem_nil, or_false]
      intro z
      rw [z, hsz] at l
      exact absurd l (by show ¬ (s.heap.objs.size + 1 < s.heap.objs.size); omega)
    · have l := Heap.lt_size e
      rw [ki, hsz]
      exact Nat.ne_of_lt (Nat.lt_of_lt_of_le l (by show s.heap.objs.size ≤ s.heap.objs.size + 1 + 1; omega))

end

section
variable {X : Cx} {T : TW}
theorem call_max4 (hc : X.calm = true) : CallR X (.builtin "max") (fun xs H Q => ∃ a b c d, xs = [.int a, .int b, .int c, .int d] ∧ Q (.int (best4 (fun x m => decide (x > m)) a b c d)) H) := by
  intro pins s σ H xs us Q I r h
  obtain ⟨a, b, c, d, rfl, q⟩ := h
  cases r with
  | cons r1 r => cases r with
    | cons r2 r => cases r with
      | cons r3 r => cases r with
        | cons r4 r =>
          cases r
          obtain ⟨t1, rfl⟩ := r1
          obtain ⟨t2, rfl⟩ := r2
          obtain ⟨t3, rfl⟩ := r3
          obtain ⟨t4, rfl⟩ := r4
          exact max_four (I.ok.hd hc) fun h' tk t k => ⟨.int _, H, I.kept k, ⟨t, rfl⟩, q⟩
/-- the greatest, the least of a list of ints -/
def topOf : List Int → Option Int
  | [] => none
  | x :: xs => some (xs.foldl max x)
def lowOf : List Int → Option Int
  | [] => none
  | x :: xs => some (xs.foldl min x)
theorem foldl_max_ge : ∀ (xs : List Int) (x : Int), x ≤ xs.foldl max x ∧ ∀ y ∈ xs, y ≤ xs.foldl max x
  | [], x => ⟨Int.le_refl _, fun y h => by cases h⟩
  | z :: xs, x => by
    obtain ⟨h1, h2⟩ := foldl_max_ge xs (max x z)
    refine ⟨Int.le_trans (Int.le_max_left _ _) h1, fun y h => ?_⟩
    rcases List.mem_cons.mp h with rfl | h
    · exact Int.le_trans (Int.le_max_right _ _) h1
    · exact h2 y h
theorem foldl_max_mem : ∀ (xs : List Int) (x : Int), xs.foldl max x ∈ x :: xs
  | [], x => by simp
  | z :: xs, x => by
    have h := foldl_max_mem xs (max x z)
    simp only [List.foldl_cons]
    rcases List.mem_cons.mp h with e | h
    · rw [e]
      rcases (by omega : max x z = x ∨ max x z = z) with e | e <;> rw [e] <;> simp
    · exact List.mem_cons_of_mem _ (List.mem_cons_of_mem _ h)
theorem foldl_min_le : ∀ (xs : List Int) (x : Int), xs.foldl min x ≤ x ∧ ∀ y ∈ xs, xs.foldl min x ≤ y
  | [], x => ⟨Int.le_refl _, fun y h => by cases h⟩
  | z :: xs, x => by
    obtain ⟨h1, h2⟩ := foldl_min_le xs (min x z)
    refine ⟨Int.le_trans h1 (Int.min_le_left _ _), fun y h => ?_⟩
    rcases List.mem_cons.mp h with rfl | h
    · exact Int.le_trans h1 (Int.min_le_right _ _)
    · exact h2 y h
theorem foldl_min_mem : ∀ (xs : List Int) (x : Int), xs.foldl min x ∈ x :: xs
  | [], x => by simp
  | z :: xs, x => by
    have h := foldl_min_mem xs (min x z)
    simp only [List.foldl_cons]
    rcases List.mem_cons.mp h with e | h
    · rw [e]
      rcases (by omega : min x z = x ∨ min x z = z) with e | e <;> rw [e] <;> simp
    · exact List.mem_cons_of_mem _ (List.mem_cons_of_mem _ h)
theorem topOf_eq {ns : List Int} {m t : Int} (e : topOf ns = some t) (h1 : m ∈ ns) (h2 : ∀ y ∈ ns, y ≤ m) : m = t := by
  cases ns with
  | nil => cases e
  | cons x xs =>
    cases e
    have a := h2 _ (foldl_max_mem xs x)
    obtain ⟨b1, b2⟩ := foldl_max_ge xs x
    rcases List.mem_cons.mp h1 with rfl | h
    · omega
    · have := b2 _ h; omega
theorem lowOf_eq {ns : List Int} {m t : Int} (e : lowOf ns = some t) (h1 : m ∈ ns) (h2 : ∀ y ∈ ns, m ≤ y) : m = t := by
  cases ns with
  | nil => cases e
  | cons x xs =>
    cases e
    have a := h2 _ (foldl_min_mem xs x)
    obtain ⟨b1, b2⟩ := foldl_min_le xs x
    rcases List.mem_cons.mp h1 with rfl | h
    · omega
    · have := b2 _ h; omega
def asInts : List D → Option (List Int)
  | [] => some []
  | .int i :: ds => (asInts ds).map (i :: ·)
  | _ => none
theorem asInts_eq : ∀ {ds : List D} {ns : List Int}, asInts ds = some ns → ds = ns.map D.int
  | [], _, e => by cases e; rfl
  | .int b :: ds, _, e => by
    rw [asInts] at e
    obtain ⟨ns, e1, rfl⟩ := Option.map_eq_some_iff.mp e
    rw [asInts_eq e1]; rfl
  | .non :: _, _, e => by cases e
  | .bl _ :: _, _, e => by cases e
  | .str _ :: _, _, e => by cases e
  | .tup _ :: _, _, e => by cases e
  | .lst _ :: _, _, e => by cases e
  | .wt _ :: _, _, e => by cases e
  | .wl _ :: _, _, e => by cases e
  | .ref _ :: _, _, e => by cases e
  | .fn _ :: _, _, e => by cases e
  | .ty _ :: _, _, e => by cases e
theorem asInts_map (ns : List Int) : asInts (ns.map D.int) = some ns := by
  induction ns with
  | nil => rfl
  | cons n ns ih => simp [asInts, ih]
def maxD : OpF := fun S ds => match ds with
  | [.int i, .int j] => some (.int (if j > i then j else i), S)
  | [.int a, .int b, .int c, .int d] => some (.int (best4 (fun x m => decide (x > m)) a b c d), S)
  | [d] => match asSeq S d with
    | some (true, es) => ((asInts es).bind topOf).map fun m => (.int m, S)
    | _ => none
  | _ => none
def minD : OpF := fun S ds => match ds with
  | [.int i, .int j] => some (.int (if j < i then j else i), S)
  | [d] => match asSeq S d with
    | some (true, es) => ((asInts es).bind lowOf).map fun m => (.int m, S)
    | _ => none
  | _ => none
theorem max_ok (hK : X.K = T.K) (hc : X.calm = true) : CallR X (.builtin "max") (rC T maxD) := by
  refine CallR.cases fun xs H Q ⟨α, S, ds, r, S', h, rs, e, q⟩ => ?_
  unfold maxD at e
  split at e
  · cases e
    obtain ⟨v, w, rfl, h1, h2⟩ := rs.two
    cases h1; cases h2
    exact ⟨_, call_max2 hc, _, _, rfl, fin0 h q rfl⟩
  · cases e
    obtain ⟨v1, r1, rfl, h1, rs⟩ := rs
    obtain ⟨v2, r2, rfl, h2, rs⟩ := rs
    obtain ⟨v3, v4, rfl, h3, h4⟩ := RepL.two rs
    cases h1; cases h2; cases h3; cases h4
    exact ⟨_, call_max4 hc, _, _, _, _, rfl, fin0 h q rfl⟩
  · obtain ⟨v, rfl, h1⟩ := rs.one
    split at e
    · rename_i es e1
      obtain ⟨m, e2, e3⟩ := Option.map_eq_some_iff.mp e
      cases e3
      obtain ⟨ns, e4, e5⟩ := Option.bind_eq_some_iff.mp e2
      obtain ⟨a, vs, rfl, rl, sq⟩ := asSeq_ok h h1 e1
      rw [← hK] at sq
      rw [asInts_eq e4] at rl
      rw [RepL.ints rl] at sq
      refine ⟨_, cr_max hc, a, ns, rfl, by simpa using sq, ?_, fun m' m1 m2 => ?_⟩
      · cases ns with
        | nil => cases e5
        | cons _ _ => simp
      · rw [topOf_eq e5 m1 m2]
        exact fin0 h q rfl
    · cases e
  · cases e
theorem min_ok (hK : X.K = T.K) (hc : X.calm = true) : CallR X (.builtin "min") (rC T minD) := by
  refine CallR.cases fun xs H Q ⟨α, S, ds, r, S', h, rs, e, q⟩ => ?_
  unfold minD at e
  split at e
  · cases e
    obtain ⟨v, w, rfl, h1, h2⟩ := rs.two
    cases h1; cases h2
    exact ⟨_, call_min2 hc, _, _, rfl, fin0 h q rfl⟩
  · obtain ⟨v, rfl, h1⟩ := rs.one
    split at e
    · rename_i es e1
      obtain ⟨m, e2, e3⟩ := Option.map_eq_some_iff.mp e
      cases e3
      obtain ⟨ns, e4, e5⟩ := Option.bind_eq_some_iff.mp e2
      obtain ⟨a, vs, rfl, rl, sq⟩ := asSeq_ok h h1 e1
      rw [← hK] at sq
      rw [asInts_eq e4] at rl
      rw [RepL.ints rl] at sq
      refine ⟨_, cr_min hc, a, ns, rfl, by simpa using sq, ?_, fun m' m1 m2 => ?_⟩
      · cases ns with
        | nil => cases e5
        | cons _ _ => simp
      · rw [lowOf_eq e5 m1 m2]
        exact fin0 h q rfl
    · cases e
  · cases e
def sumD : OpF := fun S ds => match ds with
  | [d] => match asSeq S d with
    | some (true, es) => (asInts es).map fun ns => (.int ns.sum, S)
    | _ => none
  | _ => none
theorem sum_ok (hK : X.K = T.K) (hc : X.calm = true) : CallR X (.builtin "sum") (rC T sumD) := by
  refine CallR.cases fun xs H Q ⟨α, S, ds, r, S', h, rs, e, q⟩ => ?_
  unfold sumD at e
  split at e
  · obtain ⟨v, rfl, h1⟩ := rs.one
    split at e
    · rename_i es e1
      obtain ⟨ns, e4, e3⟩ := Option.map_eq_some_iff.mp e
      cases e3
      obtain ⟨a, vs, rfl, rl, sq⟩ := asSeq_ok h h1 e1
      rw [← hK] at sq
      rw [asInts_eq e4] at rl
      rw [RepL.ints rl] at sq
      exact ⟨_, cr_sum hc, a, ns, rfl, by simpa using sq, fin0 h q rfl⟩
    · cases e
  · cases e

/-! ### sorted -/
def encD (d : D) : PyData := d.py0.getD .none
def sortOk (ps : List PyData) : Bool := (ps.all fun p => ps.all fun q => PySem.W.alike p q) && (ps.all fun p => decide (p.depth ≤ 60)) &&
  ((ps.all fun p => match p with | .tuple (_ :: _) => true | _ => false) || (ps.all fun p => match p with | .none => false | .tuple _ => false | _ => true))
def sortL (ds : List D) : List D := ds.mergeSort (PySem.W.dataLe false encD)
def keyD : Key → D
  | .inl i => .int i
  | .inr x => .str x
def dictKeys (S : Sto) : D → Option (List D)
  | .ref i => match S[i]? with
    | some (.dK kvs) => some (kvs.map fun kv => keyD kv.1)
    | some (.dT kvs) => some (kvs.map fun kv => .tup (kv.1.map keyD))
    | _ => none
  | _ => none
/-- the items that are walked -/
def itemsOf (S : Sto) (d : D) : Option (List D) := match asSeq S d with
  | some (_, es) => some es
  | none => dictKeys S d
def sortedD : OpF := fun S ds => match ds with
  | [d] => match itemsOf S d with
    | some es => match D.py0L es with
      | some ps => if sortOk ps = true ∧ es.length ≤ sizeLine then some (.lst (sortL es), S) else none
      | none => none
    | none => none
  | _ => none
theorem sortOk_all {ps : List PyData} (h : sortOk ps = true) : PySem.W.AllAlike ps ∧ PySem.W.Sortable ps ∧ ∀ p ∈ ps, p.depth ≤ 60 := by
  unfold sortOk at h
  simp only [Bool.and_eq_true, Bool.or_eq_true, List.all_eq_true, decide_eq_true_eq] at h
  obtain ⟨⟨h1, h2⟩, h3⟩ := h
  refine ⟨fun p hp q hq => h1 p hp q hq, ?_, h2⟩
  rcases h3 with h3 | h3
  · refine .inl fun p hp => ?_
    have := h3 p hp
    split at this
    · exact ⟨_, _, rfl⟩
    · cases this
  · refine .inr fun p hp => ?_
    have := h3 p hp
    refine ⟨?_, ?_⟩
    · rintro rfl; cases this
    · rintro xs rfl; cases this
theorem py0L_enc : ∀ {ds : List D} {ps : List PyData}, D.py0L ds = some ps → ps = ds.map encD ∧ ∀ d ∈ ds, d.py0 = some (encD d)
  | [], _, e => by cases e; exact ⟨rfl, fun d h => by cases h⟩
  | d :: ds, _, e => by
    rw [D.py0L] at e
    split at e
    · rename_i p ps e1 e2
      cases e
      obtain ⟨h1, h2⟩ := py0L_enc e2
      refine ⟨by rw [h1]; simp [encD, e1], fun d' h => ?_⟩
      rcases List.mem_cons.mp h with rfl | h
      · simp [encD, e1]
      · exact h2 d' h
    · cases e
end
end NT
namespace NT
open PySem L2
section
variable {X : Cx} {T : TW}
/-- a value that stands for a D -/
def RV (T : TW) (H : Hp) (α : List Addr) (u : Value) (d : D) : Prop := ∃ v, Rep T H α d v ∧ RelV v u
theorem each_of {H : Hp} {α : List Addr} : ∀ {ds : List D} {vs : List V} {us : List Value}, RepL T H α ds vs → Vals vs us → PySem.W.EachIs (RV T H α) us ds
  | [], _, _, r, v => by
    cases r
    cases v
    exact .nil
  | d :: ds, _, _, r, v => by
    obtain ⟨x, xs, rfl, h1, h2⟩ := r
    cases v with
    | cons v1 v2 => exact .cons ⟨x, h1, v1⟩ (each_of h2 v2)
theorem of_each {H : Hp} {α : List Addr} : ∀ {us : List Value} {ds : List D}, PySem.W.EachIs (RV T H α) us ds → ∃ vs, RepL T H α ds vs ∧ Vals vs us
  | _, _, .nil => ⟨[], rfl, .nil⟩
  | _, _, .cons ⟨x, h1, h2⟩ r => by
    obtain ⟨vs, h3, h4⟩ := of_each r
    exact ⟨x :: vs, ⟨x, vs, rfl, h1, h3⟩, .cons h2 h4⟩
theorem each_reads {pins σ H s} {α : List Addr} (hK : X.K = T.K) (I : L2.Inv X pins σ H s) : ∀ {us : List Value} {ds : List D}, PySem.W.EachIs (RV T H α) us ds → (∀ d ∈ ds, d.py0 = some (encD d)) → PySem.W.EachIs (fun v b => ∃ as, Reads s.heap v (encD b) as) us ds
  | _, _, .nil, _ => .nil
  | _, _, .cons ⟨x, h1, h2⟩ r, h => by
    refine .cons ?_ (each_reads hK I r fun d hd => h d (List.mem_cons_of_mem _ hd))
    exact Dp.reads I _ _ _ (hK ▸ dp0 h1 (h _ List.mem_cons_self)) h2
theorem each_at {R : Value → D → Prop} : ∀ {us : List Value} {ds : List D}, us.length = ds.length → (∀ (i : Nat) (u : Value) (d : D), us[i]? = some u → ds[i]? = some d → R u d) → PySem.W.EachIs R us ds
  | [], [], _, _ => .nil
  | u :: us, d :: ds, hl, h => .cons (h 0 u d rfl rfl) (each_at (by simpa using hl) fun i u' d' e1 e2 => h (i + 1) u' d' (by simpa using e1) (by simpa using e2))
  | [], _ :: _, hl, _ => by simp at hl
  | _ :: _, [], hl, _ => by simp at hl

theorem RV.key {P : Program} {w : World} {H : Hp} {α : List Addr} {k : Key} {u : Value} (h : (mixKind P w).is k u = true) : RV T H α u (keyD k) := by
  rcases keyIs_shape (show keyIs k u = true from h) with ⟨i, t, rfl, rfl⟩ | ⟨x, t, rfl, rfl⟩
  · exact ⟨.int i, rfl, ⟨t, rfl⟩⟩
  · exact ⟨.str x, rfl, ⟨t, rfl⟩⟩
theorem rep_keys {H : Hp} {α : List Addr} : ∀ ks : List Key, RepL T H α (ks.map keyD) (ks.map kV)
  | [] => rfl
  | .inl i :: ks => ⟨_, _, rfl, rfl, rep_keys ks⟩
  | .inr x :: ks => ⟨_, _, rfl, rfl, rep_keys ks⟩
theorem RepKV.at {κ : Type} {H : Hp} {α : List Addr} : ∀ {kvs : List (κ × D)} {ws : List (κ × V)} {i : Nat} {kd : κ × D}, RepKV T H α kvs ws → kvs[i]? = some kd → ∃ v, ws[i]? = some (kd.1, v) ∧ Rep T H α kd.2 v
  | [], _, _, _, _, e => by simp at e
  | _ :: _, _, 0, _, r, e => by
    obtain ⟨v, ws, rfl, h1, h2⟩ := r
    simp at e; subst e
    exact ⟨v, rfl, h1⟩
  | _ :: _, _, i + 1, _, r, e => by
    obtain ⟨v, ws, rfl, h1, h2⟩ := r
    obtain ⟨w, e1, e2⟩ := RepKV.at (i := i) h2 (by simpa using e)
    exact ⟨w, by simpa using e1, e2⟩
theorem paired_at {α β : Type} {F : α → β → Prop} : ∀ {xs : List α} {ys : List β} {i : Nat} {x : α}, PySem.Paired F xs ys → xs[i]? = some x → ∃ y, ys[i]? = some y ∧ F x y
  | _, _, _, _, .nil, e => by simp at e
  | _, _, 0, _, .cons h _, e => by
    simp at e; subst e
    exact ⟨_, rfl, h⟩
  | _, _, i + 1, _, .cons _ t, e => by
    obtain ⟨y, e1, e2⟩ := paired_at (i := i) t (by simpa using e)
    exact ⟨y, by simpa using e1, e2⟩
theorem HR.noTup {H : Hp} {α : List Addr} {S : Sto} (h : HR T H α S) {b : Addr} {xs : List V} (e : H b = some (.tup xs)) : b ∉ α := fun hm => by
  obtain ⟨i, hi⟩ := List.getElem?_of_mem hm
  have hl : i < S.length := by rw [← h.len]; exact (List.getElem?_eq_some_iff.mp hi).1
  obtain ⟨a, u, e1, e2, e3⟩ := h.cell i S[i] (by simp [hl])
  rw [hi] at e1; cases e1
  rw [e] at e2; cases e2
  cases hS : S[i] with
  | lst ds => rw [hS] at e3; obtain ⟨_, z, _⟩ := e3; cases z
  | dK ds => rw [hS] at e3; obtain ⟨_, z, _⟩ := e3; cases z
  | dT ds => rw [hS] at e3; obtain ⟨_, z, _⟩ := e3; cases z
  | ins c fs => rw [hS] at e3; obtain ⟨_, _, z, _⟩ := e3; cases z

/-- all items of a thing, collected into a list -/
def Coll (X : Cx) (T : TW) (f : Value → Sem (List Value)) : Prop :=
  ∀ (pins : List (Addr × Obj)) (s : Shared) (σ : St) (H : Hp) (α : List Addr) (S : Sto) (d : D) (v : V) (u : Value) (es : List D) (R : List Value → Shared → Prop) (E : Value → Shared → Prop), L2.Inv X pins σ H s → HR T H α S → Rep T H α d v → RelV v u → itemsOf S d = some es →
    (∀ h' tk acc, (∀ b o, s.heap.get? b = some o → h'.get? b = some o) → PySem.W.EachIs (RV T H α) acc es → acc.length ≤ sizeLine → R acc { s with heap := h', toks := tk }) → wpAny (model X.prog X.w) X.A.in1 (f u) R E s
open PySem.Spec PyProof.Rows in
theorem coll_ok (hK : X.K = T.K) (hc : X.calm = true) : Coll X T collect := by
  intro pins s σ H α S d v u es R E I h r rx e k
  have hh : X.A.in1.handled = none := I.ok.hd hc
  unfold itemsOf at e
  split at e
  · rename_i b es' e1
    cases e
    obtain ⟨a, vs, rfl, rl, sq⟩ := asSeq_ok h r e1
    rw [← hK] at sq
    cases rx
    cases b with
    | true =>
      obtain ⟨its, rv, ⟨o, n, ho, hc, hd, hdat⟩, hz⟩ := I.list (by simpa using sq)
      refine wpAny_collect_seq a (.inl rfl) ho hc hdat (fun h' hk => ?_) (by rw [List.size_toArray, ← rv.length]; exact hz)
      exact k h' s.toks its hk (each_of rl rv) (by rw [← rv.length]; exact hz)
    | false =>
      obtain ⟨its, rv, ⟨o, ho, hc, n, hdat⟩, hz⟩ := I.tuple (by simpa using sq)
      refine wpAny_collect_seq a (.inr rfl) ho hc hdat (fun h' hk => ?_) (by rw [List.size_toArray, ← rv.length]; exact hz)
      exact k h' s.toks its hk (each_of rl rv) (by rw [← rv.length]; exact hz)
  · unfold dictKeys at e
    split at e
    · obtain ⟨a, rfl, h1⟩ := r
      cases rx
      split at e
      · rename_i kvs q
        cases e
        obtain ⟨a', u, e2, e3, ws, rfl, e4⟩ := h.cell _ _ q
        rw [h1] at e2; cases e2
        obtain ⟨hz, hd, vs, rel, dd⟩ := dk_of I.hok e3
        obtain ⟨es, ep, raw, hsz, hat⟩ := dd.raw
        have hl := rel.length
        have hl2 := e4.length
        refine PySem.W.kdu_collect (A := X.A.in1) (PySem.KdlSrc.rawDict hd) hh raw (by omega) fun h' tk acc hk hacc => ?_
        refine k h' tk acc.toList hk (each_at (by rw [Array.length_toList, hacc.1, List.length_map]; omega) fun i u d e5 e6 => ?_) (by rw [Array.length_toList, hacc.1]; omega)
        obtain ⟨hi, rfl⟩ := hacc.2 i u (by rw [← Array.getElem?_toList]; exact e5)
        rw [List.getElem?_map] at e6
        obtain ⟨kd, e7, rfl⟩ := Option.map_eq_some_iff.mp e6
        obtain ⟨v, e8, _⟩ := e4.at e7
        obtain ⟨⟨k', w'⟩, e9, e10, _⟩ := paired_at rel e8
        have e10' : kd.1 = k' := e10
        subst e10'
        exact RV.key (hat i hi _ _ e9).1
      · rename_i kvs q
        cases e
        obtain ⟨a', u, e2, e3, ws, rfl, e4⟩ := h.cell _ _ q
        rw [h1] at e2; cases e2
        obtain ⟨hz, hd, xs, rel, dd⟩ := dt_of I.hok e3
        obtain ⟨es, ep, raw, hsz, hat⟩ := dd.raw
        have hl := Paired.length rel
        have hl2 := e4.length
        refine PySem.W.kdu_collect (A := X.A.in1) (PySem.KdlSrc.rawDict hd) hh raw (by omega) fun h' tk acc hk hacc => ?_
        refine k h' tk acc.toList hk (each_at (by rw [Array.length_toList, hacc.1, List.length_map]; omega) fun i u d e5 e6 => ?_) (by rw [Array.length_toList, hacc.1]; omega)
        obtain ⟨hi, rfl⟩ := hacc.2 i u (by rw [← Array.getElem?_toList]; exact e5)
        rw [List.getElem?_map] at e6
        obtain ⟨kd, e7, rfl⟩ := Option.map_eq_some_iff.mp e6
        obtain ⟨v, e8, _⟩ := e4.at e7
        obtain ⟨y, e9, e10, e11, _⟩ := paired_at rel e8
        obtain ⟨y', e12, e13, _⟩ := hat i hi
        rw [e9] at e12; cases e12
        rw [e13]
        exact ⟨.ref y.2.1, ⟨y.2.1, _, rfl, ⟨e11, h.noTup e11⟩, rep_keys _⟩, rfl⟩
      · cases e
    · cases e

open PySem.Spec PyProof.Rows in
theorem sorted_ok (hK : X.K = T.K) (hc : X.calm = true) (hu : X.A.units + 64 < cLine) : CallR X (.builtin "sorted") (rC T sortedD) := by
  intro pins s σ H xs us Q I r h
  obtain ⟨α, S, ds, r', S', h, rs, e, q⟩ := h
  unfold sortedD at e
  split at e
  · obtain ⟨v, rfl, h1⟩ := rs.one
    split at e
    · rename_i es e1
      split at e
      · rename_i ps e2
        split at e
        · rename_i hok
          cases e
          obtain ⟨u, rfl, rx⟩ := vals1 r
          obtain ⟨e3, e4⟩ := py0L_enc e2
          subst e3
          obtain ⟨a1, a2, a3⟩ := sortOk_all hok.1
          refine Calls.call_function_entry PyProof.Rows.kind_sorted PyProof.Rows.plain_sorted PyProof.Rows.entry_sorted (PyProof.Rows.args_sorted1 _) ?_
          unfold Builtin.«sorted»
          refine wpAny_bind (m := checkCount "sorted" 1 1 _) (wpAny_pure ?_)
          refine wpAny_bind (coll_ok hK hc pins s σ H α S _ _ _ es _ _ I h h1 rx e1 fun h' tk acc hk hacc hz => ?_)
          have I1 : L2.Inv X pins σ H { s with heap := h', toks := tk } := I.kept hk
          refine wpAny_bind (wpAny_newList ?_ hz)
          have hoL : (h'.push (seqObj "list" acc.toArray 0)).get? h'.objs.size = some (seqObj "list" acc.toArray 0) := Heap.get?_push_size _ rfl
          have hR : PySem.W.EachIs (fun v b => ∃ as, Reads (PySem.W.sortingHeap (h'.push (seqObj "list" acc.toArray 0)) h'.objs.size acc) v (encD b) as) acc es :=
            (each_reads hK I1 hacc e4).mono fun _ _ ⟨as, rr⟩ => ⟨as, PyProof.Rows.Reads.keeps (fun b o q => PySem.W.sortingHeap_old (Nat.ne_of_lt (Heap.lt_size q)) (Heap.get?_push_of_some _ q)) rr⟩
          show wpAny _ _ _ _ _ { s with heap := h'.push (seqObj "list" acc.toArray 0), toks := tk }
          refine wpAny_bind (wpAny_holding (wpAny_call_entry PyProof.Rows.slot_list_sort ⟨_, hoL, rfl⟩ PyProof.Rows.entry_list_sort
            (PySem.W.list_sort_vals (s := { s with heap := h'.push (seqObj "list" acc.toArray 0), toks := tk }) hoL
              (PySem.W.SortsAt.data (s := { s with heap := PySem.W.sortingHeap (h'.push (seqObj "list" acc.toArray 0)) h'.objs.size acc, toks := tk }) (PySem.W.each_map (R := fun v d => ∃ as, Reads (PySem.W.sortingHeap (h'.push (seqObj "list" acc.toArray 0)) h'.objs.size acc) v d as) encD hR) a1 a2 (fun d hd => by have := a3 d hd; show X.A.units + 2 + d.depth < cLine; omega)) (by exact hz) ⟨.none, rfl, ?_⟩) (PyProof.Rows.args_list_sort _)))
          have eo := PySem.W.sortVals_data (h' := PySem.W.sortingHeap (h'.push (seqObj "list" acc.toArray 0)) h'.objs.size acc) (enc := encD) false hacc hR a1
          obtain ⟨ws, w1, w2⟩ := of_each eo
          obtain ⟨e', he'⟩ := PyProof.Rows.sortedHeap_at (vs := acc) (out := (PySem.W.sortVals (PySem.W.dataKind (PySem.W.sortingHeap (h'.push (seqObj "list" acc.toArray 0)) h'.objs.size acc) (es.map encD)) false acc acc).toArray) hoL
          have hlen : ws.length ≤ sizeLine := by
            rw [← w1.length, List.length_mergeSort]
            exact hok.2
          refine wpAny_pure ⟨_, rfl, .ref h'.objs.size, upd H h'.objs.size (.lst ws), I1.laid (t' := tk) (fun b u e => ?_) (Nat.le_refl _)
            (show ObjOk X.prog X.w _ _ _ (.lst ws) from ⟨hlen, _, e', w2, he'⟩), rfl, finL h q w1 (I1.hok.fresh (Nat.le_refl _))⟩
          have hb : b < h'.objs.size := Heap.lt_size e
          rw [PyProof.Rows.sortedHeap_old (Nat.ne_of_lt hb) (by rw [size_push']; exact Nat.lt_succ_of_lt hb)]
          exact Heap.get?_push_of_some _ e
        · cases e
      · cases e
    · cases e
  · cases e
end
end NT
namespace NT
open PySem L2
section
variable {X : Cx} {T : TW}
/-- a method of a built-in type; the receiver is the first -/
def rM (T : TW) (f : OpF) : V → List V → Hp → VK → Prop := fun x xs H Q => rC T f (x :: xs) H Q
theorem MtR.cases {id : String} {r' : V → List V → Hp → VK → Prop} (h : ∀ x xs H Q, r' x xs H Q → ∃ r, MtR X id r ∧ r x xs H Q) : MtR X id r' := fun pins s σ H x xs v us Q I rx rs q => by
  obtain ⟨r, h1, h2⟩ := h x xs H Q q
  exact h1 pins s σ H x xs v us Q I rx rs h2
section
variable {H : Hp} {α : List Addr} {S : Sto} {Q : VK} {r : D}
/-- a cell is written, a plain value handed back -/
theorem finW {i : Nat} {a : Addr} {c : Cell} {o : HO} {v : V} (h : HR T H α S) (q : ∀ v H' α', Ext H α H' α' → HR T H' α' (S.set i c) → Rep T H' α' r v → Q v H') (hi : α[i]? = some a) (hc : CRep T H α c o) (hv : Rep T H α r v) : Q v (upd H a o) := by
  have e := Ext.write (H := H) (List.mem_of_getElem? hi) o
  exact q _ _ _ e (h.write hi hc) (hv.ext e)
/-- a new cell, handed back -/
theorem finN {p : Addr} {c : Cell} {o : HO} (h : HR T H α S) (q : ∀ v H' α', Ext H α H' α' → HR T H' α' (S ++ [c]) → Rep T H' α' (.ref S.length) v → Q v H') (hp : H p = none) (hc : CRep T H α c o) : Q (.ref p) (upd H p o) :=
  q _ _ _ (Ext.cell h hp o) (h.push hp hc) ⟨p, rfl, by rw [← h.len]; simp⟩
end
theorem RepL.eraseIdx {H : Hp} {α : List Addr} : ∀ {ds : List D} {vs : List V} (i : Nat), RepL T H α ds vs → RepL T H α (ds.eraseIdx i) (vs.eraseIdx i)
  | [], _, _, r => by cases r; exact rfl
  | _ :: _, _, 0, r => by
    obtain ⟨v, vs, rfl, h1, h2⟩ := r
    exact h2
  | _ :: _, _, i + 1, r => by
    obtain ⟨v, vs, rfl, h1, h2⟩ := r
    exact ⟨v, _, rfl, h1, RepL.eraseIdx i h2⟩
theorem RepL.dropLast {H : Hp} {α : List Addr} : ∀ {ds : List D} {vs : List V}, RepL T H α ds vs → RepL T H α ds.dropLast vs.dropLast
  | [], _, r => by cases r; exact rfl
  | [_], _, r => by
    obtain ⟨v, vs, rfl, h1, h2⟩ := r
    cases h2
    exact rfl
  | _ :: _ :: _, _, r => by
    obtain ⟨v, vs, rfl, h1, h2⟩ := r
    have := RepL.dropLast h2
    obtain ⟨w, ws, rfl, h3, h4⟩ := h2
    exact ⟨v, _, rfl, h1, this⟩

def appendD : OpF := fun S ds => match ds with
  | [.ref i, d] => match cellL S i with
    | some es => if es.length < sizeLine then some (.non, S.set i (.lst (es ++ [d]))) else none
    | none => none
  | _ => none
theorem append_ok : MtR X "list.append" (rM T appendD) := by
  refine MtR.cases fun x xs H Q ⟨α, S, ds, r, S', h, rs, e, q⟩ => ?_
  unfold appendD at e
  split at e
  · obtain ⟨v, w, ee, h1, h2⟩ := rs.two
    cases ee
    split at e
    · rename_i es e1
      split at e
      · rename_i hl
        cases e
        obtain ⟨a, vs, rfl, ha, hH, rl⟩ := cellL_ok h h1 e1
        exact ⟨_, mt_append, a, vs, w, rfl, rfl, hH, by rw [← rl.length]; exact hl, finW h q ha ⟨_, rfl, rl.append ⟨w, [], rfl, h2, rfl⟩⟩ rfl⟩
      · cases e
    · cases e
  · cases e
def extendD : OpF := fun S ds => match ds with
  | [.ref i, d] => match cellL S i, trkL S d with
    | some es, some fs => if es.length + fs.length ≤ sizeLine then some (.non, S.set i (.lst (es ++ fs))) else none
    | _, _ => none
  | _ => none
theorem extend_ok : MtR X "list.extend" (rM T extendD) := by
  refine MtR.cases fun x xs H Q ⟨α, S, ds, r, S', h, rs, e, q⟩ => ?_
  unfold extendD at e
  split at e
  · obtain ⟨v, w, ee, h1, h2⟩ := rs.two
    cases ee
    split at e
    · rename_i es fs e1 e2
      split at e
      · rename_i hl
        cases e
        obtain ⟨a, vs, rfl, ha, hH, rl⟩ := cellL_ok h h1 e1
        obtain ⟨b, ws, rfl, hB, rl2⟩ := trkL_ok h h2 e2
        exact ⟨_, mt_extend, a, b, vs, ws, rfl, rfl, hH, hB, by rw [← rl.length, ← rl2.length]; exact hl, finW h q ha ⟨_, rfl, rl.append rl2⟩ rfl⟩
      · cases e
    · cases e
  · cases e
def popLD : OpF := fun S ds => match ds with
  | [.ref i, .int k] => match cellL S i with
    | some es => if -(2 ^ 63) ≤ k ∧ k < 2 ^ 63 then match seqIndex? k es.length with
        | some j => match es[j]? with
          | some d => some (d, S.set i (.lst (es.eraseIdx j)))
          | none => none
        | none => none
      else none
    | none => none
  | _ => none
theorem popL_ok : MtR X "list.pop" (rM T popLD) := by
  refine MtR.cases fun x xs H Q ⟨α, S, ds, r, S', h, rs, e, q⟩ => ?_
  unfold popLD at e
  split at e
  · rename_i i k
    obtain ⟨v, w, ee, h1, h2⟩ := rs.two
    cases ee; cases h2
    split at e
    · rename_i es e1
      split at e
      · rename_i hk
        split at e
        · rename_i j e2
          split at e
          · rename_i d e3
            cases e
            obtain ⟨a, vs, rfl, ha, hH, rl⟩ := cellL_ok h h1 e1
            obtain ⟨y, e4, hy⟩ := rl.get e3
            exact ⟨_, mt_popAt, a, vs, k, j, y, rfl, rfl, hH, hk.1, hk.2, by rw [← rl.length]; exact e2, e4, finW h q ha ⟨_, rfl, rl.eraseIdx j⟩ hy⟩
          · cases e
        · cases e
      · cases e
    · cases e
  · cases e

/-! dict.get, dict.pop -/
def dgetD : OpF := fun S ds => match ds with
  | [d, k] => (dGet S d k).map fun o => (o.getD .non, S)
  | [d, k, x] => (dGet S d k).map fun o => (o.getD x, S)
  | _ => none
theorem mt_dget1 (hu : X.A.units + 1 < cLine) : MtR X "dict.get" (fun x xs H Q => ∃ a y o, x = .ref a ∧ xs = [y] ∧ DGet H a y o ∧ Q (o.getD .non) H) := by
  intro pins s σ H x xs v us Q I rx rs h
  obtain ⟨a, y, o, rfl, rfl, g, q⟩ := h
  cases rx
  obtain ⟨u, rfl, ry⟩ := Vals.one rs
  exact d_get1 hu I g ry fun w' s3 I3 rw' => ⟨_, H, I3, rw', q⟩
theorem mt_dget2 (hu : X.A.units + 1 < cLine) : MtR X "dict.get" (fun x xs H Q => ∃ a y z o, x = .ref a ∧ xs = [y, z] ∧ DGet H a y o ∧ Q (o.getD z) H) := by
  intro pins s σ H x xs v us Q I rx rs h
  obtain ⟨a, y, z, o, rfl, rfl, g, q⟩ := h
  cases rx
  obtain ⟨u, u2, rfl, ry, rz⟩ := Vals.two rs
  exact d_get2 hu I g ry rz fun w' s3 I3 rw' => ⟨_, H, I3, rw', q⟩
theorem RO.getD {H : Hp} {α : List Addr} {x : D} {y : V} : ∀ {o : Option D} {r : Option V}, RO T H α o r → Rep T H α x y → Rep T H α (o.getD x) (r.getD y)
  | some _, _, ⟨v, e, h⟩, _ => by subst e; exact h
  | none, _, e, h => by cases (show _ = none from e); exact h
theorem dget_ok (hu : X.A.units + 1 < cLine) : MtR X "dict.get" (rM T dgetD) := by
  refine MtR.cases fun x xs H Q ⟨α, S, ds, r, S', h, rs, e, q⟩ => ?_
  unfold dgetD at e
  split at e
  · obtain ⟨v, w, ee, h1, h2⟩ := rs.two
    cases ee
    obtain ⟨o, e1, e2⟩ := Option.map_eq_some_iff.mp e
    cases e2
    obtain ⟨a, ro, rfl, g, hr⟩ := dGet_ok h h1 h2 e1
    exact ⟨_, mt_dget1 hu, a, _, ro, rfl, rfl, g, fin0 h q (hr.getD rfl)⟩
  · obtain ⟨v, vs, ee, h1, h2⟩ := rs
    obtain ⟨w, z, rfl, h3, h4⟩ := RepL.two h2
    cases ee
    obtain ⟨o, e1, e2⟩ := Option.map_eq_some_iff.mp e
    cases e2
    obtain ⟨a, ro, rfl, g, hr⟩ := dGet_ok h h1 h3 e1
    exact ⟨_, mt_dget2 hu, a, _, _, ro, rfl, rfl, g, fin0 h q (hr.getD h4)⟩
  · cases e
def cellK (S : Sto) (i : Nat) : Option (List (Key × D)) := match S[i]? with
  | some (.dK ds) => some ds
  | _ => none
theorem cellK_ok {H : Hp} {α : List Addr} {S : Sto} {i : Nat} {ds : List (Key × D)} {v : V} (h : HR T H α S) (r : Rep T H α (.ref i) v) (e : cellK S i = some ds) :
    ∃ a vs, v = .ref a ∧ α[i]? = some a ∧ H a = some (.dK vs) ∧ RepKV T H α ds vs := by
  unfold cellK at e
  split at e
  · rename_i ds' q
    cases e
    obtain ⟨a, rfl, h1⟩ := r
    obtain ⟨a', u, e2, e3, vs, rfl, e4⟩ := h.cell _ _ q
    rw [h1] at e2; cases e2
    exact ⟨a, vs, rfl, h1, e3, e4⟩
  · cases e
def dpopD : OpF := fun S ds => match ds with
  | [.ref i, k] => match cellK S i, keyOf k with
    | some kvs, some kk => match look kvs kk with
      | some d => some (d, S.set i (.dK (dropD kvs kk)))
      | none => none
    | _, _ => none
  | [.ref i, k, x] => match cellK S i, keyOf k with
    | some kvs, some kk => match look kvs kk with
      | some d => some (d, S.set i (.dK (dropD kvs kk)))
      | none => some (x, S)
    | _, _ => none
  | _ => none
theorem mt_dpop1 : MtR X "dict.pop" (fun x xs H Q => ∃ a y kvs k v, x = .ref a ∧ xs = [y] ∧ H a = some (.dK kvs) ∧ y = kV k ∧ valV kvs k = some v ∧ Q v (upd H a (.dK (dropK kvs k)))) := by
  intro pins s σ H x xs v us Q I rx rs h
  obtain ⟨a, y, kvs, k, d, rfl, rfl, g, rfl, hv, q⟩ := h
  cases rx
  obtain ⟨u, rfl, ry⟩ := Vals.one rs
  exact d_pop I g ry hv (.inl rfl) fun w' s3 I3 rw' => ⟨_, _, I3, rw', q⟩
theorem mt_dpop2 : MtR X "dict.pop" (fun x xs H Q => ∃ a y z kvs k, x = .ref a ∧ xs = [y, z] ∧ H a = some (.dK kvs) ∧ y = kV k ∧ (∀ v, valV kvs k = some v → Q v (upd H a (.dK (dropK kvs k)))) ∧ (valV kvs k = none → Q z H)) := by
  intro pins s σ H x xs v us Q I rx rs h
  obtain ⟨a, y, z, kvs, k, rfl, rfl, g, rfl, q1, q2⟩ := h
  cases rx
  obtain ⟨u, u2, rfl, ry, rz⟩ := Vals.two rs
  cases l : valV kvs k with
  | some v => exact d_pop I g ry l (.inr ⟨u2, rfl⟩) fun w' s4 I4 rw' => ⟨v, _, I4, rw', q1 v l⟩
  | none => exact d_popD I g ry l fun s4 I4 => ⟨z, H, I4, rz, q2 l⟩
theorem dpop_ok : MtR X "dict.pop" (rM T dpopD) := by
  refine MtR.cases fun x xs H Q ⟨α, S, ds, r, S', h, rs, e, q⟩ => ?_
  unfold dpopD at e
  split at e
  · obtain ⟨v, w, ee, h1, h2⟩ := rs.two
    cases ee
    split at e
    · rename_i kvs kk e1 e2
      split at e
      · rename_i d e3
        cases e
        obtain ⟨a, vs, rfl, ha, hH, rl⟩ := cellK_ok h h1 e1
        have ro := rl.look kk
        rw [e3] at ro
        obtain ⟨v', e4, hv⟩ := ro
        exact ⟨_, mt_dpop1, a, w, vs, kk, v', rfl, rfl, hH, keyOf_rep h2 e2, e4, finW h q ha ⟨_, rfl, rl.drop kk⟩ hv⟩
      · cases e
    · cases e
  · obtain ⟨v, vs, ee, h1, h2⟩ := rs
    obtain ⟨w, z, rfl, h3, h4⟩ := RepL.two h2
    cases ee
    split at e
    · rename_i kvs kk e1 e2
      obtain ⟨a, vs, rfl, ha, hH, rl⟩ := cellK_ok h h1 e1
      have ro := rl.look kk
      split at e
      · rename_i d e3
        cases e
        rw [e3] at ro
        obtain ⟨v', e4, hv⟩ := ro
        refine ⟨_, mt_dpop2, a, w, z, vs, kk, rfl, rfl, hH, keyOf_rep h3 e2, fun v'' e5 => ?_, fun e5 => ?_⟩
        · rw [e4] at e5; cases e5
          exact finW h q ha ⟨_, rfl, rl.drop kk⟩ hv
        · rw [e4] at e5; cases e5
      · rename_i e3
        cases e
        rw [e3] at ro
        refine ⟨_, mt_dpop2, a, w, z, vs, kk, rfl, rfl, hH, keyOf_rep h3 e2, fun v'' e5 => ?_, fun e5 => ?_⟩
        · rw [show valV vs kk = none from ro] at e5; cases e5
        · exact fin0 h q h4
    · cases e
  · cases e

/-! ### stores -/
def setS (S : Sto) (o k v : D) : Option Sto := match o with
  | .ref i => match S[i]? with
    | some (.dK kvs) => match keyOf k with
      | some kk => if kvs.length < sizeLine then some (S.set i (.dK (putD kvs kk v))) else none
      | none => none
    | some (.dT kvs) => match k with
      | .tup ds => match keysOf ds with
        | some kk => if kvs.length < sizeLine then some (S.set i (.dT (putD kvs kk v))) else none
        | none => none
      | _ => none
    | some (.lst ds) => match k with
      | .int n => match ixN ds.length n with
        | some j => some (S.set i (.lst (ds.set j v)))
        | none => none
      | _ => none
    | _ => none
  | _ => none
def rSet (T : TW) : V → V → V → Hp → (Hp → Prop) → Prop := fun o k v H Q =>
  ∃ α S do' dk dv S', HR T H α S ∧ Rep T H α do' o ∧ Rep T H α dk k ∧ Rep T H α dv v ∧ setS S do' dk dv = some S' ∧ ∀ H' α', Ext H α H' α' → HR T H' α' S' → Q H'
theorem PSet.cases {r' : TSet} (h : ∀ o k v H Q, r' o k v H Q → ∃ r, PSet X r ∧ r o k v H Q) : PSet X r' := fun pins s σ H o i v ov iv u Q I ro ri rv q => by
  obtain ⟨r, h1, h2⟩ := h o i v H Q q
  exact h1 pins s σ H o i v ov iv u Q I ro ri rv h2
theorem set_dict (hu : X.A.units + 1 < cLine) : PSet X (fun o i v H Q => ∃ a H', o = .ref a ∧ DPut H a i v H' ∧ Q H') := by
  intro pins s σ H o i v ov iv u Q I ro ri rv h
  obtain ⟨a, H', rfl, g, q⟩ := h
  cases ro
  exact d_setItem hu I g ri rv fun s' I' => ⟨_, I', q⟩
theorem set_ok (hu : X.A.units + 1 < cLine) : PSet X (rSet T) := by
  refine PSet.cases fun o k v H Q ⟨α, S, do', dk, dv, S', h, r1, r2, r3, e, q⟩ => ?_
  unfold setS at e
  split at e
  · obtain ⟨a, rfl, h1⟩ := r1
    split at e
    · rename_i kvs q1
      obtain ⟨a', u, e2, e3, ws, rfl, e4⟩ := h.cell _ _ q1
      rw [h1] at e2; cases e2
      split at e
      · rename_i kk e5
        split at e
        · rename_i hl
          cases e
          have := keyOf_rep r2 e5
          subst this
          exact ⟨_, set_dict hu, a, _, rfl, DPut.k e3 (by rw [← e4.length]; exact hl), q _ _ (Ext.write (List.mem_of_getElem? h1) _) (h.write h1 ⟨_, rfl, e4.put r3 kk⟩)⟩
        · cases e
      · cases e
    · rename_i kvs q1
      obtain ⟨a', u, e2, e3, ws, rfl, e4⟩ := h.cell _ _ q1
      rw [h1] at e2; cases e2
      split at e
      · split at e
        · rename_i kk e5
          split at e
          · rename_i hl
            cases e
            obtain ⟨b, vs, rfl, l1, l2⟩ := r2
            have := keysOf_rep l2 e5
            subst this
            exact ⟨_, set_dict hu, a, _, rfl, DPut.t e3 l1.1 (by rw [← e4.length]; exact hl), q _ _ (Ext.write (List.mem_of_getElem? h1) _) (h.write h1 ⟨_, rfl, e4.put r3 kk⟩)⟩
          · cases e
        · cases e
      · cases e
    · rename_i ds q1
      obtain ⟨a', u, e2, e3, ws, rfl, e4⟩ := h.cell _ _ q1
      rw [h1] at e2; cases e2
      split at e
      · split at e
        · rename_i j e5
          cases e
          cases r2
          exact ⟨_, set_list, a, ws, _, j, rfl, rfl, e3, by rw [← e4.length]; exact e5, q _ _ (Ext.write (List.mem_of_getElem? h1) _) (h.write h1 ⟨_, rfl, e4.set r3 j⟩)⟩
        · cases e
      · cases e
    · cases e
  · cases e
end
end NT
/-! turned tuples, dicts of pairs -/
namespace NT
open PySem L2
section
open PySem.Spec PyProof.Rows HT
variable {prog : Program} {w : World} {A : Around} {E : Value → Shared → Prop} {s : Shared}
theorem turnParts {sl : Addr} {vl vu vs : Value} {n : Nat} {Q : Int × Int × Nat → Shared → Prop} (hs : s.heap.IsSliceOf sl vl vu vs) (pl : IsPart vl none) (pu : IsPart vu none) (ps : IsPart vs (some (-1)))
    (h : Q ((n : Int) - 1, -1, n) s) : wpAny (model prog w) A (Builtin.Slice.sliceApplied (.ref sl) (pure (n : Int))) Q E s := by
  obtain ⟨ob, e1, e2, e3⟩ := id hs
  unfold Builtin.Slice.sliceApplied Builtin.Slice.sliceFields
  refine wpAny_bind (wpAny_bind (wpAny_field e1 e3 (x := vl) rfl (wpAny_bind (wpAny_field e1 e3 (x := vu) rfl (wpAny_bind (wpAny_field e1 e3 (x := vs) rfl (wpAny_pure ?_)))))))
  refine wpAny_bind (slicePart_ ps ?_)
  show wpAny _ _ (if ((-1 : Int) == 0) = true then _ else _) _ _ s
  rw [if_neg (by decide)]
  refine wpAny_bind (slicePart_ pl (wpAny_bind (slicePart_ pu (wpAny_bind (wpAny_pure ?_)))))
  have ea : Builtin.Slice.sliceAdjust none none (-1) (n : Int) = ((n : Int) - 1, -1) := by
    unfold Builtin.Slice.sliceAdjust
    simp
  have ep : Builtin.Slice.slicePlaces ((n : Int) - 1) (-1) (-1) = n := by
    unfold Builtin.Slice.slicePlaces
    simp
    try omega
  show wpAny _ _ (match Builtin.Slice.sliceAdjust none none (-1) (n : Int) with | (lo, hi) => pure (lo, (-1 : Int), Builtin.Slice.slicePlaces lo hi (-1))) _ _ s
  rw [ea]
  show wpAny _ _ (pure ((n : Int) - 1, (-1 : Int), Builtin.Slice.slicePlaces ((n : Int) - 1) (-1) (-1))) _ _ s
  rw [ep]
  exact wpAny_pure h
theorem fmap_congr {A B : Type} {f g : A → Option B} : ∀ {l : List A}, (∀ a ∈ l, f a = g a) → l.filterMap f = l.filterMap g
  | [], _ => rfl
  | a :: l, h => by
    rw [List.filterMap_cons, List.filterMap_cons, h a List.mem_cons_self, fmap_congr fun b hb => h b (List.mem_cons_of_mem _ hb)]
theorem turnPick (xs : Array Value) : ((List.range xs.size).filterMap fun (m : Nat) => xs[(((xs.size : Int) - 1) + (m : Int) * (-1)).toNat]?).toArray = xs.toList.reverse.toArray := by
  have e : ((List.range xs.size).filterMap fun (m : Nat) => xs[(((xs.size : Int) - 1) + (m : Int) * (-1)).toNat]?) = ((List.range xs.size).map fun k => xs.size - 1 - k).filterMap (xs[·]?) := by
    rw [List.filterMap_map]
    refine fmap_congr fun m hm => ?_
    have := List.mem_range.mp hm
    have e2 : (((xs.size : Int) - 1) + (m : Int) * (-1)).toNat = xs.size - 1 - m := by omega
    show xs[_]? = xs[_]?
    rw [e2]
  rw [e, PySem.W.krv_range, List.filterMap_reverse, PySem.W.krv_all]
theorem turnItem {t sl : Addr} {items : Array Value} {vl vu vs : Value} {Q : Value → Shared → Prop} (ht : IsTup s.heap t items) (hs : s.heap.IsSliceOf sl vl vu vs) (pl : IsPart vl none) (pu : IsPart vu none) (ps : IsPart vs (some (-1)))
    (h : Q (.ref s.heap.objs.size) { s with heap := s.heap.push { cls := .type "tuple", data := .seq items.toList.reverse.toArray } }) (hsz : items.size ≤ sizeLine) : wpAny (model prog w) A (getItem (.ref t) (.ref sl)) Q E s := by
  have hfit : sizeOk (.seq items.toList.reverse.toArray) := by
    show items.toList.reverse.toArray.size ≤ sizeLine
    rw [List.size_toArray, List.length_reverse, Array.length_toList]
    exact hsz
  obtain ⟨ob, e1, e2, e3⟩ := id hs
  have hT : s.TypeIs (.ref sl) "slice" := ⟨ob, e1, e2⟩
  unfold getItem
  try with_reducible refine wpAny_holding ?_
  first | refine wpAny_bind (wpAny_pure ?_) | skip
  refine wpAny_bind (wpAny_sequenceKey ht.typeIs (by decide) ?_)
  refine wpAny_bind (wpAny_callSpecial?_slot (name := Str.ofString "__getitem__") ht.typeIs PyProof.Rows.slot_tuple_getitem (wpAny_call_entry PyProof.Rows.slot_tuple_getitem ht.typeIs entry_tuple_getitem ?_ (args_tuple_getitem _ _)))
  show wpAny _ _ (Builtin.Tuple.tupleItemsOf (.ref t) >>= _) _ _ s
  refine wpAny_bind (tupleItemsOf_ ht ?_)
  refine wpAny_bind (wpAny_typeOf hT ?_)
  rw [if_pos (by decide)]
  refine wpAny_bind (turnParts hs pl pu ps ?_)
  have hno : ¬ ((((items.size : Int) - 1) == 0 && (-1 : Int) == 1 && items.size == items.size) = true) := by
    intro q
    rw [Bool.and_eq_true, Bool.and_eq_true] at q
    exact absurd q.1.2 (by decide)
  show wpAny _ _ (if (((items.size : Int) - 1) == 0 && (-1 : Int) == 1 && items.size == items.size) = true then _ else _) _ _ s
  rw [if_neg hno, turnPick]
  first
    | exact wpAny_bind (m := Builtin.Tuple.tupleExact _) (wpAny_newObj_type (wpAny_pure ⟨_, rfl, wpAny_pure h⟩) hfit)
    | exact wpAny_bind (m := Builtin.Tuple.tupleExact _) (wpAny_newObj_type (wpAny_bind (wpAny_pure (wpAny_pure ⟨_, rfl, wpAny_pure h⟩))) hfit)
    | exact wpAny_bind (wpAny_bind (m := Builtin.Tuple.tupleExact _) (wpAny_newObj_type (wpAny_pure (wpAny_pure ⟨_, rfl, wpAny_pure h⟩)) hfit))
    | exact wpAny_bind (wpAny_bind (m := Builtin.Tuple.tupleExact _) (wpAny_newObj_type (wpAny_pure ⟨_, rfl, wpAny_pure h⟩) hfit))
end
section
variable {X : Cx} {T : TW}
open PySem.Spec PyProof.Rows in
/-- t[::-1], xs[::-1] -/
def tTurn (K : PySem.W.Frag) (te : TE) : TE := fun σ H Q => te σ H fun x H1 => ∃ a xs, x = .ref a ∧ ((SqL K H1 a xs ∧ ∀ p, H1 p = none → Q (.ref p) (upd H1 p (.lst xs.reverse))) ∨ (SqT K H1 a xs ∧ ∀ p, H1 p = none → Q (.ref p) (upd H1 p (.tup xs.reverse))))
open PySem.Spec PyProof.Rows in
theorem pe_turn {e : Expr} {te : TE} {k : Nat} {p1 p2 p3 pos : Pos} (he : PE X e te) : PE X (.Subscript e (.Slice none none (some (.UnaryOp .USub (.Constant (.int 1) k p1) p2)) p3) pos) (tTurn X.K te) := by
  refine ⟨fun pins s σ H Q I h => ?_⟩
  refine Subscript_ (thn (he.run pins s σ H _ I h) fun v s1 ⟨x, H1, I1, r1, q1⟩ => ?_)
  obtain ⟨a, xs, ex, q⟩ := q1
  subst ex
  cases r1
  have hst : PO X (some (.UnaryOp .USub (.Constant (.int 1) k p1) p2)) (tPart (tUn (rU fun i => .int (-i)) (tC (.int 1)))) := po_some (pe_un un_neg pe_int)
  refine wpAny_Slice (thn (po_none.run pins s1 σ H1 (fun o H2 => o = none ∧ H2 = H1) I1 ⟨rfl, rfl⟩) fun vl s2 ⟨l, H2, I2, pl, el, e2⟩ => ?_)
  subst el e2
  refine thn (po_none.run pins s2 σ H2 (fun o H3 => o = none ∧ H3 = H2) I2 ⟨rfl, rfl⟩) fun vu s3 ⟨u, H3, I3, pu, eu, e3⟩ => ?_
  subst eu e3
  refine thn (hst.run pins s3 σ H3 (fun o H4 => o = some (-1) ∧ H4 = H3) I3 ⟨1, rfl, -1, rfl, rfl, rfl⟩) fun vs s4 ⟨o, H4, I4, ps, eo, e4⟩ => ?_
  subst eo e4
  have J : Inv X pins σ H4 { s4 with heap := s4.heap.push { cls := .type "slice", data := .fields #[vl, vu, vs] } } := I4.kept (t' := s4.toks) fun b ob q => Heap.get?_push_of_some _ q
  show wpAny (model X.prog X.w) X.A (subscriptTail e (.Slice none none (some (.UnaryOp .USub (.Constant (.int 1) k p1) p2)) p3) (.ref a) (.ref s4.heap.objs.size)) (EP X pins σ Q) X.xe { s4 with heap := s4.heap.push { cls := .type "slice", data := .fields #[vl, vu, vs] } }
  rcases q with ⟨hx, q⟩ | ⟨hx, q⟩
  · obtain ⟨its, r, ht, hz⟩ := J.list hx
    have hlen := r.length
    refine tail_any (ops := [.ref a, .ref s4.heap.objs.size]) ht.isList.typeIs (PySem.slot_list_getitem.lookup) ?_ (by with_unfolding_all rfl)
    refine wpAny_getItem_list_slice ht.isList (Heap.IsSliceOf.new _ vl vu vs) pl pu ps (by decide) ?_ (by rw [List.size_toArray]; omega)
    rw [PySem.W.krv_pick]
    refine ⟨.ref _, _, J.laid (t' := s4.toks) (o := .lst xs.reverse) (fun b ob q => Heap.get?_push_of_some _ q) (Nat.le_refl _) ?_, rfl, q _ (J.hok.fresh (Nat.le_refl _))⟩
    exact ⟨by rw [List.length_reverse]; exact hz, _, 0, r.reverse, Heap.get?_push_size _ rfl⟩
  · obtain ⟨its, r, ht, hz⟩ := J.tuple hx
    have hlen := r.length
    refine tail_any (ops := [.ref a, .ref s4.heap.objs.size]) ht.typeIs (PyProof.Rows.slot_tuple_getitem.lookup) ?_ (by with_unfolding_all rfl)
    refine turnItem ht (Heap.IsSliceOf.new _ vl vu vs) pl pu ps ?_ (by rw [List.size_toArray]; omega)
    refine ⟨.ref _, _, J.laid (t' := s4.toks) (o := .tup xs.reverse) (fun b ob q => Heap.get?_push_of_some _ q) (Nat.le_refl _) ?_, rfl, q _ (J.hok.fresh (Nat.le_refl _))⟩
    exact ⟨by rw [List.length_reverse]; exact hz, _, r.reverse, ⟨_, Heap.get?_push_size _ rfl, rfl, _, rfl⟩⟩
theorem RepL.reverse {H : Hp} {α : List Addr} : ∀ {ds : List D} {vs : List V}, RepL T H α ds vs → RepL T H α ds.reverse vs.reverse
  | [], _, r => by cases r; exact rfl
  | d :: ds, _, r => by
    obtain ⟨v, vs, rfl, h1, h2⟩ := r
    rw [List.reverse_cons, List.reverse_cons]
    exact (RepL.reverse h2).append ⟨v, [], rfl, h1, rfl⟩
/-- turned about -/
def turnD (S : Sto) (d : D) : Option D := match asSeq S d with
  | some (true, ds) => some (.lst ds.reverse)
  | some (false, ds) => some (.tup ds.reverse)
  | none => none

/-! ### dict(pairs), dict(d) -/
def tupOf : D → Option (List D)
  | .tup es => some es
  | .wt es => some es
  | _ => none
def pairsOf : List D → Option (List (Key × D))
  | [] => some []
  | d :: ds => match tupOf d with
    | some [k, v] => match keyOf k, pairsOf ds with
      | some kk, some r => some ((kk, v) :: r)
      | _, _ => none
    | _ => none
def mergeD (kvs more : List (Key × D)) : List (Key × D) := more.foldl (fun acc kv => putD acc kv.1 kv.2) kvs
theorem RepKV.merge {H : Hp} {α : List Addr} : ∀ {more : List (Key × D)} {mv : List (Key × V)} {kvs : List (Key × D)} {ws : List (Key × V)}, RepKV T H α more mv → RepKV T H α kvs ws → RepKV T H α (mergeD kvs more) (mergeK ws mv)
  | [], _, _, _, r, h => by cases r; exact h
  | kd :: more, _, kvs, ws, r, h => by
    obtain ⟨v, mv, rfl, h1, h2⟩ := r
    show RepKV T H α (mergeD (putD kvs kd.1 kd.2) more) (mergeK (putK ws kd.1 v) mv)
    exact RepKV.merge h2 (h.put h1 kd.1)
theorem pairs_rep {H : Hp} {α : List Addr} : ∀ {ds : List D} {vs : List V} {kvs : List (Key × D)}, pairsOf ds = some kvs → RepL T H α ds vs →
    ∃ (ps : List Addr) (ws : List (Key × V)), vs = ps.map V.ref ∧ RepKV T H α kvs ws ∧ PySem.Paired (fun p kv => SqT T.K H p [kV kv.1, kv.2]) ps ws
  | [], _, _, e, r => by
    cases e; cases r
    exact ⟨[], [], rfl, rfl, .nil⟩
  | d :: ds, _, kvs, e, r => by
    obtain ⟨v, vs, rfl, h1, h2⟩ := r
    rw [pairsOf] at e
    have key : ∀ {es : List D}, (∃ a us, v = .ref a ∧ SqT T.K H a us ∧ RepL T H α es us) → (match (some es : Option (List D)) with
        | some [k, v] => match keyOf k, pairsOf ds with
          | some kk, some r => some ((kk, v) :: r)
          | _, _ => none
        | _ => none) = some kvs → ∃ (ps : List Addr) (ws : List (Key × V)), v :: vs = ps.map V.ref ∧ RepKV T H α kvs ws ∧ PySem.Paired (fun p kv => SqT T.K H p [kV kv.1, kv.2]) ps ws := by
      rintro es ⟨a, us, rfl, sq, rl⟩ e
      split at e
      · rename_i k x heq
        cases heq
        split at e
        · rename_i kk r' ek er
          cases e
          obtain ⟨u1, u2, rfl, r1, r2⟩ := rl.two
          have := keyOf_rep r1 ek
          subst this
          obtain ⟨ps, ws, rfl, g1, g2⟩ := pairs_rep er h2
          exact ⟨a :: ps, (kk, u2) :: ws, rfl, ⟨u2, ws, rfl, r2, g1⟩, .cons sq g2⟩
        · cases e
      · cases e
    cases d with
    | tup es =>
      obtain ⟨a, us, rfl, l, rl⟩ := h1
      exact key ⟨a, us, rfl, l.sq, rl⟩ e
    | wt es =>
      obtain ⟨a, us, rfl, l, rl⟩ := h1
      exact key ⟨a, us, rfl, l.sq, rl⟩ e
    | _ => cases e
def dictD : OpF := fun S ds => match ds with
  | [d] => match asSeq S d with
    | some (true, es) => (pairsOf es).map fun kvs => (.ref S.length, S ++ [.dK (mergeD [] kvs)])
    | some (false, _) => none
    | none => match d with
      | .ref i => match S[i]? with
        | some (.dK kvs) => some (.ref S.length, S ++ [.dK kvs])
        | _ => none
      | _ => none
  | _ => none
theorem dict_ok (hK : X.K = T.K) (hc : X.calm = true) : CallR X (.type "dict") (rC T dictD) := by
  refine CallR.cases fun xs H Q ⟨α, S, ds, r, S', h, rs, e, q⟩ => ?_
  unfold dictD at e
  split at e
  · obtain ⟨v, rfl, h1⟩ := rs.one
    split at e
    · rename_i es e1
      obtain ⟨kvs, e2, e3⟩ := Option.map_eq_some_iff.mp e
      cases e3
      obtain ⟨a, vs, rfl, rl, sq⟩ := asSeq_ok h h1 e1
      obtain ⟨ps, ws, rfl, g1, g2⟩ := pairs_rep e2 rl
      rw [← hK] at sq g2
      exact ⟨_, call_dictP hc, a, ps, ws, rfl, by simpa using sq, g2, fun p hp => finN h q hp ⟨_, rfl, g1.merge rfl⟩⟩
    · cases e
    · split at e
      · split at e
        · rename_i kvs q1
          cases e
          obtain ⟨a, rfl, h2⟩ := h1
          obtain ⟨a', u, e2, e3, ws, rfl, e4⟩ := h.cell _ _ q1
          rw [h2] at e2; cases e2
          exact ⟨_, call_dictD, a, ws, rfl, .inl e3, fun p hp => finN h q hp ⟨_, rfl, e4⟩⟩
        · cases e
      · cases e
  · cases e
end
end NT
/-! the small language and its interpreter -/
namespace NT
open PySem L2

inductive Bop where
  | add | sub | mul | mod | fdiv
inductive Cop where
  | eq | ne | lt | le | gt | ge | is | isnot | mem | nmem
inductive Bi where
  | len | abs | max | min | all | any | sum | sorted | isi
inductive Bt where
  | tuple | list | int | dict | set | str
inductive Mth where
  | append | extend | popL | dget | dpop
inductive Pat where
  | nm (i : Nat)
  | tp (is : List Nat)
  | tl (is : List Nat)
  | tn (ps : List (Nat ⊕ List Nat))
/-- a module's constant -/
inductive Cst where
  | int (i : Int) | str (x : Str) | tup (is : List Int)
  deriving DecidableEq
def Cst.d : Cst → D
  | .int i => .int i
  | .str x => .str x
  | .tup is => .wt (is.map D.int)
mutual
inductive E where
  | var (i : Nat)
  | lit (d : D)
  | ty (n : String)
  | fn (i : Nat)
  | bin (o : Bop) (a b : E)
  | neg (a : E)
  | cmp (o : Cop) (a b : E)
  | cmp2 (o p : Cop) (a b c : E)
  | and (a b : E)
  | or (a b : E)
  | one (a : E)
  | not (a : E)
  | ite (c a b : E)
  | call (f : Nat) (es : Es)
  | bi (b : Bi) (es : Es)
  | bt (b : Bt) (es : Es)
  | mth (m : Mth) (o : E) (es : Es)
  | idx (a b : E)
  | slc (a lo hi : E)
  | rev (a : E)
  | glo (x : Str) (k : Cst)
  | callL (i : Nat) (fs : List Nat) (es : Es)
  | no
  | tup (es : Es)
  | lst (es : Es)
  | lstR (es : Es)
  | dK
  | dT
  | comp (p : Pat) (it : It) (c elt : E) (own : List Nat)
inductive Es where
  | nil
  | cons (e : E) (es : Es)
inductive It where
  | seq (e : E)
  | range1 (a : E)
  | range2 (a b : E)
  | zip (a b : E)
end
mutual
inductive St where
  | asg (p : Pat) (e : E)
  | setI (o k v : E)
  | exp (e : E)
  | ret (e : E)
  | retN
  | ite (c : E) (a b : Sts)
  | for_ (p : Pat) (it : It) (b : Sts)
  | while_ (c : E) (b : Sts)
  | brk
  | cont
  | pass
inductive Sts where
  | nil
  | cons (s : St) (r : Sts)
end

/-! results -/
def R.bind {A B : Type} (r : R A) (k : A → Sto → R B) : R B := match r with
  | .ok a S => k a S
  | .exc c S => .exc c S
  | .stuck => .stuck
def liftO (o : Option (D × Sto)) : R D := match o with
  | some (d, S) => .ok d S
  | none => .stuck
inductive Fl where
  | nx (ρ : Env) | rt (d : D) | bk (ρ : Env) | ct (ρ : Env)
inductive RS where
  | ok (f : Fl) (S : Sto)
  | exc (c : Nat) (ρ : Env) (S : Sto)
  | stuck
/-- a statement that goes on with an expression's value -/
def R.thn {A : Type} (r : R A) (ρ : Env) (k : A → Sto → RS) : RS := match r with
  | .ok a S => k a S
  | .exc c S => .exc c ρ S
  | .stuck => .stuck
def RS.seq (r : RS) (k : Env → Sto → RS) : RS := match r with
  | .ok (.nx ρ) S => k ρ S
  | r => r

/-! operations by name -/
def Bop.f : Bop → OpF
  | .add => addD | .sub => subD | .mul => mulD | .mod => modD | .fdiv => fdivD
def Cop.f : Cop → OpF
  | .eq => eqD | .ne => neD
  | .lt => ordD fun p q => PySem.W.dataLt p q
  | .le => ordD fun p q => !PySem.W.dataLt q p
  | .gt => ordD fun p q => PySem.W.dataLt q p
  | .ge => ordD fun p q => !PySem.W.dataLt p q
  | .is => isD | .isnot => isnotD
  | .mem => inG fun b => b
  | .nmem => inG fun b => !b
def Bi.f : Bi → OpF
  | .len => lenD | .abs => absD | .max => maxD | .min => minD | .all => allD | .any => anyD | .sum => sumD | .sorted => sortedD | .isi => isiD
def noF : OpF := fun _ _ => none
def Bt.f : Bt → OpF
  | .tuple => tupleD | .list => listD | .int => intD | .dict => dictD | .set => noF | .str => noF
def Mth.f : Mth → OpF
  | .append => appendD | .extend => extendD | .popL => popLD | .dget => dgetD | .dpop => dpopD
/-- whether a receiver is of the method's type -/
def Mth.ok (m : Mth) (S : Sto) (d : D) : Bool := match m with
  | .append | .extend | .popL => (match d with | .ref i => (cellL S i).isSome | _ => false)
  | .dget | .dpop => (match d with | .ref i => (match S[i]? with | some (.dK _) => true | some (.dT _) => true | _ => false) | _ => false)

/-! names bound -/
def setAll : List Nat → List D → Env → Option Env
  | [], [], ρ => some ρ
  | i :: is, d :: ds, ρ => setAll is ds (ρ.set i (some d))
  | _, _, _ => none
/-- names, and tuples of names -/
def set2 : List (Nat ⊕ List Nat) → List D → Env → Option Env
  | [], [], ρ => some ρ
  | .inl i :: ps, d :: ds, ρ => set2 ps ds (ρ.set i (some d))
  | .inr is :: ps, .tup es :: ds, ρ => (setAll is es ρ).bind (set2 ps ds)
  | .inr is :: ps, .wt es :: ds, ρ => (setAll is es ρ).bind (set2 ps ds)
  | _, _, _ => none
def Pat.bnd (p : Pat) (d : D) (ρ : Env) : Option Env := match p with
  | .nm i => some (ρ.set i (some d))
  | .tp is => match d with
    | .tup ds => setAll is ds ρ
    | .wt ds => setAll is ds ρ
    | _ => none
  | .tl is => match d with
    | .lst ds => setAll is ds ρ
    | .wl ds => setAll is ds ρ
    | _ => none
  | .tn ps => match d with
    | .tup ds => set2 ps ds ρ
    | .wt ds => set2 ps ds ρ
    | _ => none
def wipeD (ρ : Env) : List Nat → Env
  | [] => ρ
  | v :: vs => (wipeD ρ vs).set v none

/-! loops -/
abbrev Gs := List (Nat × List D)
def gok (gs : Gs) (S : Sto) : Prop := ∀ p ∈ gs, cellL S p.1 = some p.2
open Classical in
noncomputable def forD (gs : Gs) (body : D → Env → Sto → RS) : List D → Env → Sto → RS
  | [], ρ, S => if gok gs S then .ok (.nx ρ) S else .stuck
  | d :: ds, ρ, S => if gok gs S then (match body d ρ S with
    | .ok (.nx ρ') S' => forD gs body ds ρ' S'
    | .ok (.ct ρ') S' => forD gs body ds ρ' S'
    | .ok (.bk ρ') S' => .ok (.nx ρ') S'
    | r => r) else .stuck
open Classical in
noncomputable def lcD (gs : Gs) (turn : D → Sto → R (Option D)) : List D → List D → Sto → R (List D)
  | [], acc, S => if gok gs S then .ok acc S else .stuck
  | d :: ds, acc, S => if gok gs S then (match turn d S with
    | .ok o S' => lcD gs turn ds (match o with | some y => acc ++ [y] | none => acc) S'
    | _ => .stuck) else .stuck
def whileD (c : Env → Sto → R Bool) (body : Env → Sto → RS) : Nat → Env → Sto → RS
  | 0, _, _ => .stuck
  | n + 1, ρ, S => (c ρ S).thn ρ fun b S1 => if b = true then (match body ρ S1 with
    | .ok (.nx ρ') S' => whileD c body n ρ' S'
    | .ok (.ct ρ') S' => whileD c body n ρ' S'
    | .ok (.bk ρ') S' => .ok (.nx ρ') S'
    | r => r) else .ok (.nx ρ) S1

def truB (S : Sto) (d : D) : Option Bool := match d with
  | .non => some false
  | .bl b => some b
  | .int i => some (i != 0)
  | .str x => if x.length ≤ sizeLine then some ((x.length : Int) != 0) else none
  | d => match asSeq S d with
    | some (_, ds) => some (!ds.isEmpty)
    | none => match d with
      | .ref i => match S[i]? with
        | some (.dK kvs) => some (!kvs.isEmpty)
        | _ => none
      | _ => none
def rngD (lo : Int) (n : Nat) : List D := (List.range n).map fun (i : Nat) => D.int (lo + i)
def gOf (d : D) (es : List D) : Gs := match d with
  | .ref i => [(i, es)]
  | _ => []

/-- a value, and its truth -/
noncomputable def plainE (m : Env → Sto → R D) : (Env → Sto → R D) × (Env → Sto → R Bool) := (m, fun ρ S => (m ρ S).bind fun x S1 => match truB S1 x with
  | some b => .ok b S1
  | none => .stuck)
noncomputable def boolE (m : Env → Sto → R D) : (Env → Sto → R D) × (Env → Sto → R Bool) := (m, fun ρ S => (m ρ S).bind fun x S1 => match x with
  | .bl b => .ok b S1
  | _ => .stuck)
def E.isNo : E → Bool
  | .no => true
  | _ => false
mutual
noncomputable def ev2 (cf : Nat → List D → Sto → R D) : E → (Env → Sto → R D) × (Env → Sto → R Bool)
  | .var i => plainE fun ρ S => match ρ[i]? with
    | some (some d) => .ok d S
    | _ => .stuck
  | .lit d => plainE fun _ S => .ok d S
  | .ty n => plainE fun _ S => .ok (.ty n) S
  | .fn i => plainE fun _ S => .ok (.fn i) S
  | .bin o a b => plainE fun ρ S => ((ev2 cf a).1 ρ S).bind fun x S1 => ((ev2 cf b).1 ρ S1).bind fun y S2 => liftO (o.f S2 [x, y])
  | .neg a => plainE fun ρ S => ((ev2 cf a).1 ρ S).bind fun x S1 => match x with
    | .int i => .ok (.int (-i)) S1
    | _ => .stuck
  | .cmp o a b => boolE fun ρ S => ((ev2 cf a).1 ρ S).bind fun x S1 => ((ev2 cf b).1 ρ S1).bind fun y S2 => liftO (o.f S2 [x, y])
  | .cmp2 o p a b c => boolE fun ρ S => ((ev2 cf a).1 ρ S).bind fun x S1 => ((ev2 cf b).1 ρ S1).bind fun y S2 => (liftO (o.f S2 [x, y])).bind fun z S3 => match z with
    | .bl true => ((ev2 cf c).1 ρ S3).bind fun w S4 => liftO (p.f S4 [y, w])
    | .bl false => .ok (.bl false) S3
    | _ => .stuck
  | .and a b => (fun ρ S => ((ev2 cf a).1 ρ S).bind fun x S1 => match x with
      | .bl true => (ev2 cf b).1 ρ S1
      | .bl false => .ok (.bl false) S1
      | _ => .stuck,
    fun ρ S => ((ev2 cf a).2 ρ S).bind fun t S1 => if t = true then (ev2 cf b).2 ρ S1 else .ok false S1)
  | .or a b => (fun ρ S => ((ev2 cf a).1 ρ S).bind fun x S1 => match x with
      | .bl true => .ok (.bl true) S1
      | .bl false => (ev2 cf b).1 ρ S1
      | _ => .stuck,
    fun ρ S => ((ev2 cf a).2 ρ S).bind fun t S1 => if t = true then .ok true S1 else (ev2 cf b).2 ρ S1)
  | .one a => ((ev2 cf a).1, (ev2 cf a).2)
  | .not a => (fun ρ S => ((ev2 cf a).1 ρ S).bind fun x S1 => match x with
      | .bl b => .ok (.bl (!b)) S1
      | _ => .stuck,
    fun ρ S => ((ev2 cf a).2 ρ S).bind fun t S1 => .ok (!t) S1)
  | .ite c a b => (fun ρ S => ((ev2 cf c).2 ρ S).bind fun t S1 => if t = true then (ev2 cf a).1 ρ S1 else (ev2 cf b).1 ρ S1, fun _ _ => .stuck)
  | .call f es => plainE fun ρ S => (evs cf es ρ S).bind fun ds S1 => cf f ds S1
  | .bi b es => plainE fun ρ S => (evs cf es ρ S).bind fun ds S1 => liftO (b.f S1 ds)
  | .bt b es => plainE fun ρ S => (evs cf es ρ S).bind fun ds S1 => liftO (b.f S1 ds)
  | .mth m o es => plainE fun ρ S => ((ev2 cf o).1 ρ S).bind fun x S1 => if m.ok S1 x = true then (evs cf es ρ S1).bind fun ds S2 => liftO (m.f S2 (x :: ds)) else .stuck
  | .idx a b => plainE fun ρ S => ((ev2 cf a).1 ρ S).bind fun x S1 => ((ev2 cf b).1 ρ S1).bind fun y S2 => liftO (idxD S2 [x, y])
  | .slc a lo hi => plainE fun ρ S => ((ev2 cf a).1 ρ S).bind fun x S1 =>
      (if lo.isNo = true then .ok none S1 else ((ev2 cf lo).1 ρ S1).bind fun y S2 => match y with | .int i => .ok (some i) S2 | _ => .stuck : R (Option Int)).bind fun l S2 =>
      (if hi.isNo = true then .ok none S2 else ((ev2 cf hi).1 ρ S2).bind fun y S3 => match y with | .int i => .ok (some i) S3 | _ => .stuck : R (Option Int)).bind fun h S3 => match slcF S3 x l h with
    | some r => .ok r S3
    | none => .stuck
  | .rev a => plainE fun ρ S => ((ev2 cf a).1 ρ S).bind fun x S1 => match turnD S1 x with
    | some r => .ok r S1
    | none => .stuck
  | .glo x k => plainE fun _ S => .ok k.d S
  | .callL i fs es => plainE fun ρ S => match ρ[i]? with
    | some (some (.fn f)) => if f ∈ fs then (evs cf es ρ S).bind fun ds S1 => cf f ds S1 else .stuck
    | _ => .stuck
  | .no => plainE fun _ _ => .stuck
  | .tup es => plainE fun ρ S => (evs cf es ρ S).bind fun ds S1 => if ds.length ≤ sizeLine then .ok (.tup ds) S1 else .stuck
  | .lst es => plainE fun ρ S => (evs cf es ρ S).bind fun ds S1 => if ds.length ≤ sizeLine then .ok (.lst ds) S1 else .stuck
  | .lstR es => plainE fun ρ S => (evs cf es ρ S).bind fun ds S1 => if ds.length ≤ sizeLine then .ok (.ref S1.length) (S1 ++ [.lst ds]) else .stuck
  | .dK => plainE fun _ S => .ok (.ref S.length) (S ++ [.dK []])
  | .dT => plainE fun _ S => .ok (.ref S.length) (S ++ [.dT []])
  | .comp p it c elt own => plainE fun ρ S => (evIt cf it ρ S).bind fun ig S1 => if ig.1.length ≤ sizeLine then
      (lcD ig.2 (fun d S2 => match p.bnd d (wipeD ρ own) with
        | none => .stuck
        | some ρ' => (if c.isNo = true then .ok true S2 else (ev2 cf c).2 ρ' S2 : R Bool).bind fun t S3 => if t = true then ((ev2 cf elt).1 ρ' S3).bind fun y S4 => .ok (some y) S4 else .ok none S3) ig.1 [] S1).bind fun ds S2 => .ok (.lst ds) S2
    else .stuck
noncomputable def evs (cf : Nat → List D → Sto → R D) : Es → Env → Sto → R (List D)
  | .nil => fun _ S => .ok [] S
  | .cons e es => fun ρ S => ((ev2 cf e).1 ρ S).bind fun d S1 => (evs cf es ρ S1).bind fun ds S2 => .ok (d :: ds) S2
noncomputable def evIt (cf : Nat → List D → Sto → R D) : It → Env → Sto → R (List D × Gs)
  | .seq e => fun ρ S => ((ev2 cf e).1 ρ S).bind fun x S1 => match asSeq S1 x with
    | some (_, es) => .ok (es, gOf x es) S1
    | none => .stuck
  | .range1 a => fun ρ S => ((ev2 cf a).1 ρ S).bind fun x S1 => match x with
    | .int j => if -(2 ^ 62) ≤ j ∧ j < 2 ^ 62 then .ok (rngD 0 j.toNat, []) S1 else .stuck
    | _ => .stuck
  | .range2 a b => fun ρ S => ((ev2 cf a).1 ρ S).bind fun x S1 => ((ev2 cf b).1 ρ S1).bind fun y S2 => match x, y with
    | .int i, .int j => if -(2 ^ 62) ≤ i ∧ i < 2 ^ 62 ∧ -(2 ^ 62) ≤ j ∧ j < 2 ^ 62 then .ok (rngD i (j - i).toNat, []) S2 else .stuck
    | _, _ => .stuck
  | .zip a b => fun ρ S => ((ev2 cf a).1 ρ S).bind fun x S1 => ((ev2 cf b).1 ρ S1).bind fun y S2 => match asSeq S2 x, asSeq S2 y with
    | some (k, xs), some (l, ys) => if k = l then .ok ((xs.zip ys).map fun p => .tup [p.1, p.2], gOf x xs ++ gOf y ys) S2 else .stuck
    | _, _ => .stuck
end
noncomputable def ev (cf : Nat → List D → Sto → R D) (e : E) : Env → Sto → R D := (ev2 cf e).1
noncomputable def evT (cf : Nat → List D → Sto → R D) (e : E) : Env → Sto → R Bool := (ev2 cf e).2

mutual
noncomputable def ex (cf : Nat → List D → Sto → R D) (wf : Nat) : St → Env → Sto → RS
  | .asg p e => fun ρ S => (ev cf e ρ S).thn ρ fun d S1 => match p.bnd d ρ with
    | some ρ' => .ok (.nx ρ') S1
    | none => .stuck
  | .setI o k v => fun ρ S => (ev cf v ρ S).thn ρ fun x S1 => (ev cf o ρ S1).thn ρ fun y S2 => (ev cf k ρ S2).thn ρ fun z S3 => match setS S3 y z x with
    | some S4 => .ok (.nx ρ) S4
    | none => .stuck
  | .exp e => fun ρ S => (ev cf e ρ S).thn ρ fun _ S1 => .ok (.nx ρ) S1
  | .ret e => fun ρ S => (ev cf e ρ S).thn ρ fun d S1 => .ok (.rt d) S1
  | .retN => fun _ S => .ok (.rt .non) S
  | .ite c a b => fun ρ S => (evT cf c ρ S).thn ρ fun t S1 => if t = true then exs cf wf a ρ S1 else exs cf wf b ρ S1
  | .for_ p it b => fun ρ S => (evIt cf it ρ S).thn ρ fun ig S1 => forD ig.2 (fun d ρ1 S2 => match p.bnd d ρ1 with
    | some ρ2 => exs cf wf b ρ2 S2
    | none => .stuck) ig.1 ρ S1
  | .while_ c b => fun ρ S => whileD (evT cf c) (exs cf wf b) wf ρ S
  | .brk => fun ρ S => .ok (.bk ρ) S
  | .cont => fun ρ S => .ok (.ct ρ) S
  | .pass => fun ρ S => .ok (.nx ρ) S
noncomputable def exs (cf : Nat → List D → Sto → R D) (wf : Nat) : Sts → Env → Sto → RS
  | .nil => fun ρ S => .ok (.nx ρ) S
  | .cons s r => fun ρ S => (ex cf wf s ρ S).seq fun ρ' S' => exs cf wf r ρ' S'
end
end NT
/-! which small terms a text is, and the judgements -/
namespace NT
open PySem L2

structure Ctx where
  N : List Str
  sc : Scope
  fnl : Str → Bool
  fns : List Str
  gls : List (Str × Cst)
def okName (x : Str) : Bool := !(x == ("__debug__" : Str)) && !(x == ("__classdict__" : Str)) && !(x == ("__name__" : Str))
def Ctx.vis (c : Ctx) (i : Nat) (x : Str) : Bool := okName x && decide (c.N[i]? = some x) && (match c.sc.names.lookup x with | some .local => true | some .cell => true | some .free => true | _ => false)
def Ctx.gl (c : Ctx) (x : Str) : Bool := okName x && decide (c.sc.names.lookup x = some .globalImplicit)
def Ctx.bindable (c : Ctx) (i : Nat) (x : Str) : Bool := decide (c.N[i]? = some x) && (match c.sc.names.lookup x with | some .local => true | some .cell => c.fnl x | _ => false)
def litOk : D → Const → Bool
  | .non, .none => true
  | .bl a, .bool b => a == b
  | .int a, .int b => a == b
  | .str a, .str b => a == b
  | _, _ => false
def Bop.ok : Bop → Operator → Bool
  | .add, .Add => true | .sub, .Sub => true | .mul, .Mult => true | .mod, .Mod => true | .fdiv, .FloorDiv => true
  | _, _ => false
def Cop.ok : Cop → CmpOp → Bool
  | .eq, .Eq => true | .ne, .NotEq => true | .lt, .Lt => true | .le, .LtE => true | .gt, .Gt => true | .ge, .GtE => true
  | .is, .Is => true | .isnot, .IsNot => true | .mem, .In => true | .nmem, .NotIn => true
  | _, _ => false
def Bi.nm : Bi → Str
  | .len => "len" | .abs => "abs" | .max => "max" | .min => "min" | .all => "all" | .any => "any" | .sum => "sum" | .sorted => "sorted" | .isi => "isinstance"
def Bt.nm : Bt → Str
  | .tuple => "tuple" | .list => "list" | .int => "int" | .dict => "dict" | .set => "set" | .str => "str"
def Mth.nm : Mth → Str
  | .append => "append" | .extend => "extend" | .popL => "pop" | .dget => "get" | .dpop => "pop"
def tyNames : List String := ["int", "bool", "str", "tuple", "list"]
/-- the built-in names that a text may lean on -/
def bnames : List Str := ["len", "abs", "max", "min", "all", "any", "sum", "sorted", "isinstance", "tuple", "list", "int", "dict", "set", "str", "bool", "range", "zip", "enumerate"]
def notStar : Expr → Bool
  | .Starred .. => false
  | _ => true
def notSlice : Expr → Bool
  | .Slice .. => false
  | _ => true
def notSet : Expr → Bool
  | .Set .. => false
  | _ => true
def notCall : Expr → Bool
  | .Call (.Name ..) [] [] _ => false
  | _ => true
def isLc : Expr → Bool
  | .ListComp .. => true
  | .SetComp .. => true
  | .DictComp .. => true
  | _ => false
def namesOk (c : Ctx) : List Nat → List Expr → Bool
  | [], [] => true
  | i :: is, .Name x _ :: es => c.bindable i x && namesOk c is es
  | _, _ => false
def names2Ok (c : Ctx) : List (Nat ⊕ List Nat) → List Expr → Bool
  | [], [] => true
  | .inl i :: ps, .Name x _ :: es => c.bindable i x && names2Ok c ps es
  | .inr is :: ps, .Tuple xs _ _ :: es => namesOk c is xs && names2Ok c ps es
  | _, _ => false
def chkP (c : Ctx) : Pat → Expr → Bool
  | .nm i, .Name x _ => c.bindable i x
  | .tp is, .Tuple es _ _ => namesOk c is es
  | .tl is, .Tuple es _ _ => namesOk c is es
  | .tn ps, .Tuple es _ _ => names2Ok c ps es
  | _, _ => false
def isTup : Expr → Bool
  | .Tuple .. => true
  | _ => false
def ownOf (c : Ctx) (own : List Nat) : List (Str × Nat) := own.filterMap fun i => (c.N[i]?).map fun x => (x, i)
def Ctx.inner (c : Ctx) (scope : Scope) : Ctx := { c with sc := relS scope c.sc, fnl := fun x => scope.names.lookup x == some .cell }
mutual
def chkE (c : Ctx) : E → Expr → Bool
  | .var i => fun z => match z with
    | .Name x _ => c.vis i x
    | _ => false
  | .lit d => fun z => match z with
    | .Constant k _ _ => litOk d k
    | _ => false
  | .ty n => fun z => match z with
    | .Name x _ => c.gl x && decide (x = Str.ofString n) && tyNames.contains n
    | _ => false
  | .fn i => fun z => match z with
    | .Name x _ => c.gl x && decide (c.fns[i]? = some x)
    | _ => false
  | .bin o a b => fun z => match z with
    | .BinOp x op y _ => o.ok op && chkE c a x && chkE c b y
    | _ => false
  | .neg a => fun z => match z with
    | .UnaryOp .USub x _ => chkE c a x
    | _ => false
  | .cmp o a b => fun z => match z with
    | .Compare x [op] [y] _ => o.ok op && !behindInMarks op y && chkE c a x && chkE c b y
    | _ => false
  | .cmp2 o p a b d => fun z => match z with
    | .Compare x [op, op'] [y, z] _ => o.ok op && p.ok op' && !lastMarks [op, op'] [y, z] && chkE c a x && chkE c b y && chkE c d z
    | _ => false
  | .and a b => fun z => match z with
    | .BoolOp .And (x :: y :: r) pos => chkE c a x && chkE c b (.BoolOp .And (y :: r) pos)
    | _ => false
  | .or a b => fun z => match z with
    | .BoolOp .Or (x :: y :: r) pos => chkE c a x && chkE c b (.BoolOp .Or (y :: r) pos)
    | _ => false
  | .one a => fun z => match z with
    | .BoolOp _ [x] _ => chkE c a x
    | _ => false
  | .not a => fun z => match z with
    | .UnaryOp .Not x _ => chkE c a x
    | _ => false
  | .ite t a b => fun z => match z with
    | .IfExp x y z _ => chkE c t x && chkE c a y && chkE c b z
    | _ => false
  | .call f es => fun z => match z with
    | .Call (.Name x _) xs [] _ => c.gl x && decide (c.fns[f]? = some x) && chkEs c es xs && !xs.isEmpty
    | _ => false
  | .bi b es => fun z => match z with
    | .Call (.Name x _) xs [] _ => c.gl x && decide (b.nm = x) && chkEs c es xs && !xs.isEmpty
    | _ => false
  | .bt b es => fun z => match z with
    | .Call (.Name x _) xs [] _ => c.gl x && decide (b.nm = x) && chkEs c es xs && !xs.isEmpty
    | _ => false
  | .mth m o es => fun z => match z with
    | .Call (.Attribute x n apos) xs [] cpos => decide (m.nm = n) && notCall x && (apos.endLine == cpos.line) && decide (xs.length < 20) && chkE c o x && chkEs c es xs && !xs.isEmpty
    | _ => false
  | .idx a b => fun z => match z with
    | .Subscript x y _ => notSlice y && chkE c a x && chkE c b y
    | _ => false
  | .slc a lo hi => fun z => match z with
    | .Subscript x (.Slice l h none _) _ => chkE c a x && (match l with | none => lo.isNo | some y => !lo.isNo && chkE c lo y) && (match h with | none => hi.isNo | some y => !hi.isNo && chkE c hi y)
    | _ => false
  | .rev a => fun z => match z with
    | .Subscript x (.Slice none none (some (.UnaryOp .USub (.Constant (.int 1) _ _) _)) _) _ => chkE c a x
    | _ => false
  | .glo y k => fun z => match z with
    | .Name x _ => c.gl x && decide (x = y) && decide ((y, k) ∈ c.gls)
    | _ => false
  | .callL i fs es => fun z => match z with
    | .Call (.Name x _) xs [] _ => c.vis i x && chkEs c es xs && !xs.isEmpty && fs.all fun f => (c.fns[f]?).isSome
    | _ => false
  | .tup es => fun z => match z with
    | .Tuple xs _ _ => chkEs c es xs
    | _ => false
  | .lst es => fun z => match z with
    | .List xs _ => chkEs c es xs
    | _ => false
  | .lstR es => fun z => match z with
    | .List xs _ => chkEs c es xs
    | _ => false
  | .dK => fun z => match z with
    | .Dict [] [] _ => true
    | _ => false
  | .dT => fun z => match z with
    | .Dict [] [] _ => true
    | _ => false
  | .comp p it t elt own => fun z => match z with
    | .ListComp x [⟨tg, iter, ifs, 0⟩] scope _ => notSet iter && blkC c.N c.sc scope (ownOf c own) && decide ((ownOf c own).map (·.2) = own) && chkIt c it tg iter && chkP (c.inner scope) p tg && (match p with | .nm i => decide (i ∈ own) | .tp is => is.all (fun i => decide (i ∈ own)) | .tl is => is.all (fun i => decide (i ∈ own)) | .tn ps => ps.all fun p => match p with | .inl i => decide (i ∈ own) | .inr is => is.all fun i => decide (i ∈ own)) && (match ifs with | [] => t.isNo | [y] => !t.isNo && chkE (c.inner scope) t y | _ => false) && chkE (c.inner scope) elt x
    | _ => false
  | .no => fun _ => false
def chkEs (c : Ctx) : Es → List Expr → Bool
  | .nil => fun z => match z with
    | [] => true
    | _ => false
  | .cons e es => fun z => match z with
    | x :: xs => notStar x && chkE c e x && chkEs c es xs
    | _ => false
def chkIt (c : Ctx) : It → Expr → Expr → Bool
  | .seq e => fun _ x => chkE c e x
  | .range1 a => fun _ z => match z with
    | .Call (.Name n _) [x] [] _ => c.gl n && decide (n = ("range" : Str)) && notStar x && chkE c a x
    | _ => false
  | .range2 a b => fun _ z => match z with
    | .Call (.Name n _) [x, y] [] _ => c.gl n && decide (n = ("range" : Str)) && notStar x && notStar y && chkE c a x && chkE c b y
    | _ => false
  | .zip a b => fun tg z => match z with
    | .Call (.Name n _) [x, y] [] _ => isTup tg && c.gl n && decide (n = ("zip" : Str)) && notStar x && notStar y && chkE c a x && chkE c b y
    | _ => false
end

/-! ### the judgements -/
section
variable (T : TW) (W : WX)
def postG {B : Type} (σ : L2.St) (H : Hp) (α : List Addr) (r : R B) (K : B → Hp → List Addr → Sto → Prop) : Prop := match r with
  | .ok b S' => ∀ H' α', Ext H α H' α' → HR T H' α' S' → K b H' α' S'
  | .exc c S' => ∀ H' α', Ext H α H' α' → HR T H' α' S' → W (.ref (T.ca c)) none σ H'
  | .stuck => False
def tE (m : Env → Sto → R D) : TE := fun σ H Q => ∃ Z α ρ S, HR (T.wp Z) H α S ∧ RepE (T.wp Z) H α ρ σ ∧ postG (T.wp Z) W σ H α (m ρ S) fun d H' α' _ => ∀ v, Rep (T.wp Z) H' α' d v → Q v H'
def tT (m : Env → Sto → R Bool) : TT := fun σ H Q => ∃ Z α ρ S, HR (T.wp Z) H α S ∧ RepE (T.wp Z) H α ρ σ ∧ postG (T.wp Z) W σ H α (m ρ S) fun b H' _ _ => Q b H'
def tA (m : Env → Sto → R (List D)) : TA := fun σ H Q => ∃ Z α ρ S, HR (T.wp Z) H α S ∧ RepE (T.wp Z) H α ρ σ ∧ postG (T.wp Z) W σ H α (m ρ S) fun ds H' α' _ => ∀ vs, RepL (T.wp Z) H' α' ds vs → Q vs H'
def tOp' (m : Env → Sto → R (Option Int)) : TO := fun σ H Q => ∃ Z α ρ S, HR (T.wp Z) H α S ∧ RepE (T.wp Z) H α ρ σ ∧ postG (T.wp Z) W σ H α (m ρ S) fun o H' _ _ => Q o H'
end
section
variable {T : TW} {W : WX} {σ : L2.St} {H : Hp} {α : List Addr}
theorem postG.mono {B : Type} {r : R B} {K K' : B → Hp → List Addr → Sto → Prop} (h : postG T W σ H α r K) (k : ∀ b H' α' S', Ext H α H' α' → HR T H' α' S' → K b H' α' S' → K' b H' α' S') : postG T W σ H α r K' := by
  cases r with
  | ok b S => exact fun H' α' e hr => k _ _ _ _ e hr (h H' α' e hr)
  | exc c S => exact h
  | stuck => exact h
theorem postG.ext {B : Type} {H1 : Hp} {α1 : List Addr} {r : R B} {K : B → Hp → List Addr → Sto → Prop} (e : Ext H α H1 α1) (h : postG T W σ H α r K) : postG T W σ H1 α1 r K := by
  cases r with
  | ok b S => exact fun H' α' e' hr => h H' α' (e.trans e') hr
  | exc c S => exact fun H' α' e' hr => h H' α' (e.trans e') hr
  | stuck => exact h
theorem postG.bind {A B : Type} {r : R A} {k : A → Sto → R B} {K : B → Hp → List Addr → Sto → Prop} (h : postG T W σ H α (r.bind k) K) : postG T W σ H α r fun a H' α' S' => postG T W σ H' α' (k a S') K := by
  cases r with
  | ok a S => exact fun H' α' e hr => postG.ext e h
  | exc c S => exact h
  | stuck => exact h
/-- an operation at the end -/
theorem postG.op {f : OpF} {S : Sto} {ds : List D} {vs : List V} {Q : VK} (hr : HR T H α S) (rs : RepL T H α ds vs) (h : postG T W σ H α (liftO (f S ds)) fun d H' α' _ => ∀ v, Rep T H' α' d v → Q v H') : rC T f vs H Q := by
  cases e : f S ds with
  | none => rw [e] at h; exact h.elim
  | some p =>
    obtain ⟨d, S'⟩ := p
    rw [e] at h
    exact ⟨α, S, ds, d, S', hr, rs, e, fun v H' α' e1 h1 r1 => h H' α' e1 h1 v r1⟩
end
/-- the same, whatever lists are in the making -/
def rX (T : TW) (f : OpF) : List V → Hp → VK → Prop := fun xs H Q => ∃ Z, rC (T.wp Z) f xs H Q
def rX2 (T : TW) (f : OpF) : R2 := fun x y H Q => ∃ Z, rC2 (T.wp Z) f x y H Q
theorem OpR.rX {X : Cx} {T : TW} {F : Value → Value → Sem Value} {f : OpF} (h : ∀ T' : TW, T'.K = T.K → OpR X F (rC2 T' f)) : OpR X F (rX2 T f) := OpR.cases fun x y H Q ⟨Z, q⟩ => ⟨_, h (T.wp Z) rfl, q⟩
theorem CallR.rX {X : Cx} {T : TW} {F : Value} {f : OpF} (h : ∀ T' : TW, T'.K = T.K → CallR X F (rC T' f)) : CallR X F (rX T f) := CallR.cases fun xs H Q ⟨Z, q⟩ => ⟨_, h (T.wp Z) rfl, q⟩
theorem PE.imp {X : Cx} {e : Expr} {t t' : TE} (h : PE X e t) (k : ∀ σ H Q, t' σ H Q → t σ H Q) : PE X e t' := ⟨fun pins s σ H Q I q => h.run pins s σ H Q I (k _ _ _ q)⟩
theorem PT.imp {X : Cx} {e : Expr} {t t' : TT} (h : PT X e t) (k : ∀ σ H Q, t' σ H Q → t σ H Q) : PT X e t' := ⟨fun pins s σ H Q I q => h.run pins s σ H Q I (k _ _ _ q)⟩
theorem PW.imp {X : Cx} {e : Expr} {t t' : TT} (h : PW X e t) (k : ∀ σ H Q, t' σ H Q → t σ H Q) : PW X e t' := ⟨fun w pins s σ H Q I q => h.run w pins s σ H Q I (k _ _ _ q)⟩
theorem PA.imp {X : Cx} {e : List Expr} {t t' : TA} (h : PA X e t) (k : ∀ σ H Q, t' σ H Q → t σ H Q) : PA X e t' := ⟨fun p pins s σ H Q I q => h.run p pins s σ H Q I (k _ _ _ q)⟩
theorem PO.imp {X : Cx} {e : Option Expr} {t t' : TO} (h : PO X e t) (k : ∀ σ H Q, t' σ H Q → t σ H Q) : PO X e t' := ⟨fun pins s σ H Q I q => h.run pins s σ H Q I (k _ _ _ q)⟩

/-- a def called: its values in, its answer out -/
def spI (T : TW) (np : Nat) (cf : List D → Sto → R D) : Sp := fun vs H Q E => vs.length = np ∧ ∃ Z α S ds, HR (T.wp Z) H α S ∧ RepL (T.wp Z) H α ds vs ∧ match cf ds S with
  | .ok d S' => ∀ H' α', Ext H α H' α' → HR (T.wp Z) H' α' S' → ∀ v, Rep (T.wp Z) H' α' d v → Q v H'
  | .exc c S' => ∀ H' α', Ext H α H' α' → HR (T.wp Z) H' α' S' → E (.ref (T.ca c)) none H'
  | .stuck => False

/-- the context is as the checker took it -/
structure Good (T : TW) (cf : Nat → List D → Sto → R D) (c : Ctx) (X : Cx) (W : WX) : Prop where
  N : X.N = c.N
  nd : c.N.Nodup
  sc : X.env.scope = c.sc
  kind : c.sc.kind = .function
  fnl : X.fn = c.fnl
  K : X.K = T.K
  calm : X.calm = true
  room : ∃ k, Room k X.A ∧ ∀ (f : Nat) (x : Str), c.fns[f]? = some x → ∃ fd ps np, X.mg x = some (.ref (T.fa f)) ∧ PySem.W.keepIn X.K (.ref (T.fa f)) = true ∧ FnOk X.prog X.w X.K X.mg X.base (L2.CX X.prog X.w) k (T.fa f) fd ps (spI T np (cf f)) ∧ ps.length = np ∧ Binds X.K fd ps [] ∧ ∀ ds S, ds.length ≠ np → cf f ds S = .stuck
  gls : ∀ x k, (x, k) ∈ c.gls → ∃ v u, X.mg x = some u ∧ RelV v u ∧ ∀ (T' : TW) H α, T'.K = T.K → Rep T' H α k.d v
  bn : ∀ x ∈ bnames, X.mg x = none
  tk : Takes X W
theorem Good.units {T cf c X W} (g : Good T cf c X W) : X.A.units + 66 < cLine := by
  obtain ⟨k, r, _⟩ := g.room
  have := r.un
  omega
end NT
/-! the interpreter is right: expressions -/
namespace NT
open PySem L2

theorem star_eq {x : Expr} {xs : List Expr} {env : PySem.Env} (h : notStar x = true) : starEach (x :: xs) env = (false, eval x env) :: starEach xs env := by
  cases x <;> first | rfl | cases h
theorem star_any {pos : Pos} {env : PySem.Env} : ∀ {xs : List Expr}, (∀ x ∈ xs, notStar x = true) → (backTo pos (starEach xs env)).any (·.1) = false
  | [], _ => rfl
  | x :: xs, h => by
    rw [star_eq (h x List.mem_cons_self)]
    show (false || (backTo pos (starEach xs env)).any (·.1)) = false
    rw [star_any fun y hy => h y (List.mem_cons_of_mem _ hy)]
    rfl
theorem star_all {pos : Pos} {env : PySem.Env} : ∀ {xs : List Expr}, (∀ x ∈ xs, notStar x = true) → (backTo pos (starEach xs env)).all (fun x => !x.1) = true
  | [], _ => rfl
  | x :: xs, h => by
    rw [star_eq (h x List.mem_cons_self)]
    show (true && (backTo pos (starEach xs env)).all (fun x => !x.1)) = true
    rw [star_all fun y hy => h y (List.mem_cons_of_mem _ hy)]
    rfl
theorem plainIx_of {y : Expr} (h : notSlice y = true) : PlainIx y := by
  intro o i
  cases y <;> first | rfl | cases h
theorem fold_of {y : Expr} {env : PySem.Env} (h : notSet y = true) : ∀ x, foldedSetIterable y env x = pure x := by
  intro x
  cases y <;> first | rfl | cases h
theorem base_of {o : Expr} {n : Str} {env : PySem.Env} (h : notCall o = true) : attributeBase o n env (eval o env) = eval o env := by
  unfold notCall at h
  split at h
  · cases h
  · rename_i hn
    unfold attributeBase
    split
    · rename_i id p pos
      exact (hn id p pos rfl).elim
    · rfl
section
variable {T : TW} {cf : Nat → List D → Sto → R D} {c : Ctx} {X : Cx} {W : WX}
theorem okName_iff {x : Str} (h : okName x = true) : (x == ("__debug__" : Str)) = false ∧ (x == ("__classdict__" : Str)) = false ∧ x ≠ "__name__" := by
  unfold okName at h
  simp only [Bool.and_eq_true, Bool.not_eq_true'] at h
  exact ⟨h.1.1, h.1.2, fun e => by subst e; simp at h⟩
theorem Good.var (g : Good T cf c X W) {i : Nat} {x : Str} {pos : Pos} (h : c.vis i x = true) : PE X (.Name x pos) (tVar i) := by
  unfold Ctx.vis at h
  simp only [Bool.and_eq_true, decide_eq_true_eq] at h
  obtain ⟨⟨h1, h2⟩, h3⟩ := h
  obtain ⟨n1, n2, n3⟩ := okName_iff h1
  refine pe_var (by rw [g.N]; exact h2) ?_ n1 n2
  unfold Vis
  rw [g.sc]
  split at h3
  · exact .inl (by assumption)
  · exact .inr (.inl (by assumption))
  · exact .inr (.inr (by assumption))
  · cases h3
theorem Good.gl (g : Good T cf c X W) {x : Str} (h : c.gl x = true) : Gl X x ∧ (x == ("__debug__" : Str)) = false ∧ x ≠ "__name__" := by
  unfold Ctx.gl at h
  simp only [Bool.and_eq_true, decide_eq_true_eq] at h
  obtain ⟨n1, n2, n3⟩ := okName_iff h.1
  refine ⟨?_, n1, n3⟩
  show X.env.scope.names.lookup x = some .globalImplicit
  rw [g.sc]
  exact h.2
theorem Good.room1 (g : Good T cf c X W) : ∃ k, Room k X.A := by
  obtain ⟨k, r, _⟩ := g.room
  exact ⟨k, r⟩
theorem plainT {x : Expr} {m : NT.Env → Sto → R D} (hK : X.K = T.K) (hp : PE X x (tE T W m)) (he : ∀ whole, isTrue x X.env whole = (do let v ← whole; standAt x.pos; holding [v] (truthy v))) : PT X x (tT T W (plainE m).2) := by
  refine PT.imp (pt_truth hp he) fun σ H Q h => ?_
  obtain ⟨Z, α, ρ, S, hr, re, q⟩ := h
  refine ⟨Z, α, ρ, S, hr, re, (postG.bind q).mono fun d H1 α1 S1 e1 h1 q1 v rv => ?_⟩
  cases et : truB S1 d with
  | none => rw [et] at q1; exact q1.elim
  | some b =>
    rw [et] at q1
    refine ⟨b, ?_, q1 H1 α1 (Ext.refl _ _) h1⟩
    rw [show X.K = (T.wp Z).K from hK]
    have seq : ∀ {k ds}, asSeq S1 d = some (k, ds) → b = !ds.isEmpty → TruV (T.wp Z).K v H1 b := fun {k ds} e2 e3 => by
      obtain ⟨a, vs, rfl, rl, sq⟩ := asSeq_ok h1 rv e2
      have e4 : ds.isEmpty = vs.isEmpty := by
        have := rl.length
        cases ds <;> cases vs <;> simp at this ⊢
      rw [e3, e4]
      cases k with
      | true => exact .inl ⟨vs, by simpa using sq, rfl⟩
      | false => exact .inr (.inl ⟨vs, by simpa using sq, rfl⟩)
    cases d with
    | non => cases et; cases rv; rfl
    | bl b' => cases et; cases rv; rfl
    | int i => cases et; cases rv; rfl
    | str y =>
      simp only [truB] at et
      split at et
      · cases et; cases rv
        exact ⟨by assumption, rfl⟩
      · cases et
    | tup ds => cases et; exact seq (k := false) rfl rfl
    | lst ds => cases et; exact seq (k := true) rfl rfl
    | wt ds => cases et; exact seq (k := false) rfl rfl
    | wl ds => cases et; exact seq (k := true) rfl rfl
    | ref i =>
      simp only [truB] at et
      split at et
      · rename_i k ds e2
        cases et
        exact seq e2 rfl
      · split at et
        · rename_i kvs e2
          cases et
          obtain ⟨a, rfl, ha⟩ := rv
          obtain ⟨a', u, e3, e4, ws, rfl, e5⟩ := h1.cell _ _ e2
          rw [ha] at e3; cases e3
          refine .inr (.inr ⟨ws, e4, ?_⟩)
          have := e5.length
          cases kvs <;> cases ws <;> simp at this ⊢
        · cases et
    | fn i => cases et
    | ty n => cases et
theorem boolT {x : Expr} {m : NT.Env → Sto → R D} {t : TE} (hp : PT X x (tTest t)) (ht : ∀ σ H Q, tE T W m σ H Q → t σ H Q) : PT X x (tT T W (boolE m).2) := by
  refine PT.imp hp fun σ H Q h => ?_
  obtain ⟨Z, α, ρ, S, hr, re, q⟩ := h
  refine ht _ _ _ ⟨Z, α, ρ, S, hr, re, (postG.bind q).mono fun d H1 α1 S1 e1 h1 q1 v rv => ?_⟩
  cases d with
  | bl b => cases rv; exact ⟨b, rfl, q1 H1 α1 (Ext.refl _ _) h1⟩
  | _ => exact q1.elim

/-! ### one operation -/
theorem two_op {m1 m2 : NT.Env → Sto → R D} {f : OpF} {σ : L2.St} {H : Hp} {Q : VK} (h : tE T W (fun ρ S => (m1 ρ S).bind fun x S1 => (m2 ρ S1).bind fun y S2 => liftO (f S2 [x, y])) σ H Q) : tOp (rX2 T f) (tE T W m1) (tE T W m2) σ H Q := by
  obtain ⟨Z, α, ρ, S, hr, re, q⟩ := h
  refine ⟨Z, α, ρ, S, hr, re, (postG.bind q).mono fun d H1 α1 S1 e1 h1 q1 v1 r1 => ?_⟩
  refine ⟨Z, α1, ρ, S1, h1, re.ext e1, (postG.bind q1).mono fun d2 H2 α2 S2 e2 h2 q2 v2 r2 => ?_⟩
  exact ⟨Z, postG.op h2 (show RepL (T.wp Z) H2 α2 [d, d2] [v1, v2] from ⟨v1, [v2], rfl, r1.ext e2, v2, [], rfl, r2, rfl⟩) q2⟩
theorem cmp_rule (g : Good T cf c X W) : ∀ {o : Cop} {op : CmpOp}, o.ok op = true → OpR X (compareOp op) (rX2 T o.f) := by
  intro o op h
  refine OpR.rX fun T' hT => ?_
  have hK : X.K = T'.K := g.K.trans hT.symm
  have hu := g.units
  cases o <;> cases op <;> first
    | (exfalso; exact absurd (show false = true from h) Bool.false_ne_true)
    | exact op_eq' hK (by omega)
    | exact op_ne' hK (by omega)
    | exact op_lt' hK (by omega)
    | exact op_le' hK (by omega)
    | exact op_gt' hK (by omega)
    | exact op_ge' hK (by omega)
    | exact op_is'
    | exact op_isnot'
    | exact op_in' hK (by omega)
    | exact op_notin' hK (by omega)
theorem bin_rule (g : Good T cf c X W) : ∀ {o : Bop} {op : Operator}, o.ok op = true → OpR X (binaryOp op) (rX2 T o.f) := by
  intro o op h
  refine OpR.rX fun T' hT => ?_
  have hK : X.K = T'.K := g.K.trans hT.symm
  cases o <;> cases op <;> first
    | (exfalso; exact absurd (show false = true from h) Bool.false_ne_true)
    | exact op_add' hK
    | exact op_sub'
    | exact op_mul' hK
    | exact op_mod'
    | exact op_fdiv'
theorem call_none {f : Value} {T : TW} : CallR X f (rC T noF) := fun pins s σ H xs us Q I r h => by
  obtain ⟨α, S, ds, r', S', _, _, e, _⟩ := h
  cases e
theorem bi_rule (g : Good T cf c X W) (b : Bi) : ∃ id, bootBuiltins b.nm = some (.builtin id) ∧ CallR X (.builtin id) (rX T b.f) := by
  have hu := g.units
  cases b
  · exact ⟨"len", by decide +kernel, CallR.rX fun T' hT => len_ok (g.K.trans hT.symm)⟩
  · exact ⟨"abs", by decide +kernel, CallR.rX fun T' hT => abs_ok⟩
  · exact ⟨"max", by decide +kernel, CallR.rX fun T' hT => max_ok (g.K.trans hT.symm) g.calm⟩
  · exact ⟨"min", by decide +kernel, CallR.rX fun T' hT => min_ok (g.K.trans hT.symm) g.calm⟩
  · exact ⟨"all", by decide +kernel, CallR.rX fun T' hT => all_ok (g.K.trans hT.symm) g.calm⟩
  · exact ⟨"any", by decide +kernel, CallR.rX fun T' hT => any_ok (g.K.trans hT.symm) g.calm⟩
  · exact ⟨"sum", by decide +kernel, CallR.rX fun T' hT => sum_ok (g.K.trans hT.symm) g.calm⟩
  · exact ⟨"sorted", by decide +kernel, CallR.rX fun T' hT => sorted_ok (g.K.trans hT.symm) g.calm (by omega)⟩
  · exact ⟨"isinstance", by decide +kernel, CallR.rX fun T' hT => isi_ok (g.K.trans hT.symm)⟩
theorem bt_rule (g : Good T cf c X W) (b : Bt) : ∃ id, bootBuiltins b.nm = some (.type id) ∧ CallR X (.type id) (rX T b.f) := by
  have hu := g.units
  cases b
  · exact ⟨"tuple", by decide +kernel, CallR.rX fun T' hT => tuple_ok (g.K.trans hT.symm)⟩
  · exact ⟨"list", by decide +kernel, CallR.rX fun T' hT => list_ok (g.K.trans hT.symm)⟩
  · exact ⟨"int", by decide +kernel, CallR.rX fun T' hT => int_ok⟩
  · exact ⟨"dict", by decide +kernel, CallR.rX fun T' hT => dict_ok (g.K.trans hT.symm) g.calm⟩
  · exact ⟨"set", by decide +kernel, CallR.rX fun T' hT => call_none⟩
  · exact ⟨"str", by decide +kernel, CallR.rX fun T' hT => call_none⟩
theorem Bi.mem (b : Bi) : b.nm ∈ bnames := by cases b <;> decide +kernel
theorem Bt.mem (b : Bt) : b.nm ∈ bnames := by cases b <;> decide +kernel
theorem args_op {m : NT.Env → Sto → R (List D)} {f : OpF} {σ : L2.St} {H : Hp} {Q : VK} (h : tE T W (fun ρ S => (m ρ S).bind fun ds S1 => liftO (f S1 ds)) σ H Q) : tCB (rX T f) (tA T W m) σ H Q := by
  obtain ⟨Z, α, ρ, S, hr, re, q⟩ := h
  refine ⟨Z, α, ρ, S, hr, re, (postG.bind q).mono fun ds H1 α1 S1 e1 h1 q1 vs r1 => ?_⟩
  exact ⟨Z, postG.op h1 r1 q1⟩
end
end NT
/-! walks, targets, comprehensions -/
namespace NT
open PySem L2
section
variable {T : TW} {cf : Nat → List D → Sto → R D} {c : Ctx} {X : Cx} {W : WX}

/-! ### what is walked -/
/-- an iterator over these items, as long as the cells gs stand -/
def WalkOk (T : TW) (J : L2.It) (items : List D) (gs : Gs) (H0 : Hp) (α0 : List Addr) : Prop := ∀ (Z : List Addr) i H α S, i ≤ items.length → (∀ a ∈ T.pz, a ∈ Z) → Ext H0 α0 H α → HR (T.wp Z) H α S → (∀ d v, Rep T H0 α0 d v → Rep (T.wp Z) H α d v) → gok gs S →
  (i < items.length → J.go i H ∧ ∀ x H', J.yld i H x H' → ∃ d, items[i]? = some d ∧ Ext H α H' α ∧ HR (T.wp Z) H' α S ∧ Rep (T.wp Z) H' α d x) ∧ (i = items.length → J.stop i H)
def tI (T : TW) (W : WX) (m : NT.Env → Sto → R (List D × Gs)) : TI := fun σ H Q => ∃ Z α ρ S, HR (T.wp Z) H α S ∧ RepE (T.wp Z) H α ρ σ ∧ postG (T.wp Z) W σ H α (m ρ S) fun ig H' α' _ => ∀ J, WalkOk (T.wp Z) J ig.1 ig.2 H' α' → Q J H'
theorem PI.imp {tg e : Expr} {t t' : TI} (h : PI X tg e t) (k : ∀ σ H Q, t' σ H Q → t σ H Q) : PI X tg e t' := ⟨fun pins s σ H Q I q => h.run pins s σ H Q I (k _ _ _ q)⟩
def iSeq (K : PySem.W.Frag) (tl : TE) : TI := fun σ H R => tl σ H fun x H1 => ∃ a, x = .ref a ∧ (((∃ xs, SqL K H1 a xs) ∧ R (Itl K a) H1) ∨ ((∃ xs, SqT K H1 a xs) ∧ R (Itt K a) H1))
open PySem.Spec PyProof.Rows in
theorem pi_seq {tg l : Expr} {tl : TE} (hl : PE X l tl) : PI X tg l (iSeq X.K tl) := by
  refine ⟨fun pins s σ H R I h => ?_⟩
  refine thn (hl.run pins s σ H _ I h) fun v s1 ⟨x, H1, I1, r1, q1⟩ => ?_
  obtain ⟨a, e, q⟩ := q1
  subst e
  cases r1
  rcases q with ⟨⟨xs, hq⟩, q⟩ | ⟨⟨xs, hq⟩, q⟩
  · obtain ⟨its, rv, p, hz⟩ := I1.list hq
    refine wpAny_pyIter_list p.isList ?_
    refine ⟨s1.heap.objs.size, [s1.heap.objs.size], _, _, H1, rfl, I1.kept (t' := s1.toks) fun b o e => Heap.get?_push_of_some _ e, turn_list a _, ⟨_, Heap.get?_push_size _ rfl, rfl, rfl⟩, fun b hb => ?_, q⟩
    have e : b = s1.heap.objs.size := by simpa using hb
    subst e
    exact I1.fpOk (Nat.le_refl _) (I1.hok.fresh (Nat.le_refl _))
  · obtain ⟨its, rv, p, hz⟩ := I1.tuple hq
    refine wpAny_pyIter_tuple (show s1.heap.IsTuple a its.toArray from p) ?_
    refine ⟨s1.heap.objs.size, [s1.heap.objs.size], _, _, H1, rfl, I1.kept (t' := s1.toks) fun b o e => Heap.get?_push_of_some _ e, turn_tuple a _, ⟨_, Heap.get?_push_size _ rfl, rfl, rfl⟩, fun b hb => ?_, q⟩
    have e : b = s1.heap.objs.size := by simpa using hb
    subst e
    exact I1.fpOk (Nat.le_refl _) (I1.hok.fresh (Nat.le_refl _))
theorem gOf_ok {S S' : Sto} {d : D} {k : Bool} {es : List D} (e : asSeq S d = some (k, es)) (g : gok (gOf d es) S') : asSeq S' d = some (k, es) := by
  cases d with
  | ref i =>
    have h := g (i, es) (by simp [gOf])
    unfold cellL at h
    simp only [asSeq] at e ⊢
    split at h
    · rename_i ds q
      cases h
      rw [q]
      split at e <;> cases e
      rfl
    · cases h
  | _ => exact e
theorem walk_seq {Z0 : List Addr} {H0 : Hp} {α0 : List Addr} {S0 : Sto} {d : D} {a : Addr} {k : Bool} {es : List D} (e : asSeq S0 d = some (k, es)) (r : Rep (T.wp Z0) H0 α0 d (.ref a)) :
    WalkOk (T.wp Z0) (if k = true then Itl T.K a else Itt T.K a) es (gOf d es) H0 α0 := by
  intro Z i H α S hi hz ex hr hk g
  have e' := gOf_ok e g
  obtain ⟨a', vs, ea, rl, sq⟩ := asSeq_ok hr (hk d _ r) e'
  cases ea
  have hl := rl.length
  cases k with
  | true =>
    have sq' : SqL T.K H a vs := by
      have q := sq
      rw [if_pos rfl] at q
      exact q
    refine ⟨fun hlt => ?_, fun he => ⟨vs, sq', by omega⟩⟩
    have hv : i < vs.length := by omega
    refine ⟨⟨vs, vs[i], sq', by simp [hv]⟩, fun x H' y => ?_⟩
    obtain ⟨rfl, y⟩ := y
    obtain ⟨d', e1, e2⟩ := rl.get' (y vs sq')
    exact ⟨d', e1, Ext.refl _ _, hr, e2⟩
  | false =>
    have sq' : SqT T.K H a vs := by
      have q := sq
      rw [if_neg (by decide)] at q
      exact q
    refine ⟨fun hlt => ?_, fun he => ⟨vs, sq', by omega⟩⟩
    have hv : i < vs.length := by omega
    refine ⟨⟨vs, vs[i], sq', by simp [hv]⟩, fun x H' y => ?_⟩
    obtain ⟨rfl, y⟩ := y
    obtain ⟨d', e1, e2⟩ := rl.get' (y vs sq')
    exact ⟨d', e1, Ext.refl _ _, hr, e2⟩
theorem rngD_get {lo : Int} {n i : Nat} (h : i < n) : (rngD lo n)[i]? = some (.int (lo + i)) := by
  unfold rngD
  simp [h]
theorem walk_range {Z0 : List Addr} {H0 : Hp} {α0 : List Addr} (lo : Int) (n : Nat) : WalkOk (T.wp Z0) (Itr lo n) (rngD lo n) [] H0 α0 := by
  intro Z i H α S hi hz ex hr hk g
  have hl : (rngD lo n).length = n := by simp [rngD]
  rw [hl] at hi ⊢
  refine ⟨fun hlt => ⟨hlt, fun x H' y => ?_⟩, fun he => Nat.le_of_eq he.symm⟩
  obtain ⟨rfl, rfl⟩ := y
  exact ⟨_, rngD_get hlt, Ext.refl _ _, hr, rfl⟩
theorem walk_zip {Z0 : List Addr} {H0 : Hp} {α0 : List Addr} {S0 : Sto} {d1 d2 : D} {a b : Addr} {k : Bool} {xs ys : List D} (e1 : asSeq S0 d1 = some (k, xs)) (e2 : asSeq S0 d2 = some (k, ys)) (r1 : Rep (T.wp Z0) H0 α0 d1 (.ref a)) (r2 : Rep (T.wp Z0) H0 α0 d2 (.ref b)) :
    WalkOk (T.wp Z0) (if k = true then Itz T.K a b else RZ.ItzT T.K a b) ((xs.zip ys).map fun p => .tup [p.1, p.2]) (gOf d1 xs ++ gOf d2 ys) H0 α0 := by
  intro Z i H α S hi hz ex hr hk g
  have g1 : gok (gOf d1 xs) S := fun p hp => g p (List.mem_append_left _ hp)
  have g2 : gok (gOf d2 ys) S := fun p hp => g p (List.mem_append_right _ hp)
  obtain ⟨a', vs, ea, rl, sq⟩ := asSeq_ok hr (hk d1 _ r1) (gOf_ok e1 g1)
  cases ea
  obtain ⟨b', ws, eb, rl2, sq2⟩ := asSeq_ok hr (hk d2 _ r2) (gOf_ok e2 g2)
  cases eb
  have hl := rl.length
  have hl2 := rl2.length
  have hz : ((xs.zip ys).map fun p => D.tup [p.1, p.2]).length = min xs.length ys.length := by simp
  rw [hz] at hi ⊢
  have fin : ∀ {x H'}, i < min xs.length ys.length → (∃ (Tt : Addr) (x1 y1 : V), x = V.ref Tt ∧ H Tt = none ∧ H' = upd H Tt (.tup [x1, y1]) ∧ vs[i]? = some x1 ∧ ws[i]? = some y1) → ∃ d, ((xs.zip ys).map fun p => D.tup [p.1, p.2])[i]? = some d ∧ Ext H α H' α ∧ HR (T.wp Z) H' α S ∧ Rep (T.wp Z) H' α d x := by
    rintro x H' hlt ⟨Tt, x1, y1, rfl, hT, rfl, ex1, ey1⟩
    obtain ⟨dx, q1, q2⟩ := rl.get' ex1
    obtain ⟨dy, q3, q4⟩ := rl2.get' ey1
    have e := Ext.laid hr hT (.tup [x1, y1])
    have ezz : (xs.zip ys)[i]? = some (dx, dy) := List.getElem?_zip_eq_some.mpr ⟨q1, q3⟩
    refine ⟨.tup [dx, dy], by rw [List.getElem?_map, ezz]; rfl, e, hr.laid hT _, Tt, [x1, y1], rfl, ⟨upd_same, hr.fresh hT⟩, x1, [y1], rfl, q2.ext e, y1, [], rfl, q4.ext e, rfl⟩
  cases k with
  | true =>
    have s1 : SqL T.K H a vs := by
      have q := sq
      rw [if_pos rfl] at q
      exact q
    have s2 : SqL T.K H b ws := by
      have q := sq2
      rw [if_pos rfl] at q
      exact q
    refine ⟨fun hlt => ?_, fun he => ⟨vs, ws, s1, s2, by omega⟩⟩
    have h1 : i < vs.length := by omega
    have h2 : i < ws.length := by omega
    refine ⟨⟨vs, ws, vs[i], ws[i], s1, s2, by simp [h1], by simp [h2]⟩, fun x H' y => ?_⟩
    obtain ⟨Tt, x1, y1, ex1, hT, eH, y1', y2'⟩ := y
    exact fin hlt ⟨Tt, x1, y1, ex1, hT, eH, y1' vs s1, y2' ws s2⟩
  | false =>
    have s1 : SqT T.K H a vs := by
      have q := sq
      rw [if_neg (by decide)] at q
      exact q
    have s2 : SqT T.K H b ws := by
      have q := sq2
      rw [if_neg (by decide)] at q
      exact q
    refine ⟨fun hlt => ?_, fun he => ⟨vs, ws, s1, s2, by omega⟩⟩
    have h1 : i < vs.length := by omega
    have h2 : i < ws.length := by omega
    refine ⟨⟨vs, ws, vs[i], ws[i], s1, s2, by simp [h1], by simp [h2]⟩, fun x H' y => ?_⟩
    obtain ⟨Tt, x1, y1, ex1, hT, eH, y1', y2'⟩ := y
    exact fin hlt ⟨Tt, x1, y1, ex1, hT, eH, y1' vs s1, y2' ws s2⟩

/-! ### targets -/
def gNames : List Nat → TGs
  | [] => gNil
  | i :: is => gCons (gName i) (gNames is)
def gNames2 (K : PySem.W.Frag) : List (Nat ⊕ List Nat) → TGs
  | [] => gNil
  | .inl i :: ps => gCons (gName i) (gNames2 K ps)
  | .inr is :: ps => gCons (gTup K is.length (gNames is)) (gNames2 K ps)
def gPat (K : PySem.W.Frag) : Pat → TG
  | .nm i => gName i
  | .tp is => gTup K is.length (gNames is)
  | .tl is => gLst K is.length (gNames is)
  | .tn ps => gTup K ps.length (gNames2 K ps)
/-- the names' part of what a context is known of -/
structure GoodN (T : TW) (c : Ctx) (X : Cx) : Prop where
  N : X.N = c.N
  nd : c.N.Nodup
  sc : X.env.scope = c.sc
  fnl : X.fn = c.fnl
  K : X.K = T.K
  calm : X.calm = true
theorem Good.toN (g : Good T cf c X W) : GoodN T c X := ⟨g.N, g.nd, g.sc, g.fnl, g.K, g.calm⟩
theorem GoodN.name (g : GoodN T c X) {i : Nat} {x : Str} {pos : Pos} (h : c.bindable i x = true) : PG X (.Name x pos) (gName i) := by
  unfold Ctx.bindable at h
  simp only [Bool.and_eq_true, decide_eq_true_eq] at h
  refine pg_name (by rw [g.N]; exact g.nd) (by rw [g.N]; exact h.1) ?_ ?_
  · unfold L2.Loc
    rw [g.sc]
    have h2 := h.2
    split at h2
    · exact .inl (by assumption)
    · exact .inr (by assumption)
    · cases h2
  · rw [g.sc, g.fnl]
    have h2 := h.2
    split at h2
    · exact .inr (by assumption)
    · exact .inl h2
    · cases h2
theorem namesOk_len {c : Ctx} : ∀ {is : List Nat} {es : List Expr}, namesOk c is es = true → is.length = es.length ∧ ∀ {env : PySem.Env}, (assignEach es env).length = es.length ∧ (assignEach es env).findIdx? (·.1) = none
  | [], [], _ => ⟨rfl, rfl, rfl⟩
  | i :: is, .Name x p :: es, h => by
    unfold namesOk at h
    simp only [Bool.and_eq_true] at h
    obtain ⟨h1, h2⟩ := namesOk_len h.2
    refine ⟨by simp [h1], fun {env} => ⟨?_, ?_⟩⟩
    · show (assignEach es env).length + 1 = es.length + 1
      rw [(h2 (env := env)).1]
    · show List.findIdx? (·.1) ((false, assign (.Name x p) env) :: assignEach es env) = none
      rw [List.findIdx?_cons]
      simp [(h2 (env := env)).2]
  | [], _ :: _, h => by cases h
  | _ :: _, [], h => by cases h
  | _ :: _, e :: es, h => by
    cases e <;> first | (exfalso; exact absurd (show false = true from h) Bool.false_ne_true) | skip
    rename_i i is x p
    unfold namesOk at h
    simp only [Bool.and_eq_true] at h
    obtain ⟨h1, h2⟩ := namesOk_len h.2
    refine ⟨by simp [h1], fun {env} => ⟨?_, ?_⟩⟩
    · show (assignEach es env).length + 1 = es.length + 1
      rw [(h2 (env := env)).1]
    · show List.findIdx? (·.1) ((false, assign (.Name x p) env) :: assignEach es env) = none
      rw [List.findIdx?_cons]
      simp [(h2 (env := env)).2]
theorem GoodN.names (g : GoodN T c X) : ∀ {is : List Nat} {es : List Expr}, namesOk c is es = true → PGs X es (gNames is)
  | [], [], _ => pgs_nil
  | [], _ :: _, h => by cases h
  | _ :: _, [], h => by cases h
  | i :: is, e :: es, h => by
    cases e <;> first | (exfalso; exact absurd (show false = true from h) Bool.false_ne_true) | skip
    unfold namesOk at h
    simp only [Bool.and_eq_true] at h
    exact pgs_cons (g.name h.1) (g.names h.2) rfl
theorem names2_len {c : Ctx} : ∀ {ps : List (Nat ⊕ List Nat)} {es : List Expr}, names2Ok c ps es = true → ps.length = es.length ∧ ∀ {env : PySem.Env}, (assignEach es env).length = es.length ∧ (assignEach es env).findIdx? (·.1) = none
  | [], [], _ => ⟨rfl, rfl, rfl⟩
  | [], _ :: _, h => by cases h
  | p :: _, [], h => by cases p <;> cases h
  | .inl i :: ps, e :: es, h => by
    cases e <;> first | (exfalso; exact absurd (show false = true from h) Bool.false_ne_true) | skip
    rename_i x p
    unfold names2Ok at h
    simp only [Bool.and_eq_true] at h
    obtain ⟨h1, h2⟩ := names2_len h.2
    refine ⟨by simp [h1], fun {env} => ⟨?_, ?_⟩⟩
    · show (assignEach es env).length + 1 = es.length + 1
      rw [(h2 (env := env)).1]
    · show List.findIdx? (·.1) ((false, assign (.Name x p) env) :: assignEach es env) = none
      rw [List.findIdx?_cons]
      simp [(h2 (env := env)).2]
  | .inr is :: ps, e :: es, h => by
    cases e <;> first | (exfalso; exact absurd (show false = true from h) Bool.false_ne_true) | skip
    rename_i xs k p
    unfold names2Ok at h
    simp only [Bool.and_eq_true] at h
    obtain ⟨h1, h2⟩ := names2_len h.2
    refine ⟨by simp [h1], fun {env} => ⟨?_, ?_⟩⟩
    · show (assignEach es env).length + 1 = es.length + 1
      rw [(h2 (env := env)).1]
    · show List.findIdx? (·.1) ((false, assign (.Tuple xs k p) env) :: assignEach es env) = none
      rw [List.findIdx?_cons]
      simp [(h2 (env := env)).2]
theorem GoodN.tupN (g : GoodN T c X) {is : List Nat} {es : List Expr} {k} {pos : Pos} (h : namesOk c is es = true) : PG X (.Tuple es k pos) (gTup T.K is.length (gNames is)) := by
  obtain ⟨h1, h2⟩ := namesOk_len h
  have := pg_tup (X := X) (n := is.length) (k := k) (pos := pos) g.calm (g.names h) (by rw [h1]; exact h2.1) h2.2
  rw [g.K] at this
  exact this
theorem GoodN.names2 (g : GoodN T c X) : ∀ {ps : List (Nat ⊕ List Nat)} {es : List Expr}, names2Ok c ps es = true → PGs X es (gNames2 T.K ps)
  | [], [], _ => pgs_nil
  | [], _ :: _, h => by cases h
  | p :: _, [], h => by cases p <;> cases h
  | .inl i :: ps, e :: es, h => by
    cases e <;> first | (exfalso; exact absurd (show false = true from h) Bool.false_ne_true) | skip
    unfold names2Ok at h
    simp only [Bool.and_eq_true] at h
    exact pgs_cons (g.name h.1) (g.names2 h.2) rfl
  | .inr is :: ps, e :: es, h => by
    cases e <;> first | (exfalso; exact absurd (show false = true from h) Bool.false_ne_true) | skip
    unfold names2Ok at h
    simp only [Bool.and_eq_true] at h
    exact pgs_cons (g.tupN h.1) (g.names2 h.2) rfl
theorem GoodN.pat (g : GoodN T c X) {p : Pat} {e : Expr} (h : chkP c p e = true) : PG X e (gPat T.K p) := by
  cases p with
  | nm i =>
    cases e <;> first | (exfalso; exact absurd (show false = true from h) Bool.false_ne_true) | skip
    exact g.name h
  | tp is =>
    cases e <;> first | (exfalso; exact absurd (show false = true from h) Bool.false_ne_true) | skip
    rename_i es k pos
    obtain ⟨h1, h2⟩ := namesOk_len (show namesOk c is es = true from h)
    have := pg_tup (X := X) (n := is.length) (k := k) (pos := pos) g.calm (g.names (show namesOk c is _ = true from h)) (by rw [h1]; exact h2.1) h2.2
    rw [g.K] at this
    exact this
  | tl is =>
    cases e <;> first | (exfalso; exact absurd (show false = true from h) Bool.false_ne_true) | skip
    rename_i es k pos
    obtain ⟨h1, h2⟩ := namesOk_len (show namesOk c is es = true from h)
    have := pg_lst (X := X) (n := is.length) (k := k) (pos := pos) g.calm (g.names (show namesOk c is _ = true from h)) (by rw [h1]; exact h2.1) h2.2
    rw [g.K] at this
    exact this
  | tn ps =>
    cases e <;> first | (exfalso; exact absurd (show false = true from h) Bool.false_ne_true) | skip
    rename_i es k pos
    obtain ⟨h1, h2⟩ := names2_len (show names2Ok c ps es = true from h)
    have := pg_tup (X := X) (n := ps.length) (k := k) (pos := pos) g.calm (g.names2 (show names2Ok c ps _ = true from h)) (by rw [h1]; exact h2.1) h2.2
    rw [g.K] at this
    exact this
theorem wipe_set {σ : L2.St} {i : Nat} {v : Option V} : ∀ {own : List Nat}, i ∈ own → wipe (σ.set i v) own = wipe σ own
  | [], h => by cases h
  | j :: own, h => by
    show (wipe (σ.set i v) own).set j none = (wipe σ own).set j none
    by_cases hj : i ∈ own
    · rw [wipe_set hj]
    · have e : i = j := by
        rcases List.mem_cons.mp h with e | h
        · exact e
        · exact absurd h hj
      subst e
      apply List.ext_getElem?
      intro k
      by_cases hk : i = k
      · subst hk
        by_cases hl : i < σ.length
        · rw [List.getElem?_set_self (by rw [wipe_length]; simpa using hl), List.getElem?_set_self (by rw [wipe_length]; exact hl)]
        · rw [List.getElem?_eq_none (by simp [wipe_length]; omega), List.getElem?_eq_none (by simp [wipe_length]; omega)]
      · rw [List.getElem?_set_ne hk, List.getElem?_set_ne hk]
        clear h hj
        induction own with
        | nil => exact List.getElem?_set_ne hk
        | cons j own ih =>
          show ((wipe (σ.set i v) own).set j none)[k]? = ((wipe σ own).set j none)[k]?
          by_cases hjk : j = k
          · subst hjk
            by_cases hl : j < σ.length
            · rw [List.getElem?_set_self (by rw [wipe_length]; simpa using hl), List.getElem?_set_self (by rw [wipe_length]; exact hl)]
            · rw [List.getElem?_eq_none (by simp [wipe_length]; omega), List.getElem?_eq_none (by simp [wipe_length]; omega)]
          · rw [List.getElem?_set_ne hjk, List.getElem?_set_ne hjk]
            exact ih
theorem setAll_ok {H : Hp} {α : List Addr} : ∀ {is : List Nat} {ds : List D} {vs : List V} {ρ ρ' : NT.Env} {σ : L2.St}, setAll is ds ρ = some ρ' → RepL T H α ds vs → RepE T H α ρ σ →
    ds.length = is.length ∧ ∃ σ', RepE T H α ρ' σ' ∧ (∀ Q : L2.St → Hp → Prop, Q σ' H → gNames is vs σ H Q) ∧ ∀ own : List Nat, (∀ i ∈ is, i ∈ own) → wipe σ' own = wipe σ own
  | [], [], _, ρ, ρ', σ, e, rl, re => by
    cases e; cases rl
    exact ⟨rfl, σ, re, fun Q q => ⟨rfl, q⟩, fun _ _ => rfl⟩
  | i :: is, d :: ds, _, ρ, ρ', σ, e, rl, re => by
    obtain ⟨v, vs, rfl, h1, h2⟩ := rl
    obtain ⟨hl, σ', h3, h4, h5⟩ := setAll_ok (is := is) e h2 (re.set i h1)
    refine ⟨by simp [hl], σ', h3, fun Q q => ⟨v, vs, rfl, h4 Q q⟩, fun own ho => ?_⟩
    rw [h5 own fun j hj => ho j (List.mem_cons_of_mem _ hj), wipe_set (ho i List.mem_cons_self)]
  | [], _ :: _, _, _, _, _, e, _, _ => by cases e
  | _ :: _, [], _, _, _, _, e, _, _ => by cases e
theorem set2_ok {H : Hp} {α : List Addr} : ∀ {ps : List (Nat ⊕ List Nat)} {ds : List D} {vs : List V} {ρ ρ' : NT.Env} {σ : L2.St}, set2 ps ds ρ = some ρ' → RepL T H α ds vs → RepE T H α ρ σ →
    ds.length = ps.length ∧ ∃ σ', RepE T H α ρ' σ' ∧ (∀ Q : L2.St → Hp → Prop, Q σ' H → gNames2 T.K ps vs σ H Q) ∧ ∀ own : List Nat, (∀ p ∈ ps, match p with | .inl i => i ∈ own | .inr is => ∀ i ∈ is, i ∈ own) → wipe σ' own = wipe σ own
  | [], [], _, ρ, ρ', σ, e, rl, re => by
    cases e; cases rl
    exact ⟨rfl, σ, re, fun Q q => ⟨rfl, q⟩, fun _ _ => rfl⟩
  | .inl i :: ps, d :: ds, _, ρ, ρ', σ, e, rl, re => by
    obtain ⟨v, vs, rfl, h1, h2⟩ := rl
    obtain ⟨hl, σ', h3, h4, h5⟩ := set2_ok (ps := ps) (show set2 ps ds (ρ.set i (some d)) = some ρ' from e) h2 (re.set i h1)
    refine ⟨by simp [hl], σ', h3, fun Q q => ⟨v, vs, rfl, h4 Q q⟩, fun own ho => ?_⟩
    rw [h5 own fun j hj => ho j (List.mem_cons_of_mem _ hj), wipe_set (ho (.inl i) List.mem_cons_self)]
  | .inr is :: ps, d :: ds, _, ρ, ρ', σ, e, rl, re => by
    obtain ⟨v, vs, rfl, h1, h2⟩ := rl
    have go : ∀ {es : List D}, (∃ a us, v = .ref a ∧ SqT T.K H a us ∧ RepL T H α es us) → (setAll is es ρ).bind (set2 ps ds) = some ρ' → (d :: ds).length = (Sum.inr is :: ps).length ∧ ∃ σ', RepE T H α ρ' σ' ∧ (∀ Q : L2.St → Hp → Prop, Q σ' H → gNames2 T.K (.inr is :: ps) (v :: vs) σ H Q) ∧ ∀ own : List Nat, (∀ p ∈ (Sum.inr is :: ps : List (Nat ⊕ List Nat)), match p with | .inl i => i ∈ own | .inr is => ∀ i ∈ is, i ∈ own) → wipe σ' own = wipe σ own := by
      rintro es ⟨a, us, rfl, sq, ru⟩ e
      obtain ⟨ρ1, e1, e2⟩ := Option.bind_eq_some_iff.mp e
      obtain ⟨hl1, σ1, g3, g4, g5⟩ := setAll_ok e1 ru re
      obtain ⟨hl, σ', h3, h4, h5⟩ := set2_ok e2 h2 g3
      refine ⟨by simp [hl], σ', h3, fun Q q => ⟨.ref a, vs, rfl, a, us, rfl, sq, by rw [← ru.length]; exact hl1, g4 _ (h4 Q q)⟩, fun own ho => ?_⟩
      rw [h5 own fun j hj => ho j (List.mem_cons_of_mem _ hj), g5 own (ho (.inr is) List.mem_cons_self)]
    cases d with
    | tup es =>
      obtain ⟨a, us, rfl, l, ru⟩ := h1
      exact go ⟨a, us, rfl, l.sq, ru⟩ e
    | wt es =>
      obtain ⟨a, us, rfl, l, ru⟩ := h1
      exact go ⟨a, us, rfl, l.sq, ru⟩ e
    | _ => cases e
  | [], _ :: _, _, _, _, _, e, _, _ => by cases e
  | p :: _, [], _, _, _, _, e, _, _ => by cases p <;> cases e
def Pat.ins : Pat → List Nat → Bool
  | .nm i, own => decide (i ∈ own)
  | .tp is, own => is.all fun i => decide (i ∈ own)
  | .tl is, own => is.all fun i => decide (i ∈ own)
  | .tn ps, own => ps.all fun p => match p with | .inl i => decide (i ∈ own) | .inr is => is.all fun i => decide (i ∈ own)
theorem bnd_ok {H : Hp} {α : List Addr} {p : Pat} {d : D} {v : V} {ρ ρ' : NT.Env} {σ : L2.St} (e : p.bnd d ρ = some ρ') (r : Rep T H α d v) (re : RepE T H α ρ σ) :
    ∃ σ', RepE T H α ρ' σ' ∧ (∀ Q : L2.St → Hp → Prop, Q σ' H → gPat T.K p v σ H Q) ∧ ∀ own : List Nat, p.ins own = true → wipe σ' own = wipe σ own := by
  cases p with
  | nm i =>
    cases e
    exact ⟨_, re.set i r, fun Q q => q, fun own ho => wipe_set (by simpa [Pat.ins] using ho)⟩
  | tp is =>
    have go : ∀ {ds : List D}, (∃ a vs, v = .ref a ∧ SqT T.K H a vs ∧ RepL T H α ds vs) → setAll is ds ρ = some ρ' → ∃ σ', RepE T H α ρ' σ' ∧ (∀ Q : L2.St → Hp → Prop, Q σ' H → gPat T.K (.tp is) v σ H Q) ∧ ∀ own : List Nat, (Pat.tp is).ins own = true → wipe σ' own = wipe σ own := by
      rintro ds ⟨a, vs, rfl, sq, rl⟩ e
      obtain ⟨hl, σ', h3, h4, h5⟩ := setAll_ok e rl re
      refine ⟨σ', h3, fun Q q => ⟨a, vs, rfl, sq, by rw [← rl.length]; exact hl, h4 Q q⟩, fun own ho => h5 own ?_⟩
      simpa [Pat.ins] using ho
    simp only [Pat.bnd] at e
    split at e
    · obtain ⟨a, vs, rfl, l, rl⟩ := r
      exact go ⟨a, vs, rfl, l.sq, rl⟩ e
    · obtain ⟨a, vs, rfl, l, rl⟩ := r
      exact go ⟨a, vs, rfl, l.sq, rl⟩ e
    · cases e
  | tl is =>
    have go : ∀ {ds : List D}, (∃ a vs, v = .ref a ∧ SqL T.K H a vs ∧ RepL T H α ds vs) → setAll is ds ρ = some ρ' → ∃ σ', RepE T H α ρ' σ' ∧ (∀ Q : L2.St → Hp → Prop, Q σ' H → gPat T.K (.tl is) v σ H Q) ∧ ∀ own : List Nat, (Pat.tl is).ins own = true → wipe σ' own = wipe σ own := by
      rintro ds ⟨a, vs, rfl, sq, rl⟩ e
      obtain ⟨hl, σ', h3, h4, h5⟩ := setAll_ok e rl re
      refine ⟨σ', h3, fun Q q => ⟨a, vs, rfl, sq, by rw [← rl.length]; exact hl, h4 Q q⟩, fun own ho => h5 own ?_⟩
      simpa [Pat.ins] using ho
    simp only [Pat.bnd] at e
    split at e
    · obtain ⟨a, vs, rfl, l, rl⟩ := r
      exact go ⟨a, vs, rfl, l.sq, rl⟩ e
    · obtain ⟨a, vs, rfl, l, rl⟩ := r
      exact go ⟨a, vs, rfl, l.sq, rl⟩ e
    · cases e
  | tn ps =>
    have go : ∀ {ds : List D}, (∃ a vs, v = .ref a ∧ SqT T.K H a vs ∧ RepL T H α ds vs) → set2 ps ds ρ = some ρ' → ∃ σ', RepE T H α ρ' σ' ∧ (∀ Q : L2.St → Hp → Prop, Q σ' H → gPat T.K (.tn ps) v σ H Q) ∧ ∀ own : List Nat, (Pat.tn ps).ins own = true → wipe σ' own = wipe σ own := by
      rintro ds ⟨a, vs, rfl, sq, rl⟩ e
      obtain ⟨hl, σ', h3, h4, h5⟩ := set2_ok e rl re
      refine ⟨σ', h3, fun Q q => ⟨a, vs, rfl, sq, by rw [← rl.length]; exact hl, h4 Q q⟩, fun own ho => h5 own fun p hp => ?_⟩
      have := (List.all_eq_true.mp ho) p hp
      cases p with
      | inl i => simpa using this
      | inr is => simpa using this
    simp only [Pat.bnd] at e
    split at e
    · obtain ⟨a, vs, rfl, l, rl⟩ := r
      exact go ⟨a, vs, rfl, l.sq, rl⟩ e
    · obtain ⟨a, vs, rfl, l, rl⟩ := r
      exact go ⟨a, vs, rfl, l.sq, rl⟩ e
    · cases e
theorem RepE.unset {H : Hp} {α : List Addr} {ρ : NT.Env} {σ : L2.St} (re : RepE T H α ρ σ) (i : Nat) : RepE T H α (ρ.set i none) (σ.set i none) := by
  refine ⟨by simp [re.1], fun j d e => ?_⟩
  by_cases hj : i = j
  · subst hj
    by_cases hl : i < ρ.length
    · rw [List.getElem?_set_self hl] at e; cases e
    · rw [List.getElem?_eq_none (by simpa using hl)] at e; cases e
  · rw [List.getElem?_set_ne hj] at e
    obtain ⟨v, e1, e2⟩ := re.2 j d e
    exact ⟨v, by rw [List.getElem?_set_ne hj]; exact e1, e2⟩
theorem RepE.wipe {H : Hp} {α : List Addr} {ρ : NT.Env} {σ : L2.St} (re : RepE T H α ρ σ) : ∀ own : List Nat, RepE T H α (wipeD ρ own) (L2.wipe σ own)
  | [] => re
  | j :: own => (RepE.wipe re own).unset j
end
end NT
/-! what stands for a value, carried to another heap; comprehensions -/
namespace NT
open PySem L2
section
variable {T T' : TW} {H H' : Hp} {α α' : List Addr}
structure Tr (T T' : TW) (H H' : Hp) (α α' : List Addr) : Prop where
  K : T'.K = T.K
  fa : T'.fa = T.fa
  ca : T'.ca = T.ca
  priv : ∀ a ∈ T.pz, ∃ xs, H a = some (.lst xs)
  keep : ∀ a o, H a = some o → a ∉ α → a ∉ T.pz → H' a = some o ∧ a ∉ α' ∧ a ∉ T'.pz
  ix : ∀ (i : Nat) a, α[i]? = some a → α'[i]? = some a
theorem Tr.notZ (t : Tr T T' H H' α α') {a : Addr} {o : HO} (h : H a = some o) (n : ∀ xs, o ≠ .lst xs) : a ∉ T.pz := fun z => by
  obtain ⟨xs, e⟩ := t.priv a z
  rw [h] at e
  exact n xs (Option.some.inj e)
mutual
theorem Rep.tr (t : Tr T T' H H' α α') : ∀ {d : D} {v : V}, Rep T H α d v → Rep T' H' α' d v
  | .non, _, h => h
  | .bl _, _, h => h
  | .int _, _, h => h
  | .str _, _, h => h
  | .tup ds, _, h => by
    obtain ⟨a, vs, e1, h1, h2⟩ := h
    obtain ⟨k1, k2, k3⟩ := t.keep a _ h1.1 h1.2 (t.notZ h1.1 fun _ z => nomatch z)
    exact ⟨a, vs, e1, ⟨k1, k2⟩, RepL.tr t h2⟩
  | .lst ds, _, h => by
    obtain ⟨a, vs, e1, h1, h2⟩ := h
    obtain ⟨k1, k2, k3⟩ := t.keep a _ h1.1 h1.2.1 h1.2.2
    exact ⟨a, vs, e1, ⟨k1, k2, k3⟩, RepL.tr t h2⟩
  | .wt ds, _, h => by
    obtain ⟨a, vs, e1, h1, h2⟩ := h
    refine ⟨a, vs, e1, ?_, RepL.tr t h2⟩
    rcases h1 with ⟨h1 | ⟨o, h1⟩, n⟩ | h1
    · obtain ⟨k1, k2, k3⟩ := t.keep a _ h1 n (t.notZ h1 fun _ z => nomatch z)
      exact .inl ⟨.inl k1, k2⟩
    · obtain ⟨k1, k2, k3⟩ := t.keep a _ h1 n (t.notZ h1 fun _ z => nomatch z)
      exact .inl ⟨.inr ⟨o, k1⟩, k2⟩
    · rw [← t.K] at h1
      exact .inr h1
  | .wl ds, _, h => by
    obtain ⟨a, vs, e1, h1, h2⟩ := h
    refine ⟨a, vs, e1, ?_, RepL.tr t h2⟩
    rcases h1 with ⟨h1 | ⟨o, h1⟩, n, nz⟩ | h1
    · obtain ⟨k1, k2, k3⟩ := t.keep a _ h1 n nz
      exact .inl ⟨.inl k1, k2, k3⟩
    · obtain ⟨k1, k2, k3⟩ := t.keep a _ h1 n nz
      exact .inl ⟨.inr ⟨o, k1⟩, k2, k3⟩
    · rw [← t.K] at h1
      exact .inr h1
  | .ref i, _, h => by
    obtain ⟨a, e1, h1⟩ := h
    exact ⟨a, e1, t.ix _ _ h1⟩
  | .fn i, v, h => by
    show v = V.ref (T'.fa i)
    rw [t.fa]
    exact h
  | .ty _, _, h => h
theorem RepL.tr (t : Tr T T' H H' α α') : ∀ {ds : List D} {vs : List V}, RepL T H α ds vs → RepL T' H' α' ds vs
  | [], _, h => h
  | d :: ds, _, h => by
    obtain ⟨v, r, e1, h1, h2⟩ := h
    exact ⟨v, r, e1, Rep.tr t h1, RepL.tr t h2⟩
end
theorem RepKV.tr {κ : Type} (t : Tr T T' H H' α α') : ∀ {ks : List (κ × D)} {ws : List (κ × V)}, RepKV T H α ks ws → RepKV T' H' α' ks ws
  | [], _, h => h
  | _ :: _, _, h => by
    obtain ⟨v, r, rfl, h1, h2⟩ := h
    exact ⟨v, r, rfl, h1.tr t, RepKV.tr t h2⟩
theorem CRep.tr (t : Tr T T' H H' α α') : ∀ {c : Cell} {u : HO}, CRep T H α c u → CRep T' H' α' c u
  | .lst _, _, ⟨vs, h1, h2⟩ => ⟨vs, h1, h2.tr t⟩
  | .dK _, _, ⟨vs, h1, h2⟩ => ⟨vs, h1, h2.tr t⟩
  | .dT _, _, ⟨vs, h1, h2⟩ => ⟨vs, h1, h2.tr t⟩
  | .ins _ _, _, ⟨dx, vs, h1, h2⟩ => ⟨dx, vs, by rw [t.ca]; exact h1, h2.tr t⟩
theorem RepE.tr (t : Tr T T' H H' α α') {ρ : NT.Env} {σ : L2.St} (h : RepE T H α ρ σ) : RepE T' H' α' ρ σ :=
  ⟨h.1, fun i d q => by
    obtain ⟨v, e1, e2⟩ := h.2 i d q
    exact ⟨v, e1, e2.tr t⟩⟩
theorem HR.tr {S : Sto} (t : Tr T T' H H' α α) (h : HR T H α S) (k : ∀ a ∈ α, H' a = H a) (p : ∀ a ∈ T'.pz, a ∉ α ∧ ∃ xs, H' a = some (.lst xs)) : HR T' H' α S :=
  ⟨h.len, h.nd, fun i c q => by
    obtain ⟨a, u, e1, e2, e3⟩ := h.cell i c q
    exact ⟨a, u, e1, by rw [k a (List.mem_of_getElem? e1)]; exact e2, e3.tr t⟩, p⟩
/-- a list is begun -/
theorem Tr.begin {Z : List Addr} {S : Sto} (h : HR (T.wp Z) H α S) {p : Addr} (hp : H p = none) (xs : List V) : Tr (T.wp Z) (T.wp (p :: Z)) H (upd H p (.lst xs)) α α :=
  ⟨rfl, rfl, rfl, fun a ha => (h.priv a ha).2, fun a o e n nz => by
    have ne : a ≠ p := ne_of_none e hp
    refine ⟨by rw [upd_ne ne]; exact e, n, ?_⟩
    intro z
    rcases List.mem_cons.mp z with z | z
    · exact ne z
    · exact nz z, fun _ _ e => e⟩
theorem HR.begin {Z : List Addr} {S : Sto} (h : HR (T.wp Z) H α S) {p : Addr} (hp : H p = none) (xs : List V) : HR (T.wp (p :: Z)) (upd H p (.lst xs)) α S :=
  h.tr (Tr.begin h hp xs) (fun a ha => upd_ne (by rintro rfl; exact h.fresh hp ha)) fun a ha => by
    rcases List.mem_cons.mp (show a ∈ p :: Z from ha) with rfl | ha
    · exact ⟨h.fresh hp, xs, upd_same⟩
    · obtain ⟨n, ys, e⟩ := h.priv a ha
      exact ⟨n, ys, by rw [upd_ne (ne_of_none e hp)]; exact e⟩
/-- .. goes on -/
theorem Tr.touch {Z : List Addr} {S : Sto} (h : HR (T.wp Z) H α S) {p : Addr} (hp : p ∈ Z) (xs : List V) : Tr (T.wp Z) (T.wp Z) H (upd H p (.lst xs)) α α :=
  ⟨rfl, rfl, rfl, fun a ha => (h.priv a ha).2, fun a o e n nz => ⟨by rw [upd_ne (by rintro rfl; exact nz hp)]; exact e, n, nz⟩, fun _ _ e => e⟩
theorem HR.touch {Z : List Addr} {S : Sto} (h : HR (T.wp Z) H α S) {p : Addr} (hp : p ∈ Z) (xs : List V) : HR (T.wp Z) (upd H p (.lst xs)) α S :=
  h.tr (Tr.touch h hp xs) (fun a ha => upd_ne (by rintro rfl; exact (h.priv a hp).1 ha)) fun a ha => by
    obtain ⟨n, ys, e⟩ := h.priv a ha
    by_cases ne : a = p
    · subst ne
      exact ⟨n, xs, upd_same⟩
    · exact ⟨n, ys, by rw [upd_ne ne]; exact e⟩
/-- .. ends -/
theorem Tr.end_ {Z : List Addr} {S : Sto} {p : Addr} (h : HR (T.wp (p :: Z)) H α S) : Tr (T.wp (p :: Z)) (T.wp Z) H H α α :=
  ⟨rfl, rfl, rfl, fun a ha => (h.priv a ha).2, fun a o e n nz => ⟨e, n, fun z => nz (List.mem_cons_of_mem _ z)⟩, fun _ _ e => e⟩
theorem HR.end_ {Z : List Addr} {S : Sto} {p : Addr} (h : HR (T.wp (p :: Z)) H α S) : HR (T.wp Z) H α S :=
  h.tr (Tr.end_ h) (fun _ _ => rfl) fun a ha => h.priv a (List.mem_cons_of_mem _ ha)
theorem Tr.ext {Z : List Addr} {S : Sto} (h : HR (T.wp Z) H α S) (e : Ext H α H' α') : Tr (T.wp Z) (T.wp Z) H H' α α' :=
  ⟨rfl, rfl, rfl, fun a ha => (h.priv a ha).2, fun a o q n nz => ⟨e.keep a o q n, (fun z => by
    have q2 := e.new a z n
    rw [q] at q2; cases q2), nz⟩, fun _ _ q => e.get q⟩
end

section
variable {T : TW} {cf : Nat → List D → Sto → R D} {c : Ctx} {X : Cx} {W : WX}
abbrev W0 : WX := fun _ _ _ _ => False
noncomputable def evC (cf : Nat → List D → Sto → R D) (t : E) : NT.Env → Sto → R Bool := fun ρ S => if t.isNo = true then .ok true S else (ev2 cf t).2 ρ S
theorem wipe_twice (σ : L2.St) : ∀ own : List Nat, wipe (wipe σ own) own = wipe σ own
  | own => by
    apply List.ext_getElem?
    intro k
    by_cases hk : k ∈ own
    · have h : ∀ (τ : L2.St) (own : List Nat), k ∈ own → (wipe τ own)[k]? = if k < τ.length then some none else none := by
        intro τ own
        induction own with
        | nil => intro h; cases h
        | cons j own ih =>
          intro h
          show ((wipe τ own).set j none)[k]? = _
          by_cases hj : j = k
          · subst hj
            by_cases hl : j < τ.length
            · rw [List.getElem?_set_self (by rw [wipe_length]; exact hl), if_pos hl]
            · rw [List.getElem?_eq_none (by simp [wipe_length]; omega), if_neg hl]
          · rw [List.getElem?_set_ne hj]
            exact ih (by rcases List.mem_cons.mp h with e | h; exact absurd e.symm hj; exact h)
      rw [h _ own hk, h _ own hk, wipe_length]
    · have h : ∀ (τ : L2.St) (own : List Nat), k ∉ own → (wipe τ own)[k]? = τ[k]? := by
        intro τ own
        induction own with
        | nil => intro _; rfl
        | cons j own ih =>
          intro h
          show ((wipe τ own).set j none)[k]? = _
          rw [List.getElem?_set_ne (fun e => h (by rw [e]; exact List.mem_cons_self))]
          exact ih fun z => h (List.mem_cons_of_mem _ z)
      rw [h _ own hk]
theorem lcD_nil {gs : Gs} {turn : D → Sto → R (Option D)} {acc : List D} {S : Sto} : lcD gs turn [] acc S = (open Classical in if gok gs S then .ok acc S else .stuck) := rfl
theorem lcD_cons {gs : Gs} {turn : D → Sto → R (Option D)} {acc ds : List D} {d : D} {S : Sto} : lcD gs turn (d :: ds) acc S = (open Classical in if gok gs S then (match turn d S with
    | .ok o S' => lcD gs turn ds (match o with | some y => acc ++ [y] | none => acc) S'
    | _ => .stuck) else .stuck) := rfl
theorem comp_conv {p : Pat} {it : NT.It} {t elt : E} {own : List Nat} (hpo : p.ins own = true) {σ : L2.St} {H : Hp} {Q : VK} (h : tE T W (ev2 cf (.comp p it t elt own)).1 σ H Q) :
    tLc (tI T W (evIt cf it)) (gPat T.K p) (tT T W0 (evC cf t)) (tE T W0 (ev2 cf elt).1) own σ H Q := by
  obtain ⟨Z, α, ρ, S, hr, re, q⟩ := h
  refine ⟨Z, α, ρ, S, hr, re, (postG.bind q).mono fun ig H1 α1 S1 e1 h1 q1 J wk => fun Dd hD => ?_⟩
  obtain ⟨items, gs⟩ := ig
  dsimp only at wk q1
  by_cases hlen : items.length ≤ sizeLine
  case neg =>
    rw [if_neg hlen] at q1
    exact q1.elim
  rw [if_pos hlen] at q1
  generalize hturn : (fun d S2 => match p.bnd d (wipeD ρ own) with
        | none => R.stuck
        | some ρ' => (if t.isNo = true then R.ok true S2 else (ev2 cf t).2 ρ' S2 : R Bool).bind fun t S3 => if t = true then ((ev2 cf elt).1 ρ' S3).bind fun y S4 => .ok (some y) S4 else .ok none S3) = turn at q1
  have hZ : Dd ∉ Z := h1.freshZ hD
  refine ⟨fun i m Hx => m = items.length - i ∧ i ≤ items.length ∧ ∃ αx Sx acc vacc, Ext H1 α1 Hx αx ∧ HR (T.wp (Dd :: Z)) Hx αx Sx ∧ Hx Dd = some (.lst vacc) ∧ RepL (T.wp (Dd :: Z)) Hx αx acc vacc ∧ acc.length ≤ i ∧
    (∀ d v, Rep (T.wp Z) H1 α1 d v → Rep (T.wp (Dd :: Z)) Hx αx d v) ∧ postG (T.wp Z) W σ H1 α1 ((lcD gs turn (items.drop i) acc Sx).bind fun ds S2 => R.ok (D.lst ds) S2) fun d H' α' _ => ∀ v, Rep (T.wp Z) H' α' d v → Q v H',
    ⟨items.length, by simp, Nat.zero_le _, α1, S1, [], [], Ext.laid h1 hD _, h1.begin hD _, upd_same, rfl, Nat.le_refl _, fun d v r => r.tr (Tr.begin h1 hD _), q1⟩, ?_⟩
  rintro i m Hx ⟨rfl, hi, αx, Sx, acc, vacc, ex, hx, hDx, ra, hacc, conv, px⟩
  have hgok : gok gs Sx := by
    by_cases hg : gok gs Sx
    · exact hg
    · exfalso
      cases hdr : items.drop i with
      | nil => rw [hdr, lcD_nil, if_neg hg] at px; exact px.elim
      | cons d ds => rw [hdr, lcD_cons, if_neg hg] at px; exact px.elim
  have wki := wk (Dd :: Z) i Hx αx Sx hi (fun a ha => List.mem_cons_of_mem _ ha) ex hx conv hgok
  by_cases hlt : i < items.length
  · refine .inr ⟨(wki.1 hlt).1, fun H' => ∃ αx Sx acc vacc, Ext H1 α1 H' αx ∧ HR (T.wp (Dd :: Z)) H' αx Sx ∧ H' Dd = some (.lst vacc) ∧ RepL (T.wp (Dd :: Z)) H' αx acc vacc ∧ acc.length ≤ i + 1 ∧
      (∀ d v, Rep (T.wp Z) H1 α1 d v → Rep (T.wp (Dd :: Z)) H' αx d v) ∧ postG (T.wp Z) W σ H1 α1 ((lcD gs turn (items.drop (i + 1)) acc Sx).bind fun ds S2 => R.ok (D.lst ds) S2) fun d H' α' _ => ∀ v, Rep (T.wp Z) H' α' d v → Q v H',
      fun H' hh => ⟨items.length - (i + 1), by omega, rfl, hlt, hh⟩, fun xv H' hy => ?_⟩
    obtain ⟨d, hd, ey, hy2, ry⟩ := (wki.1 hlt).2 xv H' hy
    have hdrop : items.drop i = d :: items.drop (i + 1) := by
      rw [List.drop_eq_getElem_cons hlt]
      obtain ⟨_, e⟩ := List.getElem?_eq_some_iff.mp hd
      rw [e]
    rw [hdrop, lcD_cons, if_pos hgok] at px
    have ra1 := ra.ext ey
    have rw0 : RepE (T.wp (Dd :: Z)) H' αx ρ σ := ⟨re.1, fun j dd e => by
      obtain ⟨v, e2, r2⟩ := re.2 j dd e
      exact ⟨v, e2, (conv dd v (r2.ext e1)).ext ey⟩⟩
    have rw1 := rw0.wipe own
    cases hb : p.bnd d (wipeD ρ own) with
    | none =>
      rw [← hturn] at px
      simp only [hb] at px
      exact px.elim
    | some ρ' =>
      obtain ⟨σ', re', gp, wp⟩ := bnd_ok hb ry rw1
      refine gp _ ⟨by rw [wp own hpo]; exact wipe_twice σ own, Dd :: Z, αx, ρ', Sx, hy2, re', ?_⟩
      have hDy : H' Dd = some (.lst vacc) := ey.keep _ _ hDx (hx.priv Dd List.mem_cons_self).1
      have et : turn d Sx = (evC cf t ρ' Sx).bind fun t S3 => if t = true then ((ev2 cf elt).1 ρ' S3).bind fun y S4 => .ok (some y) S4 else .ok none S3 := by
        rw [← hturn]
        simp only [hb]
        rfl
      rw [et] at px
      cases hc : evC cf t ρ' Sx with
      | stuck => rw [hc] at px; exact px.elim
      | exc k S2 => rw [hc] at px; exact px.elim
      | ok b S3 =>
        rw [hc] at px
        intro H3 α3 e3 h3
        have hD3 : H3 Dd = some (.lst vacc) := e3.keep _ _ hDy (hy2.priv Dd List.mem_cons_self).1
        cases b with
        | false =>
          refine iteF ?_
          have px' : postG (T.wp Z) W σ H1 α1 ((lcD gs turn (items.drop (i + 1)) acc S3).bind fun ds S2 => R.ok (D.lst ds) S2) fun d H' α' _ => ∀ v, Rep (T.wp Z) H' α' d v → Q v H' := px
          exact ⟨α3, S3, acc, vacc, (ex.trans ey).trans e3, h3, hD3, ra1.ext e3, by omega, fun dd v r => ((conv dd v r).ext ey).ext e3, px'⟩
        | true =>
          refine iteT ?_
          refine ⟨Dd :: Z, α3, ρ', S3, h3, re'.ext e3, ?_⟩
          cases hy : (ev2 cf elt).1 ρ' S3 with
          | stuck => rw [show ((R.ok true S3).bind fun t S3 => if t = true then ((ev2 cf elt).1 ρ' S3).bind fun y S4 => R.ok (some y) S4 else .ok none S3) = ((ev2 cf elt).1 ρ' S3).bind fun y S4 => R.ok (some y) S4 from rfl, hy] at px; exact px.elim
          | exc k S2 => rw [show ((R.ok true S3).bind fun t S3 => if t = true then ((ev2 cf elt).1 ρ' S3).bind fun y S4 => R.ok (some y) S4 else .ok none S3) = ((ev2 cf elt).1 ρ' S3).bind fun y S4 => R.ok (some y) S4 from rfl, hy] at px; exact px.elim
          | ok y S4 =>
            rw [show ((R.ok true S3).bind fun t S3 => if t = true then ((ev2 cf elt).1 ρ' S3).bind fun y S4 => R.ok (some y) S4 else .ok none S3) = ((ev2 cf elt).1 ρ' S3).bind fun y S4 => R.ok (some y) S4 from rfl, hy] at px
            have px' : postG (T.wp Z) W σ H1 α1 ((lcD gs turn (items.drop (i + 1)) (acc ++ [y]) S4).bind fun ds S2 => R.ok (D.lst ds) S2) fun d H' α' _ => ∀ v, Rep (T.wp Z) H' α' d v → Q v H' := px
            intro H4 α4 e4 h4 v rv
            have hD4 : H4 Dd = some (.lst vacc) := e4.keep _ _ hD3 (h3.priv Dd List.mem_cons_self).1
            have ra4 := (ra1.ext e3).ext e4
            have tt := Tr.touch h4 (List.mem_cons_self (a := Dd) (l := Z)) (vacc ++ [v])
            have e14 := ((ex.trans ey).trans e3).trans e4
            refine ⟨vacc, hD4, ?_, α4, S4, acc ++ [y], vacc ++ [v], ?_, h4.touch List.mem_cons_self _, upd_same, (ra4.tr tt).append ⟨v, [], rfl, rv.tr tt, rfl⟩, by simp; omega, fun dd w r => ((((conv dd w r).ext ey).ext e3).ext e4).tr tt, px'⟩
            · rw [← ra4.length]; omega
            · exact ⟨e14.pre, e14.new, fun a o q n => by rw [upd_ne (ne_of_none q hD)]; exact e14.keep a o q n⟩
  · have hi' : i = items.length := by omega
    refine .inl ⟨wki.2 hi', ?_⟩
    subst hi'
    rw [List.drop_length, lcD_nil, if_pos hgok] at px
    exact px Hx αx ex hx.end_ _ ⟨Dd, vacc, rfl, ⟨hDx, (hx.priv Dd List.mem_cons_self).1, hZ⟩, ra.tr (Tr.end_ hx)⟩
theorem comp_ok (hcalm : X.calm = true) (hN : X.N.Nodup) {p : Pat} {it : NT.It} {t elt : E} {own : List Nat} {tg iter x : Expr} {ifs : List Expr} {scope : Scope} {pos : Pos} {ow : List (Str × Nat)}
    (hit : PI X tg iter (tI T W (evIt cf it))) (ok : BlkOk X.N X.env.scope scope ow) (how : ow.map (·.2) = own) (hpo : p.ins own = true)
    (hg : ∀ (s : Shared) (H : Hp) (C : Addr) (cl : List (Str × Addr)) (fp : List Addr), PG (X.blk s H scope (compEnvC scope cl C X.env) fp) tg (gPat T.K p))
    (ht : ∀ (s : Shared) (H : Hp) (C : Addr) (cl : List (Str × Addr)) (fp : List Addr), PTs (X.blk s H scope (compEnvC scope cl C X.env) fp) ifs (tT T W0 (evC cf t)))
    (he : ∀ (s : Shared) (H : Hp) (C : Addr) (cl : List (Str × Addr)) (fp : List Addr), PE (X.blk s H scope (compEnvC scope cl C X.env) fp) x (tE T W0 (ev2 cf elt).1))
    (hs : ∀ v, foldedSetIterable iter X.env v = pure v) :
    PE X (.ListComp x [⟨tg, iter, ifs, 0⟩] scope pos) (tE T W (ev2 cf (.comp p it t elt own)).1) := by
  refine PE.imp (pe_lc hcalm hN hit ok hg ht he hs) fun σ H Q h => ?_
  rw [how]
  exact comp_conv hpo h
end
end NT
/-! the interpreter is right: every expression -/
namespace NT
open PySem L2
section
variable {T : TW} {cf : Nat → List D → Sto → R D}
theorem Good.blk {c : Ctx} {X : Cx} {W : WX} (g : Good T cf c X W) {scope : Scope} (hk : scope.kind = .function) (s : Shared) (H : Hp) (C : Addr) (cl : List (Str × Addr)) (fp : List Addr) : Good T cf (c.inner scope) (X.blk s H scope (compEnvC scope cl C X.env) fp) W0 where
  N := g.N
  nd := g.nd
  sc := by
    show relabel scope X.env = relS scope c.sc
    unfold relabel relS
    rw [← g.sc]
    rfl
  kind := hk
  fnl := rfl
  K := g.K
  calm := g.calm
  room := g.room
  bn := g.bn
  gls := g.gls
  tk := takes0
theorem call_case {c : Ctx} {X : Cx} {W : WX} (g : Good T cf c X W) {f : Nat} {x : Str} {p pos : Pos} {e : Expr} {es : List Expr} {m : NT.Env → Sto → R (List D)} (hx : c.gl x = true) (hf : c.fns[f]? = some x) (ha : PA X (e :: es) (tA T W m)) (hs : ∀ y ∈ e :: es, notStar y = true) :
    PE X (.Call (.Name x p) (e :: es) [] pos) (tE T W fun ρ S => (m ρ S).bind fun ds S1 => cf f ds S1) := by
  obtain ⟨k, hr, hall⟩ := g.room
  obtain ⟨fd, ps, np, h1, h2, F, h3, h4, h5⟩ := hall f x hf
  obtain ⟨gl, n1, n2⟩ := g.gl hx
  refine PE.imp (pe_callS (E := WE W) F hr gl h1 h2 h4 (fun σ => passAt g.tk σ) ha n1 (star_eq (hs e List.mem_cons_self)) (star_any fun y hy => hs y (List.mem_cons_of_mem _ hy))) fun σ H Q h => ?_
  obtain ⟨Z, α, ρ, S, hr, re, q⟩ := h
  refine ⟨Z, α, ρ, S, hr, re, (postG.bind q).mono fun ds H1 α1 S1 e1 h1 q1 vs r1 => ?_⟩
  have hl : ds.length = np := by
    by_cases hl : ds.length = np
    · exact hl
    · rw [h5 ds S1 hl] at q1
      exact q1.elim
  refine ⟨by rw [← r1.length]; exact hl, Z, α1, S1, ds, h1, r1, ?_⟩
  cases hc : cf f ds S1 with
  | stuck => rw [hc] at q1; exact q1
  | ok d S2 => rw [hc] at q1; exact q1
  | exc k S2 => rw [hc] at q1; exact q1
open PySem.Spec PyProof.Rows in
theorem callL_case {c : Ctx} {X : Cx} {W : WX} (g : Good T cf c X W) {i : Nat} {fs : List Nat} {x : Str} {p pos : Pos} {e : Expr} {es : List Expr} {m : NT.Env → Sto → R (List D)} (hfs : ∀ f ∈ fs, (c.fns[f]?).isSome = true) (hx : c.vis i x = true) (ha : PA X (e :: es) (tA T W m)) (hs : ∀ y ∈ e :: es, notStar y = true) :
    PE X (.Call (.Name x p) (e :: es) [] pos) (tE T W fun ρ S => match ρ[i]? with
      | some (some (.fn f)) => if f ∈ fs then (m ρ S).bind fun ds S1 => cf f ds S1 else .stuck
      | _ => .stuck) := by
  refine ⟨fun pins s σ H Q I h => ?_⟩
  obtain ⟨Z, α, ρ, S, hr, re, q⟩ := h
  dsimp only at q
  cases hd : ρ[i]? with
  | none => rw [hd] at q; exact q.elim
  | some o =>
    cases o with
    | none => rw [hd] at q; exact q.elim
    | some d =>
      cases d <;> first | (rw [hd] at q; exact q.elim) | skip
      rename_i f
      rw [hd] at q
      dsimp only at q
      by_cases hin : f ∈ fs
      case neg => rw [if_neg hin] at q; exact q.elim
      rw [if_pos hin] at q
      obtain ⟨v0, e0, r0⟩ := re.2 i _ hd
      have ev : v0 = .ref (T.fa f) := r0
      subst ev
      obtain ⟨k, hroom, hall⟩ := g.room
      cases hf : c.fns[f]? with
      | none =>
        have := hfs f hin
        rw [hf] at this
        cases this
      | some fx =>
        obtain ⟨fd, ps, np, h1, h2, F, h3, h4, h5⟩ := hall f fx hf
        refine wpAny_Call_Name_kw (thn ((g.var (pos := p) hx).run pins s σ H (fun v H1 => v = .ref (T.fa f) ∧ H1 = H) I ⟨.ref (T.fa f), e0, rfl, rfl⟩) fun u s1 ⟨v, H1, I1, r1, q1⟩ => ?_)
        obtain ⟨rfl, rfl⟩ := q1
        cases r1
        have hA : tA T W m σ H1 fun vs H2 => spI T np (cf f) vs H2 Q (WE W σ) := by
          refine ⟨Z, α, ρ, S, hr, re, (postG.bind q).mono fun ds H2 α2 S2 e2 h2' q2 vs rs => ?_⟩
          have hl : ds.length = np := by
            by_cases hl : ds.length = np
            · exact hl
            · rw [h5 ds S2 hl] at q2
              exact q2.elim
          refine ⟨by rw [← rs.length]; exact hl, Z, α2, S2, ds, h2', rs, ?_⟩
          cases hc : cf f ds S2 with
          | stuck => rw [hc] at q2; exact q2
          | ok d S3 => rw [hc] at q2; exact q2
          | exc k' S3 => rw [hc] at q2; exact q2
        refine PySem.W.callWith_K (h₀ := X.base) I.ok.mod.kin h2 (thn (ha.run pos pins s1 σ _ _ I1 hA) fun us s2 ⟨vs, H2, I2, r, q⟩ => ⟨I2.kIn, ?_⟩) (star_eq (hs e List.mem_cons_self)) (star_any fun y hy => hs y (List.mem_cons_of_mem _ hy))
        exact run_fnS F hroom h4 (passAt g.tk σ) I2 r q
theorem mth_rule {c : Ctx} {X : Cx} {W : WX} (g : Good T cf c X W) : ∀ m : Mth, ∃ Ty id, PlainAttrs Ty ∧ Slot Ty m.nm id ∧ typeOf (.builtin id) = pure (.type "method_descriptor") ∧ (∀ T' : TW, T'.K = T.K → MtR X id (rM T' m.f)) ∧
    ∀ (T' : TW) H α S d v, T'.K = X.K → HR T' H α S → Rep T' H α d v → m.ok S d = true → tyV X.K Ty v H := by
  have hu := g.units
  have lst : ∀ (T' : TW) H α S d v, T'.K = X.K → HR T' H α S → Rep T' H α d v → (match d with | .ref i => (cellL S i).isSome | _ => false) = true → tyV X.K "list" v H := by
    intro T' H α S d v hK hr r ho
    split at ho
    · cases e : cellL S _ with
      | none => rw [e] at ho; cases ho
      | some ds =>
        obtain ⟨a, vs, rfl, _, h, _⟩ := cellL_ok hr r e
        exact .inl ⟨rfl, vs, SqL.of h⟩
    · cases ho
  have dct : ∀ (T' : TW) H α S d v, T'.K = X.K → HR T' H α S → Rep T' H α d v → (match d with | .ref i => (match S[i]? with | some (.dK _) => true | some (.dT _) => true | _ => false) | _ => false) = true → tyV X.K "dict" v H := by
    intro T' H α S d v hK hr r ho
    split at ho
    · obtain ⟨a, rfl, ha⟩ := r
      split at ho
      · rename_i kvs e
        obtain ⟨a', u, e1, e2, ws, rfl, _⟩ := hr.cell _ _ e
        rw [ha] at e1; cases e1
        exact .inr (.inr (.inl ⟨rfl, .inl ⟨ws, e2⟩⟩))
      · rename_i kvs e
        obtain ⟨a', u, e1, e2, ws, rfl, _⟩ := hr.cell _ _ e
        rw [ha] at e1; cases e1
        exact .inr (.inr (.inl ⟨rfl, .inr ⟨ws, e2⟩⟩))
      · cases ho
    · cases ho
  intro m
  cases m
  · exact ⟨"list", "list.append", PySem.F.plainAttrs_list, PySem.F.slot_list_append, PySem.F.type_list_append, fun _ _ => append_ok, lst⟩
  · exact ⟨"list", "list.extend", PySem.F.plainAttrs_list, PySem.F.slot_list_extend, PySem.F.type_list_extend, fun _ _ => extend_ok, lst⟩
  · exact ⟨"list", "list.pop", PySem.F.plainAttrs_list, PySem.F.slot_list_pop, PySem.F.type_list_pop, fun _ _ => popL_ok, lst⟩
  · exact ⟨"dict", "dict.get", PySem.F.plainAttrs_dict, PySem.F.slot_dict_get, PySem.F.type_dict_get, fun _ _ => dget_ok (by omega), dct⟩
  · exact ⟨"dict", "dict.pop", PySem.F.plainAttrs_dict, PySem.F.slot_dict_pop, PySem.F.type_dict_pop, fun _ _ => dpop_ok, dct⟩
def rXM (T : TW) (f : OpF) : V → List V → Hp → VK → Prop := fun x xs H Q => ∃ Z, rM (T.wp Z) f x xs H Q
def isBO : Expr → Bool
  | .BoolOp .. => true
  | _ => false
def isFree : Expr → Bool
  | .UnaryOp .Not _ _ => false
  | .BoolOp .. => false
  | .IfExp .. => false
  | .Compare .. => false
  | _ => true
theorem free_of {x : Expr} {env : PySem.Env} (h : isFree x = true) : ∀ whole, isTrue x env whole = (do let v ← whole; standAt x.pos; holding [v] (truthy v)) := by
  intro whole
  cases x <;> first | rfl | (exfalso; exact absurd (show false = true from h) Bool.false_ne_true) | skip
  rename_i op e pos
  cases op <;> first | rfl | cases h

theorem pk {X : Cx} {W : WX} {x : Expr} {m : NT.Env → Sto → R D} (hK : X.K = T.K) (hf : isFree x = true) (hb : isBO x = false) (hp : PE X x (tE T W m)) : PE X x (tE T W (plainE m).1) ∧ PT X x (tT T W (plainE m).2) ∧ (isBO x = true → PW X x (tT T W (plainE m).2)) :=
  ⟨hp, plainT hK hp (free_of hf), fun z => by rw [hb] at z; cases z⟩

mutual
theorem sndE : ∀ (e : E) {c : Ctx} {X : Cx} {W : WX} {x : Expr}, chkE c e x = true → Good T cf c X W → PE X x (tE T W (ev2 cf e).1) ∧ PT X x (tT T W (ev2 cf e).2) ∧ (isBO x = true → PW X x (tT T W (ev2 cf e).2))
  | .var i, c, X, W, x, h, g => by
    unfold chkE at h
    split at h
    · rename_i y pos
      refine pk g.K rfl rfl ?_
      exact PE.imp (g.var h) fun σ H Q q => by
        obtain ⟨Z, α, ρ, S, hr, re, q⟩ := q
        cases e : ρ[i]? with
        | none => simp only [e] at q; exact q.elim
        | some o =>
          cases o with
          | none => simp only [e] at q; exact q.elim
          | some d =>
            simp only [e] at q
            obtain ⟨v, e1, r⟩ := re.2 i d e
            exact ⟨v, e1, q H α (Ext.refl _ _) hr v r⟩
    · cases h
  | .lit d, c, X, W, x, h, g => by
    unfold chkE at h
    split at h
    · rename_i k j pos
      have fin : ∀ {v : V}, PE X (.Constant k j pos) (tC v) → (∀ (T' : TW) H α, Rep T' H α d v) → PE X (.Constant k j pos) (tE T W (ev2 cf (.lit d)).1) := fun hp hv => PE.imp hp fun σ H Q q => by
        obtain ⟨Z, α, ρ, S, hr, re, q⟩ := q
        exact q H α (Ext.refl _ _) hr _ (hv _ _ _)
      refine pk g.K rfl rfl ?_
      exact by
        unfold litOk at h
        split at h
        · exact fin pe_non fun _ _ _ => rfl
        · have := eq_of_beq h; subst this; exact fin pe_bl fun _ _ _ => rfl
        · have := eq_of_beq h; subst this; exact fin pe_int fun _ _ _ => rfl
        · have := eq_of_beq h; subst this; exact fin pe_str fun _ _ _ => rfl
        · cases h
    · cases h
  | .ty n, c, X, W, x, h, g => by
    unfold chkE at h
    split at h
    · rename_i y pos
      simp only [Bool.and_eq_true, decide_eq_true_eq] at h
      obtain ⟨⟨h1, h2⟩, h3⟩ := h
      obtain ⟨gl, n1, n2⟩ := g.gl h1
      have hm : X.mg y = none ∧ bootBuiltins y = some (.type n) := by
        subst h2
        have h3' : n ∈ tyNames := by simpa using h3
        simp only [tyNames, List.mem_cons, List.not_mem_nil, or_false] at h3'
        rcases h3' with rfl | rfl | rfl | rfl | rfl
        · exact ⟨g.bn _ (by decide +kernel), by decide +kernel⟩
        · exact ⟨g.bn _ (by decide +kernel), by decide +kernel⟩
        · exact ⟨g.bn _ (by decide +kernel), by decide +kernel⟩
        · exact ⟨g.bn _ (by decide +kernel), by decide +kernel⟩
        · exact ⟨g.bn _ (by decide +kernel), by decide +kernel⟩
      refine pk g.K rfl rfl ?_
      exact PE.imp (pe_bltn (v := .ty n) gl hm.1 hm.2 rfl n2 n1) fun σ H Q q => by
        obtain ⟨Z, α, ρ, S, hr, re, q⟩ := q
        exact q H α (Ext.refl _ _) hr _ rfl
    · cases h
  | .fn i, c, X, W, x, h, g => by
    unfold chkE at h
    split at h
    · rename_i y pos
      simp only [Bool.and_eq_true, decide_eq_true_eq] at h
      obtain ⟨gl, n1, n2⟩ := g.gl h.1
      obtain ⟨k, hr, hall⟩ := g.room
      obtain ⟨fd, ps, np, h1, _⟩ := hall i y h.2
      refine pk g.K rfl rfl ?_
      exact PE.imp (pe_glob (v := .ref (T.fa i)) gl h1 rfl n1) fun σ H Q q => by
        obtain ⟨Z, α, ρ, S, hr, re, q⟩ := q
        exact q H α (Ext.refl _ _) hr _ rfl
    · cases h
  | .bin o a b, c, X, W, x, h, g => by
    unfold chkE at h
    split at h
    · simp only [Bool.and_eq_true] at h
      refine pk g.K rfl rfl ?_
      exact PE.imp (pe_op (bin_rule g h.1.1) (sndE a h.1.2 g).1 (sndE b h.2 g).1) fun σ H Q q => two_op q
    · cases h
  | .neg a, c, X, W, x, h, g => by
    unfold chkE at h
    split at h
    · refine pk g.K rfl rfl ?_
      exact PE.imp (pe_un un_neg (sndE a h g).1) fun σ H Q q => by
        obtain ⟨Z, α, ρ, S, hr, re, q⟩ := q
        refine ⟨Z, α, ρ, S, hr, re, (postG.bind q).mono fun d H1 α1 S1 e1 h1 q1 v r1 => ?_⟩
        cases d with
        | int i => cases r1; exact ⟨i, rfl, q1 H1 α1 (Ext.refl _ _) h1 _ rfl⟩
        | _ => exact q1.elim
    · cases h
  | .cmp o a b, c, X, W, x, h, g => by
    unfold chkE at h
    split at h
    · simp only [Bool.and_eq_true, Bool.not_eq_true'] at h
      obtain ⟨⟨⟨h1, h2⟩, h3⟩, h4⟩ := h
      refine ⟨PE.imp (pe_cmpR (cmp_rule g h1) (sndE a h3 g).1 (sndE b h4 g).1 h2) fun σ H Q q => two_op q, ?_, fun z => nomatch z⟩
      exact boolT (pt_cmpR (cmp_rule g h1) (sndE a h3 g).1 (sndE b h4 g).1 h2) fun σ H Q q => two_op q
    · cases h
  | .cmp2 o p a b d, c, X, W, x, h, g => by
    unfold chkE at h
    split at h
    · simp only [Bool.and_eq_true, Bool.not_eq_true'] at h
      obtain ⟨⟨⟨⟨⟨h1, h2⟩, h3⟩, h4⟩, h5⟩, h6⟩ := h
      have conv : ∀ σ H Q, tE T W (ev2 cf (.cmp2 o p a b d)).1 σ H Q → tChain (rX2 T o.f) (rX2 T p.f) (tE T W (ev2 cf a).1) (tE T W (ev2 cf b).1) (tE T W (ev2 cf d).1) σ H Q := fun σ H Q q => by
        obtain ⟨Z, α, ρ, S, hr, re, q⟩ := q
        refine ⟨Z, α, ρ, S, hr, re, (postG.bind q).mono fun d1 H1 α1 S1 e1 h1 q1 v1 r1 => ?_⟩
        refine ⟨Z, α1, ρ, S1, h1, re.ext e1, (postG.bind q1).mono fun d2 H2 α2 S2 e2 h2 q2 v2 r2 => ?_⟩
        have q2' := postG.bind q2
        refine ⟨Z, ?_⟩
        cases e : o.f S2 [d1, d2] with
        | none => rw [e] at q2'; exact q2'.elim
        | some pr =>
          obtain ⟨z, S3⟩ := pr
          rw [e] at q2'
          refine ⟨α2, S2, [d1, d2], z, S3, h2, ⟨v1, [v2], rfl, r1.ext e2, v2, [], rfl, r2, rfl⟩, e, fun vz H3 α3 e3 h3 r3 => ?_⟩
          have q3 := q2' H3 α3 e3 h3
          cases z with
          | bl bz =>
            cases r3
            cases bz with
            | true =>
              refine ⟨true, rfl, iteT ?_⟩
              refine ⟨Z, α3, ρ, S3, h3, ((re.ext e1).ext e2).ext e3, (postG.bind q3).mono fun d4 H4 α4 S4 e4 h4 q4 v4 r4 => ?_⟩
              exact ⟨Z, postG.op h4 (show RepL (T.wp Z) H4 α4 [d2, d4] [v2, v4] from ⟨v2, [v4], rfl, (r2.ext e3).ext e4, v4, [], rfl, r4, rfl⟩) q4⟩
            | false => exact ⟨false, rfl, iteF (q3 H3 α3 (Ext.refl _ _) h3 _ rfl)⟩
          | _ => exact q3.elim
      exact ⟨PE.imp (pe_chain (cmp_rule g h1) (cmp_rule g h2) (sndE a h4 g).1 (sndE b h5 g).1 (sndE d h6 g).1 h3) conv,
        boolT (pt_chain (cmp_rule g h1) (cmp_rule g h2) (sndE a h4 g).1 (sndE b h5 g).1 (sndE d h6 g).1 h3) conv, fun z => nomatch z⟩
    · cases h
  | .and a b, c, X, W, x, h, g => by
    unfold chkE at h
    split at h
    · simp only [Bool.and_eq_true] at h
      obtain ⟨p1, p2, _⟩ := sndE a h.1 g
      obtain ⟨p3, _, p4⟩ := sndE b h.2 g
      have hw : PW X (.BoolOp .And (_ :: _ :: _) _) (tT T W (ev2 cf (.and a b)).2) := PW.imp (pw_and p2 (p4 rfl)) fun σ H Q q => by
        obtain ⟨Z, α, ρ, S, hr, re, q⟩ := q
        refine ⟨Z, α, ρ, S, hr, re, (postG.bind q).mono fun t H1 α1 S1 e1 h1 q1 => ?_⟩
        cases t with
        | true => exact iteT ⟨Z, α1, ρ, S1, h1, re.ext e1, q1⟩
        | false => exact iteF (q1 H1 α1 (Ext.refl _ _) h1)
      refine ⟨PE.imp (pe_and p1 p3) fun σ H Q q => ?_, hw.pt, fun _ => hw⟩
      obtain ⟨Z, α, ρ, S, hr, re, q⟩ := q
      refine ⟨Z, α, ρ, S, hr, re, (postG.bind q).mono fun t H1 α1 S1 e1 h1 q1 v r => ?_⟩
      cases t with
      | bl t =>
        cases r
        cases t with
        | true => exact ⟨true, rfl, iteT ⟨Z, α1, ρ, S1, h1, re.ext e1, q1⟩⟩
        | false => exact ⟨false, rfl, iteF (q1 H1 α1 (Ext.refl _ _) h1 _ rfl)⟩
      | _ => exact q1.elim
    · cases h
  | .or a b, c, X, W, x, h, g => by
    unfold chkE at h
    split at h
    · simp only [Bool.and_eq_true] at h
      obtain ⟨p1, p2, _⟩ := sndE a h.1 g
      obtain ⟨p3, _, p4⟩ := sndE b h.2 g
      have hw : PW X (.BoolOp .Or (_ :: _ :: _) _) (tT T W (ev2 cf (.or a b)).2) := PW.imp (pw_or p2 (p4 rfl)) fun σ H Q q => by
        obtain ⟨Z, α, ρ, S, hr, re, q⟩ := q
        refine ⟨Z, α, ρ, S, hr, re, (postG.bind q).mono fun t H1 α1 S1 e1 h1 q1 => ?_⟩
        cases t with
        | true => exact iteT (q1 H1 α1 (Ext.refl _ _) h1)
        | false => exact iteF ⟨Z, α1, ρ, S1, h1, re.ext e1, q1⟩
      refine ⟨PE.imp (pe_or p1 p3) fun σ H Q q => ?_, hw.pt, fun _ => hw⟩
      obtain ⟨Z, α, ρ, S, hr, re, q⟩ := q
      refine ⟨Z, α, ρ, S, hr, re, (postG.bind q).mono fun t H1 α1 S1 e1 h1 q1 v r => ?_⟩
      cases t with
      | bl t =>
        cases r
        cases t with
        | true => exact ⟨true, rfl, iteT (q1 H1 α1 (Ext.refl _ _) h1 _ rfl)⟩
        | false => exact ⟨false, rfl, iteF ⟨Z, α1, ρ, S1, h1, re.ext e1, q1⟩⟩
      | _ => exact q1.elim
    · cases h
  | .one a, c, X, W, x, h, g => by
    unfold chkE at h
    split at h
    · rename_i op y pos
      obtain ⟨p1, p2, _⟩ := sndE a h g
      have hw : PW X (.BoolOp op [y] pos) (tT T W (ev2 cf (.one a)).2) := by
        cases op
        · exact pw_and1 p2
        · exact pw_or1 p2
      exact ⟨pe_one p1, hw.pt, fun _ => hw⟩
    · cases h
  | .not a, c, X, W, x, h, g => by
    unfold chkE at h
    split at h
    · obtain ⟨p1, p2, _⟩ := sndE a h g
      refine ⟨PE.imp (pe_not p1) fun σ H Q q => ?_, PT.imp (pt_not p2) fun σ H Q q => ?_, fun z => nomatch z⟩
      · obtain ⟨Z, α, ρ, S, hr, re, q⟩ := q
        refine ⟨Z, α, ρ, S, hr, re, (postG.bind q).mono fun t H1 α1 S1 e1 h1 q1 v r => ?_⟩
        cases t with
        | bl t => cases r; exact ⟨t, rfl, q1 H1 α1 (Ext.refl _ _) h1 _ rfl⟩
        | _ => exact q1.elim
      · obtain ⟨Z, α, ρ, S, hr, re, q⟩ := q
        exact ⟨Z, α, ρ, S, hr, re, (postG.bind q).mono fun t H1 α1 S1 e1 h1 q1 => q1 H1 α1 (Ext.refl _ _) h1⟩
    · cases h
  | .ite t a b, c, X, W, x, h, g => by
    unfold chkE at h
    split at h
    · simp only [Bool.and_eq_true] at h
      refine ⟨PE.imp (pe_ifExp (sndE t h.1.1 g).2.1 (sndE a h.1.2 g).1 (sndE b h.2 g).1) fun σ H Q q => ?_, ⟨fun pins s σ H Q I q => ?_⟩, fun z => nomatch z⟩
      · obtain ⟨Z, α, ρ, S, hr, re, q⟩ := q
        refine ⟨Z, α, ρ, S, hr, re, (postG.bind q).mono fun t H1 α1 S1 e1 h1 q1 => ?_⟩
        cases t with
        | true => exact iteT ⟨Z, α1, ρ, S1, h1, re.ext e1, q1⟩
        | false => exact iteF ⟨Z, α1, ρ, S1, h1, re.ext e1, q1⟩
      · obtain ⟨Z, α, ρ, S, hr, re, q⟩ := q
        exact q.elim
    · cases h
  | .call f es, c, X, W, x, h, g => by
    unfold chkE at h
    split at h
    · rename_i y p xs pos
      simp only [Bool.and_eq_true, decide_eq_true_eq, Bool.not_eq_true'] at h
      obtain ⟨⟨⟨h1, h2⟩, h3⟩, h4⟩ := h
      obtain ⟨ha, hs⟩ := sndEs es h3 g
      cases xs with
      | nil => cases h4
      | cons e es' =>
        exact pk g.K rfl rfl (call_case (pos := pos) (p := p) g h1 h2 ha hs)
    · cases h
  | .bi b es, c, X, W, x, h, g => by
    unfold chkE at h
    split at h
    · rename_i y p xs pos
      simp only [Bool.and_eq_true, decide_eq_true_eq, Bool.not_eq_true'] at h
      obtain ⟨⟨⟨h1, h2⟩, h3⟩, h4⟩ := h
      obtain ⟨ha, hs⟩ := sndEs es h3 g
      obtain ⟨gl, n1, n2⟩ := g.gl h1
      obtain ⟨id, hb, hr⟩ := bi_rule g b
      subst h2
      cases xs with
      | nil => cases h4
      | cons e es' =>
        refine pk g.K rfl rfl ?_
        exact PE.imp (pe_callB hr gl (g.bn _ b.mem) hb ha n2 n1 (star_eq (hs e List.mem_cons_self)) (star_any fun y hy => hs y (List.mem_cons_of_mem _ hy))) fun σ H Q q => args_op q
    · cases h
  | .bt b es, c, X, W, x, h, g => by
    unfold chkE at h
    split at h
    · rename_i y p xs pos
      simp only [Bool.and_eq_true, decide_eq_true_eq, Bool.not_eq_true'] at h
      obtain ⟨⟨⟨h1, h2⟩, h3⟩, h4⟩ := h
      obtain ⟨ha, hs⟩ := sndEs es h3 g
      obtain ⟨gl, n1, n2⟩ := g.gl h1
      obtain ⟨id, hb, hr⟩ := bt_rule g b
      subst h2
      cases xs with
      | nil => cases h4
      | cons e es' =>
        refine pk g.K rfl rfl ?_
        exact PE.imp (pe_callTy hr gl (g.bn _ b.mem) hb ha n2 n1 (star_eq (hs e List.mem_cons_self)) (star_any fun y hy => hs y (List.mem_cons_of_mem _ hy))) fun σ H Q q => args_op q
    · cases h
  | .mth m o es, c, X, W, x, h, g => by
    unfold chkE at h
    split at h
    · rename_i y n apos xs cpos
      simp only [Bool.and_eq_true, decide_eq_true_eq, Bool.not_eq_true'] at h
      obtain ⟨⟨⟨⟨⟨⟨h1, h2⟩, h3⟩, h4⟩, h5⟩, h6⟩, h7⟩ := h
      obtain ⟨ha, hs⟩ := sndEs es h6 g
      obtain ⟨Ty, id, m1, m2, m3, m4, m5⟩ := mth_rule g m
      subst h1
      have hm : MtR X id (rXM T m.f) := MtR.cases fun x xs H Q ⟨Z, q⟩ => ⟨_, m4 (T.wp Z) rfl, q⟩
      cases xs with
      | nil => cases h7
      | cons e es' =>
        refine pk g.K rfl rfl ?_
        exact PE.imp (pe_bm m1 m2 m3 hm (sndE o h5 g).1 ha (base_of h2) (by
            rw [star_all hs]
            have : ((e :: es').length + ([] : List Keyword).length + (if ([] : List Keyword).isEmpty then 0 else 1) < 30) := by
              show (e :: es').length + 0 + 0 < 30
              omega
            simp only [decide_eq_true this]
            rfl) h3 (star_eq (hs e List.mem_cons_self)) (star_any fun y hy => hs y (List.mem_cons_of_mem _ hy))) fun σ H Q q => by
          obtain ⟨Z, α, ρ, S, hr, re, q⟩ := q
          refine ⟨Z, α, ρ, S, hr, re, (postG.bind q).mono fun d H1 α1 S1 e1 h1 q1 v r => ?_⟩
          by_cases ho : m.ok S1 d = true
          · rw [if_pos ho] at q1
            refine ⟨m5 (T.wp Z) H1 α1 S1 d v g.K.symm h1 r ho, Z, α1, ρ, S1, h1, re.ext e1, (postG.bind q1).mono fun ds H2 α2 S2 e2 h2 q2 vs rs => ?_⟩
            exact ⟨Z, postG.op h2 (show RepL (T.wp Z) H2 α2 (d :: ds) (v :: vs) from ⟨v, vs, rfl, r.ext e2, rs⟩) q2⟩
          · rw [if_neg ho] at q1
            exact q1.elim
    · cases h
  | .idx a b, c, X, W, x, h, g => by
    unfold chkE at h
    split at h
    · simp only [Bool.and_eq_true] at h
      obtain ⟨⟨h1, h2⟩, h3⟩ := h
      have hu := g.units
      have hr : IxR X (rX2 T idxD) := IxR.cases fun x y H Q ⟨Z, q⟩ => ⟨_, ix_ok (T := T.wp Z) g.K (by omega), q⟩
      refine pk g.K rfl rfl ?_
      exact PE.imp (pe_ix hr (sndE a h2 g).1 (sndE b h3 g).1 (plainIx_of h1)) fun σ H Q q => two_op q
    · cases h
  | .slc a lo hi, c, X, W, x, h, g => by
    unfold chkE at h
    split at h
    · rename_i y l u p2 pos
      simp only [Bool.and_eq_true] at h
      obtain ⟨⟨h1, h2⟩, h3⟩ := h
      have part : ∀ (lo : E) (l : Option Expr), (∀ y, l = some y → lo.isNo = false → PE X y (tE T W (ev2 cf lo).1)) → (match l with | none => lo.isNo | some y => !lo.isNo && chkE c lo y) = true →
          PO X l (tOp' T W fun ρ S => if lo.isNo = true then .ok none S else ((ev2 cf lo).1 ρ S).bind fun y S2 => match y with | .int i => .ok (some i) S2 | _ => .stuck) := by
        intro lo l hy hl
        cases l with
        | none =>
          refine PO.imp po_none fun σ H Q q => ?_
          obtain ⟨Z, α, ρ, S, hr, re, q⟩ := q
          dsimp only at q
          rw [if_pos (show lo.isNo = true from hl)] at q
          exact q H α (Ext.refl _ _) hr
        | some y =>
          simp only [Bool.and_eq_true, Bool.not_eq_true'] at hl
          refine PO.imp (po_some (hy y rfl hl.1)) fun σ H Q q => ?_
          obtain ⟨Z, α, ρ, S, hr, re, q⟩ := q
          dsimp only at q
          rw [if_neg (by rw [hl.1]; exact Bool.false_ne_true)] at q
          refine ⟨Z, α, ρ, S, hr, re, (postG.bind q).mono fun d H1 α1 S1 e1 h1 q1 v r => ?_⟩
          cases d with
          | int i => cases r; exact ⟨i, rfl, q1 H1 α1 (Ext.refl _ _) h1⟩
          | _ => exact q1.elim
      have pl := part lo l (fun y e hn => by subst e; simp only [hn, Bool.not_false, Bool.true_and] at h2; exact (sndE lo h2 g).1) h2
      have pu := part hi u (fun y e hn => by subst e; simp only [hn, Bool.not_false, Bool.true_and] at h3; exact (sndE hi h3 g).1) h3
      have hsl : SlR X (fun x lo hi H Q => ∃ Z, rSlc (T.wp Z) x lo hi H Q) := SlR.cases fun x lo hi H Q ⟨Z, q⟩ => ⟨_, sl_ok (T := T.wp Z) g.K, q⟩
      refine pk g.K rfl rfl ?_
      exact PE.imp (pe_slice hsl (sndE a h1 g).1 pl pu) fun σ H Q q => by
        obtain ⟨Z, α, ρ, S, hr, re, q⟩ := q
        refine ⟨Z, α, ρ, S, hr, re, (postG.bind q).mono fun d H1 α1 S1 e1 h1 q1 v r => ?_⟩
        refine ⟨Z, α1, ρ, S1, h1, re.ext e1, (postG.bind q1).mono fun l H2 α2 S2 e2 h2 q2 => ?_⟩
        refine ⟨Z, α2, ρ, S2, h2, (re.ext e1).ext e2, (postG.bind q2).mono fun u H3 α3 S3 e3 h3 q3 => ?_⟩
        refine ⟨Z, ?_⟩
        cases e : slcF S3 d l u with
        | none => rw [e] at q3; exact q3.elim
        | some rr =>
          rw [e] at q3
          exact ⟨α3, S3, d, rr, h3, (r.ext e2).ext e3, e, fun v' H' α' e' h' r' => q3 H' α' e' h' v' r'⟩
    · cases h
  | .rev a, c, X, W, x, h, g => by
    unfold chkE at h
    split at h
    · refine pk g.K rfl rfl ?_
      exact PE.imp (pe_turn (sndE a h g).1) fun σ H Q q => by
        obtain ⟨Z, α, ρ, S, hr, re, q⟩ := q
        refine ⟨Z, α, ρ, S, hr, re, (postG.bind q).mono fun d H1 α1 S1 e1 h1 q1 v r => ?_⟩
        unfold turnD at q1
        cases ea : asSeq S1 d with
        | none => rw [ea] at q1; exact q1.elim
        | some kes =>
          obtain ⟨k, es⟩ := kes
          rw [ea] at q1
          obtain ⟨a, vs, rfl, rl, sq⟩ := asSeq_ok h1 r ea
          rw [show (T.wp Z).K = X.K from g.K.symm] at sq
          refine ⟨a, vs, rfl, ?_⟩
          cases k with
          | true => exact .inl ⟨by simpa using sq, fun p hp => finL h1 (fun v H' α' e' h' r' => q1 H' α' e' h' v r') rl.reverse hp⟩
          | false => exact .inr ⟨by simpa using sq, fun p hp => finT h1 (fun v H' α' e' h' r' => q1 H' α' e' h' v r') rl.reverse hp⟩
    · cases h
  | .glo y k, c, X, W, x, h, g => by
    unfold chkE at h
    split at h
    · simp only [Bool.and_eq_true, decide_eq_true_eq] at h
      obtain ⟨⟨h1, h2⟩, h3⟩ := h
      subst h2
      obtain ⟨gl, n1, n2⟩ := g.gl h1
      obtain ⟨v, u, m1, m2, m3⟩ := g.gls _ _ h3
      refine pk g.K rfl rfl ?_
      exact PE.imp (pe_glob (v := v) gl m1 m2 n1) fun σ H Q q => by
        obtain ⟨Z, α, ρ, S, hr, re, q⟩ := q
        exact q H α (Ext.refl _ _) hr _ (m3 _ _ _ rfl)
    · cases h
  | .callL i fs es, c, X, W, x, h, g => by
    unfold chkE at h
    split at h
    · rename_i y p xs pos
      simp only [Bool.and_eq_true, Bool.not_eq_true', List.all_eq_true] at h
      obtain ⟨⟨⟨h1, h2⟩, h3⟩, h4⟩ := h
      obtain ⟨ha, hs⟩ := sndEs es h2 g
      cases xs with
      | nil => cases h3
      | cons e es' =>
        exact pk g.K rfl rfl (callL_case (pos := pos) (p := p) g h4 h1 ha hs)
    · cases h
  | .no, c, X, W, x, h, g => by cases h
  | .tup es, c, X, W, x, h, g => by
    unfold chkE at h
    split at h
    · obtain ⟨ha, hs⟩ := sndEs es h g
      refine pk g.K rfl rfl ?_
      exact PE.imp (pe_tup ha) fun σ H Q q => by
        obtain ⟨Z, α, ρ, S, hr, re, q⟩ := q
        refine ⟨Z, α, ρ, S, hr, re, (postG.bind q).mono fun ds H1 α1 S1 e1 h1 q1 vs rs => ?_⟩
        by_cases hl : ds.length ≤ sizeLine
        · rw [if_pos hl] at q1
          exact ⟨by rw [← rs.length]; exact hl, fun p hp => finT h1 (fun v H' α' e' h' r' => q1 H' α' e' h' v r') rs hp⟩
        · rw [if_neg hl] at q1; exact q1.elim
    · cases h
  | .lst es, c, X, W, x, h, g => by
    unfold chkE at h
    split at h
    · obtain ⟨ha, hs⟩ := sndEs es h g
      refine pk g.K rfl rfl ?_
      exact PE.imp (pe_lst ha) fun σ H Q q => by
        obtain ⟨Z, α, ρ, S, hr, re, q⟩ := q
        refine ⟨Z, α, ρ, S, hr, re, (postG.bind q).mono fun ds H1 α1 S1 e1 h1 q1 vs rs => ?_⟩
        by_cases hl : ds.length ≤ sizeLine
        · rw [if_pos hl] at q1
          exact ⟨by rw [← rs.length]; exact hl, fun p hp => finL h1 (fun v H' α' e' h' r' => q1 H' α' e' h' v r') rs hp⟩
        · rw [if_neg hl] at q1; exact q1.elim
    · cases h
  | .lstR es, c, X, W, x, h, g => by
    unfold chkE at h
    split at h
    · obtain ⟨ha, hs⟩ := sndEs es h g
      refine pk g.K rfl rfl ?_
      exact PE.imp (pe_lst ha) fun σ H Q q => by
        obtain ⟨Z, α, ρ, S, hr, re, q⟩ := q
        refine ⟨Z, α, ρ, S, hr, re, (postG.bind q).mono fun ds H1 α1 S1 e1 h1 q1 vs rs => ?_⟩
        by_cases hl : ds.length ≤ sizeLine
        · rw [if_pos hl] at q1
          exact ⟨by rw [← rs.length]; exact hl, fun p hp => finN h1 (fun v H' α' e' h' r' => q1 H' α' e' h' v r') hp ⟨_, rfl, rs⟩⟩
        · rw [if_neg hl] at q1; exact q1.elim
    · cases h
  | .dK, c, X, W, x, h, g => by
    unfold chkE at h
    split at h
    · refine pk g.K rfl rfl ?_
      exact PE.imp pe_dnewK fun σ H Q q => by
        obtain ⟨Z, α, ρ, S, hr, re, q⟩ := q
        exact fun p hp => finN hr (fun v H' α' e' h' r' => q H' α' e' h' v r') hp ⟨_, rfl, rfl⟩
    · cases h
  | .dT, c, X, W, x, h, g => by
    unfold chkE at h
    split at h
    · refine pk g.K rfl rfl ?_
      exact PE.imp pe_dnewT fun σ H Q q => by
        obtain ⟨Z, α, ρ, S, hr, re, q⟩ := q
        exact fun p hp => finN hr (fun v H' α' e' h' r' => q H' α' e' h' v r') hp ⟨_, rfl, rfl⟩
    · cases h
  | .comp p it t elt own, c, X, W, x, h, g => by
    unfold chkE at h
    split at h
    · rename_i y tg iter ifs scope pos
      simp only [Bool.and_eq_true, decide_eq_true_eq] at h
      obtain ⟨⟨⟨⟨⟨⟨⟨h1, h2⟩, h3⟩, h4⟩, h5⟩, h6⟩, h7⟩, h8⟩ := h
      have ok := blkOk_by h2
      have hg := fun s H C cl fp => g.blk ok.kind s H C cl fp
      have hpo : p.ins own = true := by
        cases p with
        | nm i => exact h6
        | tp is => exact h6
        | tl is => exact h6
        | tn ps => exact h6
      refine pk g.K rfl rfl ?_
      exact by
        refine comp_ok g.calm (by rw [g.N]; exact g.nd) (sndIt it h4 g) (by rw [g.N, g.sc]; exact ok) h3 hpo (fun s H C cl fp => (hg s H C cl fp).toN.pat h5) (fun s H C cl fp => ?_) (fun s H C cl fp => (sndE elt h8 (hg s H C cl fp)).1) (fold_of h1)
        cases ifs with
        | nil =>
          have hn : t.isNo = true := h7
          have e : evC cf t = fun ρ S => R.ok true S := by
            funext ρ S
            unfold evC
            rw [if_pos hn]
          rw [e]
          exact ⟨fun pins s σ H Q I q => by
            obtain ⟨Z, α, ρ, S, hr, re, q⟩ := q
            exact pts_nil.run pins s σ H Q I (q H α (Ext.refl _ _) hr)⟩
        | cons z zs =>
          cases zs with
          | nil =>
            simp only [Bool.and_eq_true, Bool.not_eq_true'] at h7
            have e : evC cf t = (ev2 cf t).2 := by
              funext ρ S
              unfold evC
              rw [if_neg (by rw [h7.1]; exact Bool.false_ne_true)]
            rw [e]
            exact pts_one (sndE t h7.2 (hg s H C cl fp)).2.1
          | cons _ _ => cases h7
    · cases h
theorem sndEs : ∀ (es : Es) {c : Ctx} {X : Cx} {W : WX} {xs : List Expr}, chkEs c es xs = true → Good T cf c X W → PA X xs (tA T W (evs cf es)) ∧ ∀ x ∈ xs, notStar x = true
  | .nil, c, X, W, xs, h, g => by
    unfold chkEs at h
    split at h
    · refine ⟨PA.imp pa_nil fun σ H Q q => ?_, fun x hx => by cases hx⟩
      obtain ⟨Z, α, ρ, S, hr, re, q⟩ := q
      exact q H α (Ext.refl _ _) hr [] rfl
    · cases h
  | .cons e es, c, X, W, xs, h, g => by
    unfold chkEs at h
    split at h
    · simp only [Bool.and_eq_true] at h
      obtain ⟨ha, hs⟩ := sndEs es h.2 g
      refine ⟨PA.imp (pa_cons (sndE e h.1.2 g).1 ha (star_eq h.1.1)) fun σ H Q q => ?_, fun x hx => ?_⟩
      · obtain ⟨Z, α, ρ, S, hr, re, q⟩ := q
        refine ⟨Z, α, ρ, S, hr, re, (postG.bind q).mono fun d H1 α1 S1 e1 h1 q1 v r => ?_⟩
        refine ⟨Z, α1, ρ, S1, h1, re.ext e1, (postG.bind q1).mono fun ds H2 α2 S2 e2 h2 q2 vs rs => ?_⟩
        exact q2 H2 α2 (Ext.refl _ _) h2 (v :: vs) ⟨v, vs, rfl, r.ext e2, rs⟩
      · rcases List.mem_cons.mp hx with rfl | hx
        · exact h.1.1
        · exact hs x hx
    · cases h
theorem sndIt : ∀ (it : NT.It) {c : Ctx} {X : Cx} {W : WX} {tg x : Expr}, chkIt c it tg x = true → Good T cf c X W → PI X tg x (tI T W (evIt cf it))
  | .seq e, c, X, W, tg, x, h, g => by
    refine PI.imp (pi_seq (sndE e h g).1) fun σ H R q => ?_
    obtain ⟨Z, α, ρ, S, hr, re, q⟩ := q
    refine ⟨Z, α, ρ, S, hr, re, (postG.bind q).mono fun d H1 α1 S1 e1 h1 q1 v r => ?_⟩
    cases ea : asSeq S1 d with
    | none => rw [ea] at q1; exact q1.elim
    | some kes =>
      obtain ⟨k, es⟩ := kes
      rw [ea] at q1
      obtain ⟨a, vs, rfl, rl, sq⟩ := asSeq_ok h1 r ea
      have wk := walk_seq (T := T) ea r
      have q2 := q1 H1 α1 (Ext.refl _ _) h1 _ wk
      rw [show (T.wp Z).K = X.K from g.K.symm] at sq
      rw [← g.K] at q2
      refine ⟨a, rfl, ?_⟩
      cases k with
      | true => exact .inl ⟨⟨vs, sq⟩, q2⟩
      | false => exact .inr ⟨⟨vs, sq⟩, q2⟩
  | .range1 a, c, X, W, tg, x, h, g => by
    unfold chkIt at h
    split at h
    · simp only [Bool.and_eq_true, decide_eq_true_eq] at h
      obtain ⟨⟨⟨h1, h2⟩, h3⟩, h4⟩ := h
      subst h2
      obtain ⟨gl, n1, n2⟩ := g.gl h1
      refine PI.imp (pi_range1 gl (g.bn _ (by decide +kernel)) (pa_cons (sndE a h4 g).1 pa_nil (star_eq h3)) (star_eq h3)) fun σ H R q => ?_
      obtain ⟨Z, α, ρ, S, hr, re, q⟩ := q
      refine ⟨Z, α, ρ, S, hr, re, (postG.bind q).mono fun d H1 α1 S1 e1 h1 q1 v r => ?_⟩
      cases d with
      | int j =>
        cases r
        by_cases hj : -(2 ^ 62) ≤ j ∧ j < 2 ^ 62
        · simp only [if_pos hj] at q1
          exact ⟨j, rfl, hj.1, hj.2, q1 H1 α1 (Ext.refl _ _) h1 _ (walk_range 0 j.toNat)⟩
        · simp only [if_neg hj] at q1; exact q1.elim
      | _ => exact q1.elim
    · cases h
  | .range2 a b, c, X, W, tg, x, h, g => by
    unfold chkIt at h
    split at h
    · simp only [Bool.and_eq_true, decide_eq_true_eq] at h
      obtain ⟨⟨⟨⟨⟨h1, h2⟩, h3⟩, h4⟩, h5⟩, h6⟩ := h
      subst h2
      obtain ⟨gl, n1, n2⟩ := g.gl h1
      refine PI.imp (pi_range2 gl (g.bn _ (by decide +kernel)) (pa_cons (sndE a h5 g).1 (pa_cons (sndE b h6 g).1 pa_nil (star_eq h4)) (star_eq h3)) (by rw [star_eq h3, star_eq h4]; rfl) (star_eq h4)) fun σ H R q => ?_
      obtain ⟨Z, α, ρ, S, hr, re, q⟩ := q
      refine ⟨Z, α, ρ, S, hr, re, (postG.bind q).mono fun d H1 α1 S1 e1 h1 q1 v r => ?_⟩
      refine ⟨Z, α1, ρ, S1, h1, re.ext e1, (postG.bind q1).mono fun d2 H2 α2 S2 e2 h2 q2 v2 r2 => ?_⟩
      cases d with
      | int i =>
        cases d2 with
        | int j =>
          cases r; cases r2
          by_cases hj : -(2 ^ 62) ≤ i ∧ i < 2 ^ 62 ∧ -(2 ^ 62) ≤ j ∧ j < 2 ^ 62
          · simp only [if_pos hj] at q2
            exact ⟨i, j, rfl, hj, q2 H2 α2 (Ext.refl _ _) h2 _ (walk_range i _)⟩
          · simp only [if_neg hj] at q2; exact q2.elim
        | _ => exact q2.elim
      | _ => exact q2.elim
    · cases h
  | .zip a b, c, X, W, tg, x, h, g => by
    unfold chkIt at h
    split at h
    · simp only [Bool.and_eq_true, decide_eq_true_eq] at h
      obtain ⟨⟨⟨⟨⟨⟨h0, h1⟩, h2⟩, h3⟩, h4⟩, h5⟩, h6⟩ := h
      subst h2
      obtain ⟨gl, n1, n2⟩ := g.gl h1
      cases tg <;> first | (exfalso; exact absurd (show false = true from h0) Bool.false_ne_true) | skip
      refine PI.imp (RZ.pi_zipA gl (g.bn _ (by decide +kernel)) (pa_cons (sndE a h5 g).1 (pa_cons (sndE b h6 g).1 pa_nil (star_eq h4)) (star_eq h3)) (star_eq h3) (star_any fun y hy => by rw [List.mem_singleton.mp hy]; exact h4)) fun σ H R q => ?_
      obtain ⟨Z, α, ρ, S, hr, re, q⟩ := q
      refine ⟨Z, α, ρ, S, hr, re, (postG.bind q).mono fun d H1 α1 S1 e1 h1 q1 v r => ?_⟩
      refine ⟨Z, α1, ρ, S1, h1, re.ext e1, (postG.bind q1).mono fun d2 H2 α2 S2 e2 h2 q2 v2 r2 => ?_⟩
      cases ea : asSeq S2 d with
      | none => simp only [ea] at q2; exact q2.elim
      | some kes =>
        obtain ⟨k, es⟩ := kes
        cases eb : asSeq S2 d2 with
        | none => simp only [ea, eb] at q2; exact q2.elim
        | some kfs =>
          obtain ⟨l, fs⟩ := kfs
          simp only [ea, eb] at q2
          by_cases hkl : k = l
          · rw [if_pos hkl] at q2
            subst hkl
            obtain ⟨a', vs, rfl, rl, sq⟩ := asSeq_ok h2 (r.ext e2) ea
            obtain ⟨b', ws, rfl, rl2, sq2⟩ := asSeq_ok h2 r2 eb
            have q3 := q2 H2 α2 (Ext.refl _ _) h2 _ (walk_zip (T := T) ea eb (r.ext e2) r2)
            rw [show (T.wp Z).K = X.K from g.K.symm] at sq sq2
            rw [← g.K] at q3
            refine ⟨a', b', vs, ws, rfl, ?_⟩
            cases k with
            | true => exact .inl ⟨sq, sq2, q3⟩
            | false => exact .inr ⟨sq, sq2, q3⟩
          · rw [if_neg hkl] at q2; exact q2.elim
    · cases h
end
end
end NT
/-! statements -/
namespace NT
open PySem L2

/-! ### which texts these are -/
/-- the names that a pair of tuples exchanges: none: the model does not say -/
def swapF (sc : Scope) (tg v : Expr) : Option (Option (List Str)) := match tg, v with
  | .Tuple ts _ _, .Tuple vs _ _ =>
    if !(ts.length == 2 || ts.length == 3) || vs.length != ts.length then some none
    else if vs.any fun | .Starred .. => true | _ => false then some none
    else
      let line := (ts.head?.map (·.pos.line)).getD 0
      let names := ts.filterMap fun
        | .Name id pos => if sc.names.lookup id == some .local && pos.line == line then some id else none
        | _ => none
      if names.length != ts.length || names.eraseDups.length != names.length then some none
      else if vs.all (foldedForSure 8) then some none
      else if vs.all (constantsAlone 8) then none
      else some (some names)
  | .List .., _ => none
  | _, _ => some none
theorem swapF_ok {env : PySem.Env} {sc : Scope} {tg v : Expr} {r : Option (List Str)} (hsc : env.scope = sc) (hk : sc.kind = .function) (h : swapF sc tg v = some r) : swappedStores [tg] v env = pure r := by
  have hb : env.blockKind = .function := by unfold Env.blockKind; rw [hsc, hk]; rfl
  have he : ∀ id, env.kindOf id = sc.names.lookup id := fun id => by unfold Env.kindOf; rw [hsc]
  by_cases htt : isTup tg = true ∧ isTup v = true
  case neg =>
    cases tg <;> first
      | (simp only [swapF] at h; cases h; cases v <;> rfl)
      | (simp only [swapF] at h; cases h; done)
      | skip
    cases v <;> first
      | (simp only [swapF] at h; cases h; rfl)
      | (exact absurd ⟨rfl, rfl⟩ htt)
  obtain ⟨ht1, ht2⟩ := htt
  cases tg <;> first | (exfalso; exact absurd (show false = true from ht1) Bool.false_ne_true) | skip
  cases v <;> first | (exfalso; exact absurd (show false = true from ht2) Bool.false_ne_true) | skip
  rename_i ts k1 p1 vs k2 p2
  unfold swappedStores
  simp only [hb, he]
  simp only [swapF] at h
  by_cases c1 : (!(ts.length == 2 || ts.length == 3) || vs.length != ts.length) = true
  · rw [if_pos c1] at h
    cases h
    have c1' : (!(ts.length == 2 || ts.length == 3) || vs.length != ts.length || ScopeKind.function != ScopeKind.function) = true := by rw [c1]; rfl
    exact if_pos c1'
  · rw [if_neg c1] at h
    have c1' : ¬ (!(ts.length == 2 || ts.length == 3) || vs.length != ts.length || ScopeKind.function != ScopeKind.function) = true := by
      intro z
      rw [Bool.or_eq_true] at z
      rcases z with z | z
      · exact c1 z
      · exact absurd z (by decide)
    refine Eq.trans (if_neg c1') ?_
    split at h
    · rename_i c2
      cases h
      exact if_pos c2
    · rename_i c2
      refine Eq.trans (if_neg c2) ?_
      split at h
      · rename_i c3
        cases h
        exact if_pos c3
      · rename_i c3
        refine Eq.trans (if_neg c3) ?_
        split at h
        · rename_i c4
          cases h
          exact if_pos c4
        · rename_i c4
          refine Eq.trans (if_neg c4) ?_
          split at h
          · cases h
          · rename_i c5
            cases h
            exact if_neg c5

/-- whether a comprehension is stored in its own block -/
def swB (sc : Scope) (tg v : Expr) : Bool := match v, tg with
  | .ListComp _ _ s vpos, .Name t pos => sc.names.lookup t == some .local && pos.line == vpos.line && !(s.names.any fun (n, k) => n == t && (k == .local || k == .cell))
  | _, _ => false
theorem sw_false {e : Expr} {t : Option Expr} {l : Nat} {env : PySem.Env} (h : isLc e = false) : swapsWith e t l env = pure false := by
  cases e <;> first | rfl | cases h
def okLc : Expr → Bool
  | .SetComp .. => false
  | .DictComp .. => false
  | _ => true
theorem sw_lc {env : PySem.Env} {sc : Scope} {tg v : Expr} {l : Nat} (hsc : env.scope = sc) (hk : sc.kind = .function) (ho : okLc v = true) (h : swB sc tg v = false) : swapsWithSole [tg] v l env = pure false := by
  have hb : env.blockKind = .function := by unfold Env.blockKind; rw [hsc, hk]; rfl
  have he : ∀ id, env.kindOf id = sc.names.lookup id := fun id => by unfold Env.kindOf; rw [hsc]
  show swapsWith v (some tg) l env = pure false
  by_cases hv : isLc v = true
  · cases v <;> first | (exfalso; exact absurd (show false = true from hv) Bool.false_ne_true) | (exfalso; exact absurd (show false = true from ho) Bool.false_ne_true) | skip
    cases tg <;> first | rfl | skip
    rename_i e gs s vpos t pos
    simp only [swB] at h
    unfold swapsWith
    simp only [hb, he]
    refine congrArg pure ?_
    exact h
  · exact sw_false (by simpa using hv)

section
variable (T : TW) (W : WX)
def postR (H : Hp) (α : List Addr) (r : RS) (D : Ends) : Prop := match r with
  | .ok (.nx ρ) S' => ∀ H' α' σ', Ext H α H' α' → HR T H' α' S' → RepE T H' α' ρ σ' → D.nx σ' H'
  | .ok (.rt d) S' => ∀ H' α' v, Ext H α H' α' → HR T H' α' S' → Rep T H' α' d v → D.rt v H'
  | .ok (.bk ρ) S' => ∀ H' α' σ', Ext H α H' α' → HR T H' α' S' → RepE T H' α' ρ σ' → D.bk σ' H'
  | .ok (.ct ρ) S' => ∀ H' α' σ', Ext H α H' α' → HR T H' α' S' → RepE T H' α' ρ σ' → D.ct σ' H'
  | .exc c ρ S' => ∀ H' α' σ', Ext H α H' α' → HR T H' α' S' → RepE T H' α' ρ σ' → W (.ref (T.ca c)) none σ' H'
  | .stuck => False
def tS (m : NT.Env → Sto → RS) : TS := fun D σ H => ∃ Z α ρ S, HR (T.wp Z) H α S ∧ RepE (T.wp Z) H α ρ σ ∧ postR (T.wp Z) W H α (m ρ S) D
end
section
variable {T : TW} {W : WX} {H : Hp} {α : List Addr}
theorem postR.ext {H1 : Hp} {α1 : List Addr} {r : RS} {D : Ends} (e : Ext H α H1 α1) (h : postR T W H α r D) : postR T W H1 α1 r D := by
  cases r with
  | ok f S => cases f <;> exact fun H' α' x e' hr rr => h H' α' x (e.trans e') hr rr
  | exc c ρ S => exact fun H' α' x e' hr rr => h H' α' x (e.trans e') hr rr
  | stuck => exact h
theorem postR.thn {A : Type} {r : R A} {ρ : NT.Env} {σ : L2.St} {k : A → Sto → RS} {D : Ends} (re : RepE T H α ρ σ) (h : postR T W H α (r.thn ρ k) D) : postG T W σ H α r fun a H' α' S' => postR T W H' α' (k a S') D := by
  cases r with
  | ok a S => exact fun H' α' e hr => postR.ext e h
  | exc c S => exact fun H' α' e hr => h H' α' σ e hr (re.ext e)
  | stuck => exact h
end
theorem PS.imp {X : Cx} {e : Stmt} {t t' : TS} (h : PS X e t) (k : ∀ D σ H, t' D σ H → t D σ H) : PS X e t' := ⟨fun pins s σ H D I q => h.run pins s σ H D I (k _ _ _ q)⟩
theorem PSs.imp {X : Cx} {e : List Stmt} {t t' : TS} (h : PSs X e t) (k : ∀ D σ H, t' D σ H → t D σ H) : PSs X e t' := ⟨fun pins s σ H D I q => h.run pins s σ H D I (k _ _ _ q)⟩

/-! ### the checker -/
def chkA (c : Ctx) (p : Pat) (e : E) (tg v : Expr) : Bool :=
  chkP c p tg && chkE c e v && okLc v && (match tg with | .Name .. => true | .Tuple .. => true | _ => false) &&
  (match swapF c.sc tg v with
   | none => false
   | some none => true
   | some (some names) => (match p with | .tp is => decide (is.Nodup) && decide (is.map (fun i => c.N[i]?) = names.map some) && names.all fun n => decide (c.sc.names.lookup n = some .local) | _ => false))
/-- the index is no slice -/
def notSl : Expr → Bool
  | .Slice .. => false
  | _ => true
mutual
def chkS (c : Ctx) : NT.St → Stmt → Bool
  | .asg p e => fun z => match z with
    | .Assign [tg] v _ => chkA c p e tg v
    | _ => false
  | .setI o k v => fun z => match z with
    | .Assign [.Subscript x y _] w _ => chkE c o x && chkE c k y && chkE c v w && (okLc w && notSl y)
    | _ => false
  | .exp e => fun z => match z with
    | .Expr x _ => chkE c e x && !isLc x
    | _ => false
  | .ret e => fun z => match z with
    | .Return (some x) _ => chkE c e x
    | _ => false
  | .retN => fun z => match z with
    | .Return none _ => true
    | _ => false
  | .ite t a b => fun z => match z with
    | .If x s r _ => chkE c t x && chkSs c a s && chkSs c b r
    | _ => false
  | .for_ p it b => fun z => match z with
    | .For tg iter body [] _ => notSet iter && chkIt c it tg iter && chkP c p tg && chkSs c b body
    | _ => false
  | .while_ t b => fun z => match z with
    | .While x body [] _ => chkE c t x && chkSs c b body
    | _ => false
  | .brk => fun z => match z with
    | .Break _ => true
    | _ => false
  | .cont => fun z => match z with
    | .Continue _ => true
    | _ => false
  | .pass => fun z => match z with
    | .Pass _ => true
    | _ => false
def chkSs (c : Ctx) : Sts → List Stmt → Bool
  | .nil => fun z => match z with
    | [] => true
    | _ => false
  | .cons s r => fun z => match z with
    | x :: xs => chkS c s x && chkSs c r xs
    | _ => false
end
end NT
/-! the interpreter is right: statements -/
namespace NT
open PySem L2

/-! ### names stored from the right -/
theorem zip_rev {A B : Type} : ∀ (is : List A) (xs : List B), is.length = xs.length → is.reverse.zip xs.reverse = (is.zip xs).reverse
  | [], [], _ => rfl
  | [], _ :: _, h => by simp at h
  | _ :: _, [], h => by simp at h
  | i :: is, x :: xs, h => by
    have h' : is.length = xs.length := by simpa using h
    rw [List.reverse_cons, List.reverse_cons, List.zip_append (by simp [h']), zip_rev is xs h']
    simp
def setV : List Nat → List V → L2.St → L2.St
  | i :: is, v :: vs, σ => setV is vs (σ.set i (some v))
  | _, _, σ => σ
theorem setV_set : ∀ {is : List Nat} {vs : List V} {σ : L2.St} {i : Nat} {v : V}, i ∉ is → setV is vs (σ.set i (some v)) = (setV is vs σ).set i (some v)
  | [], vs, σ, i, v, _ => by cases vs <;> rfl
  | j :: is, [], σ, i, v, _ => rfl
  | j :: is, w :: vs, σ, i, v, h => by
    have hj : i ≠ j := fun e => h (by rw [e]; exact List.mem_cons_self)
    show setV is vs ((σ.set i (some v)).set j (some w)) = _
    rw [List.set_comm _ _ hj, setV_set fun z => h (List.mem_cons_of_mem _ z)]
    rfl
theorem gNames_set {H : Hp} {Q : L2.St → Hp → Prop} : ∀ {is : List Nat} {vs : List V} {σ : L2.St}, gNames is vs σ H Q → Q (setV is vs σ) H
  | [], vs, σ, h => by
    obtain ⟨rfl, q⟩ := h
    exact q
  | i :: is, vs, σ, h => by
    obtain ⟨v, r, rfl, q⟩ := h
    exact gNames_set (is := is) q
theorem gNames_len {H : Hp} {Q : L2.St → Hp → Prop} : ∀ {is : List Nat} {vs : List V} {σ : L2.St}, gNames is vs σ H Q → vs.length = is.length
  | [], vs, σ, h => by
    obtain ⟨rfl, q⟩ := h
    rfl
  | i :: is, vs, σ, h => by
    obtain ⟨v, r, rfl, q⟩ := h
    simp [gNames_len (is := is) q]
section
open PySem.Spec PyProof.Rows
variable {X : Cx}
/-- the names, last first, take their values -/
theorem stores_rev (hN : X.N.Nodup) : ∀ {is : List Nat} {names : List Str} {vs : List V} {us : List Value} {pins : List (Addr × Obj)} {s : Shared} {σ : L2.St} {H : Hp} {Q : Unit → Shared → Prop} {M : Model} {A : Around} {E : Value → Shared → Prop},
    is.map (fun i => X.N[i]?) = names.map some → (∀ n ∈ names, X.env.scope.names.lookup n = some .local) → Vals vs us → vs.length = is.length → L2.Inv X pins σ H s →
    (∀ s', L2.Inv X pins ((is.zip vs).foldl (fun τ p => τ.set p.1 (some p.2)) σ) H s' → Q () s') →
    wpAny M A (assignInOrder (names.map fun n => bindName X.env n) us) Q E s
  | [], names, vs, us, pins, s, σ, H, Q, M, A, E, hn, hl, r, hlen, I, k => by
    cases names with
    | nil =>
      cases r with
      | nil => exact assignInOrder_nil (k s I)
      | cons _ _ => simp at hlen
    | cons _ _ => simp at hn
  | i :: is, names, vs, us, pins, s, σ, H, Q, M, A, E, hn, hl, r, hlen, I, k => by
    cases names with
    | nil => simp at hn
    | cons n names =>
      cases r with
      | nil => simp at hlen
      | cons r1 r2 =>
        rename_i v u vs us
        simp only [List.map_cons, List.cons.injEq] at hn
        have hloc := hl n List.mem_cons_self
        refine assignInOrder_cons (wpAny_bindName (store_ok I hN hn.1 (.inl hloc) r1 (fun s' I' => ?_) (.inr hloc)))
        exact stores_rev hN hn.2 (fun m hm => hl m (List.mem_cons_of_mem _ hm)) r2 (by simpa using hlen) I' k
theorem fold_rev {σ : L2.St} : ∀ {is : List Nat} {vs : List V}, is.Nodup → vs.length = is.length → ((is.zip vs).reverse.foldl (fun τ p => τ.set p.1 (some p.2)) σ) = setV is vs σ
  | [], [], _, _ => rfl
  | [], _ :: _, _, h => by simp at h
  | _ :: _, [], _, h => by simp at h
  | i :: is, v :: vs, hn, h => by
    rw [List.nodup_cons] at hn
    simp only [List.zip_cons_cons, List.reverse_cons, List.foldl_append, List.foldl_cons, List.foldl_nil]
    rw [fold_rev hn.2 (by simpa using h)]
    show _ = setV is vs (σ.set i (some v))
    rw [setV_set hn.1]
theorem ps_swap {tg e : Expr} {te : TE} {is : List Nat} {names : List Str} {pos : Pos} (hcalm : X.calm = true) (hN : X.N.Nodup) (he : PE X e te) (hs : swapsWithSole [tg] e pos.line X.env = pure false) (hw : swappedStores [tg] e X.env = pure (some names))
    (hn : is.map (fun i => X.N[i]?) = names.map some) (hnd : is.Nodup) (hl : ∀ n ∈ names, X.env.scope.names.lookup n = some .local) :
    PS X (.Assign [tg] e pos) (tAsg te (gTup X.K is.length (gNames is))) := by
  refine ⟨fun pins s σ H D I h => ?_⟩
  rw [exec_Assign_arm]
  refine wpAny_bind (wpAny_standAt ?_)
  rw [hs]
  refine wpAny_bind (wpAny_pure ?_)
  rw [if_neg (by decide)]
  refine wpAny_bind (thn (he.run pins s σ H _ I h) fun v s1 ⟨x, H1, I1, r1, q1⟩ => ?_)
  obtain ⟨a, xs, e1, hq, hlen, q1⟩ := q1
  subst e1
  cases r1
  obtain ⟨its, rv, ht, hz⟩ := I1.tuple hq
  rw [hw]
  refine wpAny_bind (wpAny_pure ?_)
  have hnl : names.length = its.toArray.size := by
    have := congrArg List.length hn
    simp only [List.length_map] at this
    rw [List.size_toArray, ← rv.length, hlen, this]
  show wpAny (model X.prog X.w) X.A (do rule "assign.swapped-stores"; let items ← unpackItems (.ref a) names.length none; assignInOrder (names.reverse.map fun n => bindName X.env n) items.reverse; pure Flow.next) _ _ _
  rw [hnl]
  refine wpAny_bind (wpAny_rule (wpAny_bind (unpackItems_tuple (I1.ok.hd hcalm) ht fun h' hx' => ?_)))
  have I2 := I1.kept (h' := h') (t' := s1.toks) fun b o e => hx' b o (Nat.ne_of_lt (Heap.lt_size e)) e
  refine wpAny_bind (stores_rev hN (is := is.reverse) (vs := xs.reverse) (by rw [List.map_reverse, List.map_reverse, hn]) (fun n hm => hl n (by simpa using hm)) (by simpa using Vals.reverse rv) (by simp [hlen]) I2 fun s' I3 => ?_)
  refine wpAny_pure ?_
  have e2 : (is.reverse.zip xs.reverse) = (is.zip xs).reverse := zip_rev is xs hlen.symm
  rw [e2, fold_rev hnd hlen] at I3
  exact ⟨_, _, I3, gNames_set q1⟩
end
end NT
/-! the interpreter is right: statements, defs -/
namespace NT
open PySem L2
section
variable {T : TW} {cf : Nat → List D → Sto → R D}
structure GoodS (T : TW) (cf : Nat → List D → Sto → R D) (c : Ctx) (X : Cx) (W : WX) : Prop extends Good T cf c X W where
  po : PassesOwn (model X.prog X.w) X.A X.env X.xe
theorem forD_nil {gs : Gs} {body : D → NT.Env → Sto → RS} {ρ : NT.Env} {S : Sto} : forD gs body [] ρ S = (open Classical in if gok gs S then .ok (.nx ρ) S else .stuck) := rfl
theorem forD_cons {gs : Gs} {body : D → NT.Env → Sto → RS} {d : D} {ds : List D} {ρ : NT.Env} {S : Sto} : forD gs body (d :: ds) ρ S = (open Classical in if gok gs S then (match body d ρ S with
    | .ok (.nx ρ') S' => forD gs body ds ρ' S'
    | .ok (.ct ρ') S' => forD gs body ds ρ' S'
    | .ok (.bk ρ') S' => .ok (.nx ρ') S'
    | r => r) else .stuck) := rfl

theorem for_conv {W : WX} {p : Pat} {it : NT.It} {b : Sts} {wf : Nat} {D : Ends} {σ : L2.St} {H : Hp} (h : tS T W (ex cf wf (.for_ p it b)) D σ H) :
    tFor (tI T W (evIt cf it)) (gPat T.K p) (tS T W (exs cf wf b)) D σ H := by
  obtain ⟨Z, α, ρ, S, hr, re, q⟩ := h
  refine ⟨Z, α, ρ, S, hr, re, (postR.thn re q).mono fun ig H1 α1 S1 e1 h1 q1 J wk => ?_⟩
  obtain ⟨items, gs⟩ := ig
  dsimp only at wk q1
  generalize hbody : (fun d ρ1 S2 => match p.bnd d ρ1 with
    | some ρ2 => exs cf wf b ρ2 S2
    | none => RS.stuck) = body at q1
  refine ⟨fun i m σx Hx => m = items.length - i ∧ i ≤ items.length ∧ ∃ αx Sx ρx, Ext H1 α1 Hx αx ∧ HR (T.wp Z) Hx αx Sx ∧ RepE (T.wp Z) Hx αx ρx σx ∧ postR (T.wp Z) W Hx αx (forD gs body (items.drop i) ρx Sx) D,
    ⟨items.length, by simp, Nat.zero_le _, α1, S1, ρ, Ext.refl _ _, h1, re.ext e1, q1⟩, ?_⟩
  rintro i m σx Hx ⟨rfl, hi, αx, Sx, ρx, ex, hx, rx, px⟩
  have hgok : gok gs Sx := by
    by_cases hg : gok gs Sx
    · exact hg
    · exfalso
      cases hdr : items.drop i with
      | nil => rw [hdr, forD_nil, if_neg hg] at px; exact px.elim
      | cons d ds => rw [hdr, forD_cons, if_neg hg] at px; exact px.elim
  have wki := wk Z i Hx αx Sx hi (fun a ha => ha) ex hx (fun d v r => r.ext ex) hgok
  by_cases hlt : i < items.length
  · refine .inr ⟨(wki.1 hlt).1, fun σ' H' => ∃ αx Sx ρx, Ext H1 α1 H' αx ∧ HR (T.wp Z) H' αx Sx ∧ RepE (T.wp Z) H' αx ρx σ' ∧ postR (T.wp Z) W H' αx (forD gs body (items.drop (i + 1)) ρx Sx) D,
      fun σ' H' hh => ⟨items.length - (i + 1), by omega, rfl, hlt, hh⟩, fun xv H' hy => ?_⟩
    obtain ⟨d, hd, ey, hy2, ry⟩ := (wki.1 hlt).2 xv H' hy
    have hdrop : items.drop i = d :: items.drop (i + 1) := by
      rw [List.drop_eq_getElem_cons hlt]
      obtain ⟨_, e⟩ := List.getElem?_eq_some_iff.mp hd
      rw [e]
    rw [hdrop, forD_cons, if_pos hgok] at px
    have rx1 := rx.ext ey
    cases hb : p.bnd d ρx with
    | none =>
      rw [← hbody] at px
      simp only [hb] at px
      exact px.elim
    | some ρ' =>
      obtain ⟨σ', re', gp, _⟩ := bnd_ok hb ry rx1
      refine gp _ ⟨Z, αx, ρ', Sx, hy2, re', ?_⟩
      have eb : body d ρx Sx = exs cf wf b ρ' Sx := by
        rw [← hbody]
        simp only [hb]
      rw [eb] at px
      cases hr2 : exs cf wf b ρ' Sx with
      | stuck => rw [hr2] at px; exact px.elim
      | exc k ρ2 S2 => rw [hr2] at px; exact fun H' α' σ2 e hr rr => px H' α' σ2 (ey.trans e) hr rr
      | ok f S2 =>
        rw [hr2] at px
        cases f with
        | nx ρ2 => exact fun H2 α2 σ2 e2 h2 r2 => ⟨α2, S2, ρ2, (ex.trans ey).trans e2, h2, r2, postR.ext (ey.trans e2) px⟩
        | ct ρ2 => exact fun H2 α2 σ2 e2 h2 r2 => ⟨α2, S2, ρ2, (ex.trans ey).trans e2, h2, r2, postR.ext (ey.trans e2) px⟩
        | bk ρ2 => exact fun H2 α2 σ2 e2 h2 r2 => px H2 α2 σ2 (ey.trans e2) h2 r2
        | rt d2 => exact fun H2 α2 v e2 h2 r2 => px H2 α2 v (ey.trans e2) h2 r2
  · have hi' : i = items.length := by omega
    refine .inl ⟨wki.2 hi', ?_⟩
    subst hi'
    rw [List.drop_length, forD_nil, if_pos hgok] at px
    exact px Hx αx σx (Ext.refl _ _) hx rx

theorem while_conv {W : WX} {t : E} {b : Sts} {wf : Nat} {D : Ends} {σ : L2.St} {H : Hp} (h : tS T W (ex cf wf (.while_ t b)) D σ H) :
    tWhile (tT T W (ev2 cf t).2) (tS T W (exs cf wf b)) D σ H := by
  obtain ⟨Z, α, ρ, S, hr, re, q⟩ := h
  refine ⟨fun m σx Hx => ∃ αx Sx ρx, HR (T.wp Z) Hx αx Sx ∧ RepE (T.wp Z) Hx αx ρx σx ∧ postR (T.wp Z) W Hx αx (whileD (evT cf t) (exs cf wf b) m ρx Sx) D, ⟨wf, α, S, ρ, hr, re, q⟩, ?_⟩
  rintro m σx Hx ⟨αx, Sx, ρx, hx, rx, px⟩
  cases m with
  | zero => exact px.elim
  | succ m =>
    refine ⟨Z, αx, ρx, Sx, hx, rx, (postR.thn rx px).mono fun bb H1 α1 S1 e1 h1 q1 => ?_⟩
    cases bb with
    | false =>
      refine iteF ?_
      exact q1 H1 α1 σx (Ext.refl _ _) h1 (rx.ext e1)
    | true =>
      refine iteT ⟨fun σ' H' => ∃ αx Sx ρx, HR (T.wp Z) H' αx Sx ∧ RepE (T.wp Z) H' αx ρx σ' ∧ postR (T.wp Z) W H' αx (whileD (evT cf t) (exs cf wf b) m ρx Sx) D, fun σ' H' hh => ⟨m, Nat.lt_succ_self _, hh⟩, Z, α1, ρx, S1, h1, rx.ext e1, ?_⟩
      rw [if_pos rfl] at q1
      cases hr2 : exs cf wf b ρx S1 with
      | stuck => rw [hr2] at q1; exact q1.elim
      | exc k ρ2 S2 => rw [hr2] at q1; exact q1
      | ok f S2 =>
        rw [hr2] at q1
        cases f with
        | nx ρ2 => exact fun H2 α2 σ2 e2 h2 r2 => ⟨α2, S2, ρ2, h2, r2, postR.ext e2 q1⟩
        | ct ρ2 => exact fun H2 α2 σ2 e2 h2 r2 => ⟨α2, S2, ρ2, h2, r2, postR.ext e2 q1⟩
        | bk ρ2 => exact q1
        | rt d2 => exact q1

theorem asg_conv {W : WX} {p : Pat} {e : E} {wf : Nat} {D : Ends} {σ : L2.St} {H : Hp} (h : tS T W (ex cf wf (.asg p e)) D σ H) : tAsg (tE T W (ev2 cf e).1) (gPat T.K p) D σ H := by
  obtain ⟨Z, α, ρ, S, hr, re, q⟩ := h
  refine ⟨Z, α, ρ, S, hr, re, (postR.thn re q).mono fun d H1 α1 S1 e1 h1 q1 v r => ?_⟩
  cases hb : p.bnd d ρ with
  | none => simp only [hb] at q1; exact q1.elim
  | some ρ' =>
    simp only [hb] at q1
    obtain ⟨σ', re', gp, _⟩ := bnd_ok hb r (re.ext e1)
    exact gp _ (q1 H1 α1 σ' (Ext.refl _ _) h1 re')

theorem asg_ok {c : Ctx} {X : Cx} {W : WX} (g : Good T cf c X W) {p : Pat} {e : E} {tg v : Expr} {pos : Pos} {wf : Nat} (h : chkA c p e tg v = true) : PS X (.Assign [tg] v pos) (tS T W (ex cf wf (.asg p e))) := by
  unfold chkA at h
  simp only [Bool.and_eq_true] at h
  obtain ⟨⟨⟨⟨h1, h2⟩, h3⟩, h4⟩, h5⟩ := h
  have nd : X.N.Nodup := by rw [g.N]; exact g.nd
  by_cases hsw : swB c.sc tg v = true
  · -- a comprehension, stored in its own block
    cases v <;> first | (exfalso; cases tg <;> exact absurd (show false = true from hsw) Bool.false_ne_true) | skip
    cases tg <;> first | (exfalso; exact absurd (show false = true from hsw) Bool.false_ne_true) | skip
    rename_i y gs scope vpos n npos
    cases e <;> (unfold chkE at h2) <;> first
      | (exfalso; exact absurd (show false = true from h2) Bool.false_ne_true)
      | skip
    rename_i p' it t elt own
    split at h2
    · rename_i y tg iter ifs scope pos' heq
      cases heq
      simp only [Bool.and_eq_true, decide_eq_true_eq] at h2
      obtain ⟨⟨⟨⟨⟨⟨⟨a1, a2⟩, a3⟩, a4⟩, a5⟩, a6⟩, a7⟩, a8⟩ := h2
      have ok := blkOk_by a2
      have hg := fun s H C cl fp => g.blk ok.kind s H C cl fp
      have hpo : p'.ins own = true := by
        cases p' with
        | nm i => exact a6
        | tp is => exact a6
        | tl is => exact a6
        | tn ps => exact a6
      have pts : ∀ (s : Shared) (H : Hp) (C : Addr) (cl : List (Str × Addr)) (fp : List Addr), PTs (X.blk s H scope (compEnvC scope cl C X.env) fp) ifs (tT T W0 (evC cf t)) := by
        intro s H C cl fp
        cases ifs with
        | nil =>
          have hn : t.isNo = true := a7
          have e : evC cf t = fun ρ S => R.ok true S := by
            funext ρ S
            unfold evC
            rw [if_pos hn]
          rw [e]
          exact ⟨fun pins s σ H Q I q => by
            obtain ⟨Z, α, ρ, S, hr, re, q⟩ := q
            exact pts_nil.run pins s σ H Q I (q H α (Ext.refl _ _) hr)⟩
        | cons z zs =>
          cases zs with
          | nil =>
            simp only [Bool.and_eq_true, Bool.not_eq_true'] at a7
            have e : evC cf t = (ev2 cf t).2 := by
              funext ρ S
              unfold evC
              rw [if_neg (by rw [a7.1]; exact Bool.false_ne_true)]
            rw [e]
            exact pts_one (sndE t a7.2 (hg s H C cl fp)).2.1
          | cons _ _ => cases a7
      cases p with
      | tp is => exact absurd (show false = true from h1) Bool.false_ne_true
      | tl is => exact absurd (show false = true from h1) Bool.false_ne_true
      | tn ps => exact absurd (show false = true from h1) Bool.false_ne_true
      | nm i =>
        have hb : c.bindable i n = true := h1
        unfold Ctx.bindable at hb
        simp only [Bool.and_eq_true, decide_eq_true_eq] at hb
        simp only [swB, Bool.and_eq_true, Bool.not_eq_true', beq_iff_eq] at hsw
        obtain ⟨⟨w1, w2⟩, w3⟩ := hsw
        have hl : X.env.scope.names.lookup n = some .local := by rw [g.sc]; exact w1
        refine PS.imp (ps_setLc (i := i) g.calm nd (by rw [g.N]; exact hb.1) hl (sw_true (by rw [g.sc]; exact g.kind) hl (by rw [w2]; simp) w3) (sndIt it a4 g) (by rw [g.N, g.sc]; exact ok) (fun s H C cl fp => (hg s H C cl fp).toN.pat a5) pts (fun s H C cl fp => (sndE elt a8 (hg s H C cl fp)).1) (fold_of a1)) fun D σ H q => ?_
        have q' : tE T W (ev2 cf (.comp p' it t elt own)).1 σ H fun x H1 => gName i x σ H1 D.nx := asg_conv (p := .nm i) q
        show tLc _ _ _ _ _ σ H _
        rw [a3]
        exact comp_conv hpo q'
    · cases h2
  · have hsw' : swB c.sc tg v = false := by simpa using hsw
    have hs := sw_lc (l := pos.line) g.sc g.kind h3 hsw'
    have he := (sndE e h2 g).1
    have hp := g.toN.pat h1
    have ha : (assignEach [tg] X.env).map (·.2) = [assign tg X.env] := by
      cases tg <;> first | rfl | (exfalso; exact absurd (show false = true from h4) Bool.false_ne_true)
    cases hf : swapF c.sc tg v with
    | none => rw [hf] at h5; cases h5
    | some o =>
      cases o with
      | none => exact PS.imp (ps_asg he hp hs (swapF_ok g.sc g.kind hf) ha) fun D σ H q => asg_conv q
      | some names =>
        rw [hf] at h5
        cases p with
        | nm i => cases h5
        | tl is => cases h5
        | tn ps => cases h5
        | tp is =>
          simp only [Bool.and_eq_true, decide_eq_true_eq, List.all_eq_true] at h5
          have := ps_swap (pos := pos) (is := is) g.calm nd he hs (swapF_ok g.sc g.kind hf) (by rw [g.N]; exact h5.1.2) h5.1.1 (fun n hn => by rw [g.sc]; exact h5.2 n hn)
          rw [g.K] at this
          exact PS.imp this fun D σ H q => asg_conv q

mutual
theorem sndS (wf : Nat) : ∀ (st : NT.St) {c : Ctx} {X : Cx} {W : WX} {x : Stmt}, chkS c st x = true → GoodS T cf c X W → PS X x (tS T W (ex cf wf st))
  | .asg p e, c, X, W, x, h, g => by
    unfold chkS at h
    split at h
    · exact asg_ok g.toGood h
    · cases h
  | .setI o k v, c, X, W, x, h, g => by
    unfold chkS at h
    split at h
    · simp only [Bool.and_eq_true] at h
      obtain ⟨⟨⟨h1, h2⟩, h3⟩, h4, h5⟩ := h
      have hu := g.toGood.units
      have hset : PSet X (fun o k v H Q => ∃ Z, rSet (T.wp Z) o k v H Q) := PSet.cases fun o k v H Q ⟨Z, q⟩ => ⟨_, set_ok (T := T.wp Z) (by omega), q⟩
      refine PS.imp (ps_asg (sndE v h3 g.toGood).1 (pg_sub (sndE o h1 g.toGood).1 (sndE k h2 g.toGood).1 hset (fun v => by rename_i y _ _ _; cases y <;> first | rfl | cases h5)) (sw_lc g.sc g.kind h4 (by unfold swB; split <;> first | rfl | (rename_i e; cases e))) rfl rfl) fun D σ H q => ?_
      obtain ⟨Z, α, ρ, S, hr, re, q⟩ := q
      refine ⟨Z, α, ρ, S, hr, re, (postR.thn re q).mono fun d1 H1 α1 S1 e1 h1 q1 v1 r1 => ?_⟩
      refine ⟨Z, α1, ρ, S1, h1, re.ext e1, (postR.thn (re.ext e1) q1).mono fun d2 H2 α2 S2 e2 h2 q2 v2 r2 => ?_⟩
      refine ⟨Z, α2, ρ, S2, h2, (re.ext e1).ext e2, (postR.thn ((re.ext e1).ext e2) q2).mono fun d3 H3 α3 S3 e3 h3 q3 v3 r3 => ?_⟩
      refine ⟨Z, ?_⟩
      cases hs : setS S3 d2 d3 d1 with
      | none => rw [hs] at q3; exact q3.elim
      | some S4 =>
        rw [hs] at q3
        exact ⟨α3, S3, d2, d3, d1, S4, h3, r2.ext e3, r3, (r1.ext e2).ext e3, hs, fun H' α' e' h' => q3 H' α' σ e' h' ((((re.ext e1).ext e2).ext e3).ext e')⟩
    · cases h
  | .exp e, c, X, W, x, h, g => by
    unfold chkS at h
    split at h
    · simp only [Bool.and_eq_true, Bool.not_eq_true'] at h
      refine PS.imp (ps_expr (sndE e h.1 g.toGood).1 (sw_false h.2)) fun D σ H q => ?_
      obtain ⟨Z, α, ρ, S, hr, re, q⟩ := q
      exact ⟨Z, α, ρ, S, hr, re, (postR.thn re q).mono fun d1 H1 α1 S1 e1 h1 q1 v1 r1 => q1 H1 α1 σ (Ext.refl _ _) h1 (re.ext e1)⟩
    · cases h
  | .ret e, c, X, W, x, h, g => by
    unfold chkS at h
    split at h
    · refine PS.imp (ps_ret (sndE e h g.toGood).1) fun D σ H q => ?_
      obtain ⟨Z, α, ρ, S, hr, re, q⟩ := q
      exact ⟨Z, α, ρ, S, hr, re, (postR.thn re q).mono fun d1 H1 α1 S1 e1 h1 q1 v1 r1 => q1 H1 α1 v1 (Ext.refl _ _) h1 r1⟩
    · cases h
  | .retN, c, X, W, x, h, g => by
    unfold chkS at h
    split at h
    · refine PS.imp ps_retN fun D σ H q => ?_
      obtain ⟨Z, α, ρ, S, hr, re, q⟩ := q
      exact q H α .non (Ext.refl _ _) hr rfl
    · cases h
  | .ite t a b, c, X, W, x, h, g => by
    unfold chkS at h
    split at h
    · simp only [Bool.and_eq_true] at h
      refine PS.imp (ps_if (sndE t h.1.1 g.toGood).2.1 (sndSs wf a h.1.2 g) (sndSs wf b h.2 g)) fun D σ H q => ?_
      obtain ⟨Z, α, ρ, S, hr, re, q⟩ := q
      refine ⟨Z, α, ρ, S, hr, re, (postR.thn re q).mono fun t H1 α1 S1 e1 h1 q1 => ?_⟩
      cases t with
      | true => exact iteT ⟨Z, α1, ρ, S1, h1, re.ext e1, q1⟩
      | false => exact iteF ⟨Z, α1, ρ, S1, h1, re.ext e1, q1⟩
    · cases h
  | .for_ p it b, c, X, W, x, h, g => by
    unfold chkS at h
    split at h
    · simp only [Bool.and_eq_true] at h
      obtain ⟨⟨⟨h1, h2⟩, h3⟩, h4⟩ := h
      exact PS.imp (ps_for g.po g.calm (sndIt it h2 g.toGood) (g.toGood.toN.pat h3) (sndSs wf b h4 g) (fold_of h1)) fun D σ H q => for_conv q
    · cases h
  | .while_ t b, c, X, W, x, h, g => by
    unfold chkS at h
    split at h
    · simp only [Bool.and_eq_true] at h
      exact PS.imp (ps_while g.po (sndE t h.1 g.toGood).2.1 (sndSs wf b h.2 g)) fun D σ H q => while_conv q
    · cases h
  | .brk, c, X, W, x, h, g => by
    unfold chkS at h
    split at h
    · refine PS.imp ps_break fun D σ H q => ?_
      obtain ⟨Z, α, ρ, S, hr, re, q⟩ := q
      exact q H α σ (Ext.refl _ _) hr re
    · cases h
  | .cont, c, X, W, x, h, g => by
    unfold chkS at h
    split at h
    · refine PS.imp ps_continue fun D σ H q => ?_
      obtain ⟨Z, α, ρ, S, hr, re, q⟩ := q
      exact q H α σ (Ext.refl _ _) hr re
    · cases h
  | .pass, c, X, W, x, h, g => by
    unfold chkS at h
    split at h
    · refine PS.imp ps_pass fun D σ H q => ?_
      obtain ⟨Z, α, ρ, S, hr, re, q⟩ := q
      exact q H α σ (Ext.refl _ _) hr re
    · cases h
theorem sndSs (wf : Nat) : ∀ (sts : Sts) {c : Ctx} {X : Cx} {W : WX} {xs : List Stmt}, chkSs c sts xs = true → GoodS T cf c X W → PSs X xs (tS T W (exs cf wf sts))
  | .nil, c, X, W, xs, h, g => by
    unfold chkSs at h
    split at h
    · refine PSs.imp pss_nil fun D σ H q => ?_
      obtain ⟨Z, α, ρ, S, hr, re, q⟩ := q
      exact q H α σ (Ext.refl _ _) hr re
    · cases h
  | .cons s r, c, X, W, xs, h, g => by
    unfold chkSs at h
    split at h
    · simp only [Bool.and_eq_true] at h
      refine PSs.imp (pss_cons (sndS wf s h.1 g) (sndSs wf r h.2 g)) fun D σ H q => ?_
      obtain ⟨Z, α, ρ, S, hr, re, q⟩ := q
      refine ⟨Z, α, ρ, S, hr, re, ?_⟩
      have q' : postR (T.wp Z) W H α ((ex cf wf s ρ S).seq fun ρ' S' => exs cf wf r ρ' S') D := q
      cases hx : ex cf wf s ρ S with
      | stuck => rw [hx] at q'; exact q'.elim
      | exc k ρ2 S2 => rw [hx] at q'; exact q'
      | ok f S2 =>
        rw [hx] at q'
        cases f with
        | nx ρ2 => exact fun H' α' σ' e hr rr => ⟨Z, α', ρ2, S2, hr, rr, postR.ext e q'⟩
        | rt d => exact q'
        | bk ρ2 => exact q'
        | ct ρ2 => exact q'
    · cases h
end
end
end NT
/-! the interpreter is right: defs, laws -/
namespace NT
open PySem L2

/-- one def: its name, its text, its names in order, its parameters, its body in small -/
structure FI where
  nm : Str
  st : Stmt
  N : List Str
  ps : List Str
  body : Sts
def FI.dd (fi : FI) : He.DefD := ⟨(fi.nm, none), fi.nm, fi.nm, defArgs fi.st, defBody fi.st, defScope fi.st, [], []⟩
/-- what a law's text stands on -/
structure Prg where
  F : List FI
  G : List (Str × Cst)
def Prg.cx (P : Prg) (fi : FI) : Ctx := ⟨fi.N, defScope fi.st, fun _ => true, P.F.map (·.nm), P.G⟩
structure FI.Ok (P : Prg) (fi : FI) : Prop where
  sc : FnScope fi.N fi.ps (defScope fi.st)
  bd : ∀ (kV doc pm : Value) (an : Option Addr) (cdv ct : Value) (us : List Value), us.length = fi.ps.length → bindArgs (PySem.W.fnOf fi.nm fi.nm (defArgs fi.st) (defBody fi.st) (defScope fi.st) .none kV doc pm an cdv ct) ⟨us, []⟩ = pure (fi.ps.zip us)
  chk : chkSs (P.cx fi) fi.body (defBody fi.st) = true
def callR : RS → R D
  | .ok (.nx _) S => .ok .non S
  | .ok (.rt d) S => .ok d S
  | .exc c _ S => .exc c S
  | _ => .stuck
noncomputable def run (F : List FI) (wf : Nat) : Nat → Nat → List D → Sto → R D
  | 0, _, _, _ => .stuck
  | n + 1, f, ds, S => match F[f]? with
    | none => .stuck
    | some fi => if ds.length = fi.ps.length then callR (exs (run F wf n) wf fi.body (ds.map some ++ List.replicate (fi.N.length - ds.length) none) S) else .stuck
theorem run_len {F : List FI} {wf n f : Nat} {fi : FI} (h : F[f]? = some fi) {ds : List D} (S : Sto) (hl : ds.length ≠ fi.ps.length) : run F wf n f ds S = .stuck := by
  cases n with
  | zero => rfl
  | succ n =>
    show (match F[f]? with
    | none => .stuck
    | some fi => if ds.length = fi.ps.length then callR (exs (run F wf n) wf fi.body (ds.map some ++ List.replicate (fi.N.length - ds.length) none) S) else .stuck) = R.stuck
    rw [h]
    exact if_neg hl
theorem RepE.start {T : TW} {H : Hp} {α : List Addr} {ds : List D} {vs : List V} {N : List Str} (h : RepL T H α ds vs) : RepE T H α (ds.map some ++ List.replicate (N.length - ds.length) none) (L2.start N vs) := by
  have hl := RepL.length h
  refine ⟨by simp [L2.start, hl], fun i d q => ?_⟩
  by_cases hi : i < ds.length
  · rw [List.getElem?_append_left (by simpa using hi), List.getElem?_map] at q
    cases e : ds[i]? with
    | none => rw [e] at q; cases q
    | some d' =>
      rw [e] at q
      cases q
      obtain ⟨v, e1, e2⟩ := RepL.get h e
      refine ⟨v, ?_, e2⟩
      unfold L2.start
      rw [List.getElem?_append_left (by simpa [← hl] using hi), List.getElem?_map, e1]
      rfl
  · rw [List.getElem?_append_right (by simpa using hi)] at q
    rw [List.getElem?_replicate] at q
    split at q <;> cases q

section
variable {P : Program} {w : World} {K : PySem.W.Frag} {mg : Str → Option Value} {base : Heap}
/-! ### what the top has written -/
/-- the facts that a head is to tell -/
def fa0 (F : List FI) : List He.Fa := F.map (fun fi => He.Fa.glo fi.nm) ++ bnames.map He.Fa.free
def fn0 (F : List FI) : List He.DefD := F.map FI.dd
def cstB (K : PySem.W.Frag) (x : Str) : Cst → Bool
  | .int i => (He.Fa.int x i).ok K
  | .str z => (He.Fa.str x z).ok K
  | .tup is => (He.Fa.glo x).ok K && He.tupB K x (is.map He.Dv.int)
def topB (Pr : Prg) (K : PySem.W.Frag) : Bool := ((fa0 Pr.F).all fun f => f.ok K) && Pr.G.all fun g => cstB K g.1 g.2
/-- the hook: what is read of the head -/
def obsN (Pr : Prg) (K : PySem.W.Frag) : He.AlD := (topB Pr K && (fn0 Pr.F).all fun d => d.ok K, (fn0 Pr.F).map fun d => He.fnW K d.at_)
def obsNG (n : Nat) (Pr : Prg) (g : Addr → Option Obj) : He.AlD := obsN Pr (He.frG g (He.asD g n))
def SaysN (Pr : Prg) (K : PySem.W.Frag) : Prop := obsN Pr K = He.valD (fn0 Pr.F)
def hookN (n : Nat) (Pr : Prg) : PySem.W.Hook where
  α := He.AlD
  obs := fun s => obsNG n Pr s.heap.get?
  val := fun _ => He.valD (fn0 Pr.F)
  says := fun _ h => ∃ K : PySem.W.Frag, K.In h ∧ SaysN Pr K
  of := fun _ _ e => ⟨_, He.frG_in, e⟩
  keeps := fun _ _ _ ⟨K, hK, c⟩ k => ⟨K, PySem.W.Frag.In.keeps hK k, c⟩
theorem obsNG_eq {n : Nat} {Pr : Prg} {g : Addr → Option Obj} {s : Shared} (h : ∀ a, g a = s.heap.get? a) : obsNG n Pr g = (hookN n Pr).obs s := by
  have e : g = s.heap.get? := funext h
  rw [e] <;> rfl
theorem SaysN.top {Pr : Prg} (c : SaysN Pr K) : topB Pr K = true := (Bool.and_eq_true_iff.mp (show (topB Pr K && (fn0 Pr.F).all fun d => d.ok K) = true from congrArg (fun z : He.AlD => z.1) c)).1
theorem SaysN.fact {Pr : Prg} (c : SaysN Pr K) (i : Nat) {f : He.Fa} (h : (fa0 Pr.F)[i]? = some f) : f.ok K = true :=
  List.all_eq_true.mp (Bool.and_eq_true_iff.mp c.top).1 f (List.mem_of_getElem? h)
theorem SaysN.def_ {Pr : Prg} (c : SaysN Pr K) (i : Nat) {d : He.DefD} (h : (fn0 Pr.F)[i]? = some d) : ∃ fd, FunD K d.name d.qual d.params d.body d.scope (d.dvs K) (d.kws K) (He.fAd K d.at_) fd := by
  have c2 := (Bool.and_eq_true_iff.mp (show (topB Pr K && (fn0 Pr.F).all fun d => d.ok K) = true from congrArg (fun z : He.AlD => z.1) c)).2
  have e : (fn0 Pr.F).map (fun d => He.fnW K d.at_) = (fn0 Pr.F).map He.DefD.val := congrArg (fun z : He.AlD => z.2) c
  have e2 : ((fn0 Pr.F).map fun d => He.fnW K d.at_)[i]? = ((fn0 Pr.F).map He.DefD.val)[i]? := by rw [e]
  rw [List.getElem?_map, List.getElem?_map, h] at e2
  exact He.DefD.funD (Option.some.inj e2) (List.all_eq_true.mp c2 d (List.mem_of_getElem? h))
def tw0 (K : PySem.W.Frag) (F : List FI) : TW := { K := K, fa := fun i => match F[i]? with | some fi => He.ga K fi.nm | none => 0, ca := fun _ => 0 }
/-- what the top has written of the defs -/
structure Tops (T : TW) (mg : Str → Option Value) (Pr : Prg) : Prop where
  fn : ∀ (i : Nat) (fi : FI), Pr.F[i]? = some fi → fi.Ok Pr ∧ mg fi.nm = some (.ref (T.fa i)) ∧ ∃ fd, FunD T.K fi.nm fi.nm (defArgs fi.st) (defBody fi.st) (defScope fi.st) [] [] (T.fa i) fd
  bn : ∀ x ∈ bnames, mg x = none
  gls : ∀ x k, (x, k) ∈ Pr.G → ∃ v u, mg x = some u ∧ RelV v u ∧ ∀ (T' : TW) H α, T'.K = T.K → Rep T' H α k.d v
theorem relAll_T {T' : TW} {H : Hp} {α : List Addr} : ∀ is : List Int, RepL T' H α (is.map D.int) ((is.map He.Dv.int).map (He.Dv.v T'.K))
  | [] => rfl
  | i :: is => ⟨_, _, rfl, rfl, relAll_T is⟩
theorem wrT_of {x : Str} {vs : List He.Dv} (h : He.tupB K x vs = true) : WrT K (He.ga K x) (vs.map (He.Dv.v K)) := by
  unfold He.tupB at h
  split at h
  · rename_i c od its n osl q
    simp only [Bool.and_eq_true, decide_eq_true_eq] at h
    obtain ⟨h1, h2, h3⟩ := h
    subst h1
    exact ⟨_, its, n, q, rfl, rfl, h2, He.relAll_ok h3⟩
  · cases h
theorem cst_ok {h : Heap} {x : Str} {k : Cst} (X : K.In h) (G : h.Ns mainGlobals mg) (c : cstB K x k = true) : ∃ v u, mg x = some u ∧ RelV v u ∧ ∀ (T' : TW) H α, T'.K = K → Rep T' H α k.d v := by
  cases k with
  | int i =>
    obtain ⟨t, e⟩ := He.int_ok X G c
    exact ⟨.int i, _, e, ⟨t, rfl⟩, fun _ _ _ _ => rfl⟩
  | str z =>
    obtain ⟨t, e⟩ := He.str_ok X G c
    exact ⟨.str z, _, e, ⟨t, rfl⟩, fun _ _ _ _ => rfl⟩
  | tup is =>
    obtain ⟨c1, c2⟩ := Bool.and_eq_true_iff.mp (show ((He.Fa.glo x).ok K && He.tupB K x (is.map He.Dv.int)) = true from c)
    refine ⟨.ref (He.ga K x), _, He.glo_ok X G c1, rfl, fun T' H α hT => ?_⟩
    subst hT
    exact ⟨_, _, rfl, .inr (wrT_of c2), relAll_T is⟩
theorem tops_of {h : Heap} {Pr : Prg} (X : K.In h) (G : h.Ns mainGlobals mg) (ok : ∀ fi ∈ Pr.F, fi.Ok Pr) (c : SaysN Pr K) : Tops (tw0 K Pr.F) mg Pr := by
  refine ⟨fun i fi hi => ?_, fun x hx => ?_, fun x k hk => ?_⟩
  · have ei : (tw0 K Pr.F).fa i = He.ga K fi.nm := by
      show (match Pr.F[i]? with | some fi => He.ga K fi.nm | none => 0) = _
      rw [hi]
    have hlt : i < Pr.F.length := (List.getElem?_eq_some_iff.mp hi).1
    refine ⟨ok fi (List.mem_of_getElem? hi), ?_, ?_⟩
    · rw [ei]
      refine He.glo_ok X G (c.fact i (f := .glo fi.nm) ?_)
      unfold fa0
      rw [List.getElem?_append_left (by simpa using hlt), List.getElem?_map, hi]
      rfl
    · obtain ⟨fd, hfd⟩ := c.def_ i (d := fi.dd) (by unfold fn0; rw [List.getElem?_map, hi]; rfl)
      rw [ei]
      exact ⟨fd, hfd⟩
  · obtain ⟨j, hj⟩ := List.getElem?_of_mem hx
    refine He.free_ok X G (c.fact (Pr.F.length + j) (f := .free x) ?_)
    unfold fa0
    rw [List.getElem?_append_right (by simp), List.length_map, Nat.add_sub_cancel_left, List.getElem?_map, hj]
    rfl
  · exact cst_ok X G (List.all_eq_true.mp (Bool.and_eq_true_iff.mp c.top).2 (x, k) hk)
theorem fn_run {T : TW} {Pr : Prg} (wf : Nat) (tp : Tops T mg Pr) : ∀ (n i : Nat) (fi : FI) (fd : FuncData), Pr.F[i]? = some fi → FunD T.K fi.nm fi.nm (defArgs fi.st) (defBody fi.st) (defScope fi.st) [] [] (T.fa i) fd →
    FnOk P w T.K mg base (L2.CX P w) n (T.fa i) fd fi.ps (spI T fi.ps.length (run Pr.F wf n i)) := by
  intro n
  induction n with
  | zero =>
    intro i fi fd hi Fd
    exact ⟨fun vs H Q E h => h.1, fun A outer s H args us vs Q E hr e0 hb r hsp => by
      obtain ⟨_, Z, α, S, ds, _, _, q⟩ := hsp
      exact q.elim⟩
  | succ n ih =>
    intro i fi fd hi Fd
    obtain ⟨fok, hmg, _⟩ := tp.fn i fi hi
    refine Fd.ok fok.sc (fun vs H Q E h => h.1) (fun cdv A outer s H vs Q E hr h => ?_)
    obtain ⟨hlv, Z, α, S, ds, hh, rl, q⟩ := h
    have hld := RepL.length rl
    have g : GoodS T (run Pr.F wf n) (Pr.cx fi) (cxOf (L2.CX P w) P w T.K mg base fi.N fi.nm (defScope fi.st) (T.fa i) cdv A outer s H E) (fun cls d _ H => E cls d H) := by
      refine { N := rfl, nd := fok.sc.nd, sc := rfl, kind := fok.sc.kind, fnl := rfl, K := rfl, calm := rfl, room := ⟨n, hr, fun f x hf => ?_⟩, bn := fun x hx => tp.bn x hx, gls := tp.gls, tk := takes_of rfl rfl rfl rfl, po := passes_of rfl }
      rw [show (Pr.cx fi).fns = Pr.F.map (·.nm) from rfl, List.getElem?_map] at hf
      cases e : Pr.F[f]? with
      | none => rw [e] at hf; cases hf
      | some gi =>
        rw [e] at hf
        cases hf
        obtain ⟨gok, gmg, gd, G⟩ := tp.fn f gi e
        exact ⟨gd, gi.ps, gi.ps.length, gmg, G.kp, ih f gi gd e G, rfl, G.bindsN gok.bd, fun ds S hl => run_len e S hl⟩
    refine ⟨_, sndSs wf fi.body fok.chk g, Z, α, _, S, hh, RepE.start (N := fi.N) rl, ?_⟩
    have e : run Pr.F wf (n + 1) i ds S = callR (exs (run Pr.F wf n) wf fi.body (ds.map some ++ List.replicate (fi.N.length - ds.length) none) S) := by
      show (match Pr.F[i]? with
        | none => R.stuck
        | some fi => if ds.length = fi.ps.length then callR (exs (run Pr.F wf n) wf fi.body (ds.map some ++ List.replicate (fi.N.length - ds.length) none) S) else R.stuck) = _
      rw [hi]
      exact if_pos (hld.trans hlv)
    rw [e] at q
    cases hx : exs (run Pr.F wf n) wf fi.body (ds.map some ++ List.replicate (fi.N.length - ds.length) none) S with
    | stuck => rw [hx] at q; exact q.elim
    | exc c ρ S2 => rw [hx] at q; exact fun H' α' σ' e hr rr => q H' α' e hr
    | ok f S2 =>
      rw [hx] at q
      cases f with
      | nx ρ => exact fun H' α' σ' e hr rr => q H' α' e hr .non (by unfold Rep; rfl)
      | rt d => exact fun H' α' v e hr rr => q H' α' e hr v rr
      | bk ρ => exact q.elim
      | ct ρ => exact q.elim
end
/-- the law holds if the interpreter says so -/
theorem law_of {l : PySem.W.OpenLaw} {q : Program} {loose : List Str} {XP : (Str → Option Value) → Heap → Prop} {d : DefRec} {Pr : Prg} {n li : Nat} {lf : FI} {x : Str} {dep : Nat}
    (hn : l.most = some 63) (hdf : d.params.defaults = []) (hr : Room n callerA) (ok : ∀ fi ∈ Pr.F, fi.Ok Pr) (hl : Pr.F[li]? = some lf) (hx : lf.ps = [x]) (hnm : d.name = lf.nm)
    (hrun : ∀ ns : List Int, ns.length ≤ 63 → ∃ wf S, run Pr.F wf n li [.wl (ns.map .int)] [] = .ok (.bl true) S) :
    PySem.W.WalkO q loose XP (hookN dep Pr).says l.row.toRowW d [] (fun f vs => PySem.call f vs) := by
  refine Att.attach_call hn hdf fun w s₀ s₁ mg mb fa o pm cd doc a vs ns G Y ho hd hcd hmg hobj hints hlen hg => ?_
  obtain ⟨K, KX, c⟩ := Y
  have tp := tops_of (mg := mg) KX G.T.g ok c
  obtain ⟨lok, lmg, fd, hfd⟩ := tp.fn li lf hl
  have efa : fa = (tw0 K Pr.F).fa li := by
    rw [hnm, lmg] at hmg
    cases hmg
    rfl
  subst efa
  refine L2.law_call (sp := fun us H Q E => ∃ wf, spI (tw0 K Pr.F) lf.ps.length (run Pr.F wf n li) us H Q E) (CX := L2.CX l.prog w) (x := x) (fd := fd) KX G.T.g G.T.b G.T.builtins G.T.nolimit hg hobj hints (Nat.le_trans hlen (by decide)) hr (fun base hb hns => ?_) (fun s u => ?_) (fun H hO hS => ?_) (fun H e s' z => ?_)
  · have G1 := fun wf => fn_run (P := l.prog) (w := w) (base := base) wf tp n li lf fd hl hfd
    rw [hx] at G1
    exact ⟨fun us H Q E ⟨wf, h⟩ => (G1 wf).len us H Q E (by rw [hx] at h; exact h), fun A outer s H args us vs Q E hr e0 hb r ⟨wf, h⟩ => (G1 wf).run A outer s H args us vs Q E hr e0 hb r (by rw [hx] at h; exact h)⟩
  · have b := FunD.bindsA (ps := lf.ps) hfd lok.bd s [u] (by rw [hx]; rfl)
    rw [hx] at b
    exact b
  · obtain ⟨wf, S, e⟩ := hrun ns hlen
    refine ⟨wf, by rw [hx]; rfl, [], [], [], [.wl (ns.map .int)], ?_, ?_, ?_⟩
    · exact ⟨rfl, List.nodup_nil, fun i c e => by simp at e, fun a ha => absurd (show a ∈ ([] : List Addr) from ha) List.not_mem_nil⟩
    · refine ⟨_, _, rfl, ?_, rfl⟩
      exact ⟨a, _, rfl, hS.elim (fun h => .inl ⟨h, List.not_mem_nil, List.not_mem_nil⟩) .inr, RepL.of_ints ns⟩
    · rw [e]
      exact fun H' α' _ _ v hv => by
        cases hv
        rfl
  · obtain ⟨_, _, _, _, _, _, _, _, _, _, _, _, z⟩ := z
    exact z
end NT
/-! reading runs of the interpreter -/
namespace NT
open PySem

/-- it goes well, to Q -/
def R.To {A : Type} (r : R A) (Q : A → Sto → Prop) : Prop := ∃ a S, r = .ok a S ∧ Q a S
def RS.To (r : RS) (Q : Fl → Sto → Prop) : Prop := ∃ f S, r = .ok f S ∧ Q f S
section
variable {A B : Type} {S : Sto} {ρ : Env}
theorem R.To.ok {a : A} {Q : A → Sto → Prop} (h : Q a S) : (R.ok a S).To Q := ⟨a, S, rfl, h⟩
theorem RS.To.ok {f : Fl} {Q : Fl → Sto → Prop} (h : Q f S) : (RS.ok f S).To Q := ⟨f, S, rfl, h⟩
theorem R.To.bind {r : R A} {k : A → Sto → R B} {Q : B → Sto → Prop} {Q0 : A → Sto → Prop} (h : r.To Q0) (h2 : ∀ a S, Q0 a S → (k a S).To Q) : (r.bind k).To Q := by
  obtain ⟨a, S, rfl, h⟩ := h
  exact h2 a S h
theorem R.To.thn {r : R A} {k : A → Sto → RS} {Q : Fl → Sto → Prop} {Q0 : A → Sto → Prop} (h : r.To Q0) (h2 : ∀ a S, Q0 a S → (k a S).To Q) : (r.thn ρ k).To Q := by
  obtain ⟨a, S, rfl, h⟩ := h
  exact h2 a S h
theorem RS.To.seq {r : RS} {k : Env → Sto → RS} {Q : Fl → Sto → Prop} {Q0 : Fl → Sto → Prop} (h : r.To Q0) (h2 : ∀ ρ S, Q0 (.nx ρ) S → (k ρ S).To Q) (h3 : ∀ f S, Q0 f S → (∀ ρ, f ≠ .nx ρ) → Q f S) : (r.seq k).To Q := by
  obtain ⟨f, S, rfl, h⟩ := h
  cases f with
  | nx ρ => exact h2 ρ S h
  | rt d => exact ⟨_, _, rfl, h3 _ _ h (fun _ e => by cases e)⟩
  | bk ρ => exact ⟨_, _, rfl, h3 _ _ h (fun _ e => by cases e)⟩
  | ct ρ => exact ⟨_, _, rfl, h3 _ _ h (fun _ e => by cases e)⟩
theorem R.To.mono {r : R A} {Q Q' : A → Sto → Prop} (h : r.To Q) (k : ∀ a S, Q a S → Q' a S) : r.To Q' := by
  obtain ⟨a, S, e, h⟩ := h
  exact ⟨a, S, e, k a S h⟩
theorem RS.To.mono {r : RS} {Q Q' : Fl → Sto → Prop} (h : r.To Q) (k : ∀ a S, Q a S → Q' a S) : r.To Q' := by
  obtain ⟨a, S, e, h⟩ := h
  exact ⟨a, S, e, k a S h⟩
theorem R.bind_ok {a : A} {k : A → Sto → R B} : (R.ok a S).bind k = k a S := rfl
theorem R.thn_ok {a : A} {k : A → Sto → RS} : (R.ok a S).thn ρ k = k a S := rfl
theorem RS.seq_nx {k : Env → Sto → RS} : (RS.ok (.nx ρ) S).seq k = k ρ S := rfl
theorem RS.seq_rt {k : Env → Sto → RS} {d : D} : (RS.ok (.rt d) S).seq k = .ok (.rt d) S := rfl
theorem RS.seq_bk {k : Env → Sto → RS} : (RS.ok (.bk ρ) S).seq k = .ok (.bk ρ) S := rfl
theorem RS.seq_ct {k : Env → Sto → RS} : (RS.ok (.ct ρ) S).seq k = .ok (.ct ρ) S := rfl
theorem liftO_some {d : D} : liftO (some (d, S)) = .ok d S := rfl
end
theorem run_at {F : List FI} {wf n i : Nat} {fi : FI} (h : F[i]? = some fi) {ds : List D} (S : Sto) (hl : ds.length = fi.ps.length) :
    run F wf (n + 1) i ds S = callR (exs (run F wf n) wf fi.body (ds.map some ++ List.replicate (fi.N.length - ds.length) none) S) := by
  show (match F[i]? with
    | none => R.stuck
    | some fi => if ds.length = fi.ps.length then callR (exs (run F wf n) wf fi.body (ds.map some ++ List.replicate (fi.N.length - ds.length) none) S) else R.stuck) = _
  rw [h]
  exact if_pos hl
theorem callR_To {r : RS} {Q : D → Sto → Prop} (h : r.To fun f S => match f with | .nx _ => Q .non S | .rt d => Q d S | _ => False) : (callR r).To Q := by
  obtain ⟨f, S, rfl, h⟩ := h
  cases f with
  | nx ρ => exact ⟨_, _, rfl, h⟩
  | rt d => exact ⟨_, _, rfl, h⟩
  | bk ρ => exact h.elim
  | ct ρ => exact h.elim

/-! ### loops -/
theorem gok_nil {S : Sto} : gok [] S := fun p hp => by cases hp
theorem forD_nil_ok {gs : Gs} {body : D → Env → Sto → RS} {ρ : Env} {S : Sto} (h : gok gs S) : forD gs body [] ρ S = .ok (.nx ρ) S := by
  rw [forD_nil]; exact if_pos h
/-- a for: an invariant over what is left -/
theorem forD_To {gs : Gs} {body : D → Env → Sto → RS} {Q : Fl → Sto → Prop} (I : List D → Env → Sto → Prop) (hg : ∀ ds ρ S, I ds ρ S → gok gs S) (he : ∀ ρ S, I [] ρ S → Q (.nx ρ) S)
    (hs : ∀ d ds ρ S, I (d :: ds) ρ S → (body d ρ S).To fun f S' => match f with | .nx ρ' => I ds ρ' S' | .ct ρ' => I ds ρ' S' | .bk ρ' => Q (.nx ρ') S' | .rt v => Q (.rt v) S') :
    ∀ (ds : List D) (ρ : Env) (S : Sto), I ds ρ S → (forD gs body ds ρ S).To Q
  | [], ρ, S, h => by
    rw [forD_nil_ok (hg _ _ _ h)]
    exact .ok (he _ _ h)
  | d :: ds, ρ, S, h => by
    rw [forD_cons, if_pos (hg _ _ _ h)]
    obtain ⟨f, S', e, q⟩ := hs d ds ρ S h
    rw [e]
    cases f with
    | nx ρ' => exact forD_To I hg he hs ds ρ' S' q
    | ct ρ' => exact forD_To I hg he hs ds ρ' S' q
    | bk ρ' => exact .ok q
    | rt v => exact .ok q
/-- a comprehension that leaves the store alone -/
theorem lcD_pure {gs : Gs} {turn : D → Sto → R (Option D)} {S : Sto} (o : D → Option D) (hg : gok gs S) : ∀ (ds acc : List D), (∀ d ∈ ds, turn d S = .ok (o d) S) → lcD gs turn ds acc S = .ok (acc ++ ds.filterMap o) S
  | [], acc, _ => by
    rw [lcD_nil, if_pos hg]
    simp
  | d :: ds, acc, h => by
    rw [lcD_cons, if_pos hg, h d (List.mem_cons_self ..)]
    show lcD gs turn ds _ S = _
    rw [lcD_pure o hg ds _ fun d' hd => h d' (List.mem_cons_of_mem _ hd)]
    cases e : o d with
    | none => simp [List.filterMap_cons, e]
    | some y => simp [List.filterMap_cons, e]
/-- the same, over a list of things told as values -/
theorem lcD_map {A : Type} {gs : Gs} {turn : D → Sto → R (Option D)} {S : Sto} (g : A → D) (o : A → Option D) (hg : gok gs S) (xs : List A) (h : ∀ x ∈ xs, turn (g x) S = .ok (o x) S) : lcD gs turn (xs.map g) [] S = .ok (xs.filterMap o) S := by
  have key : ∀ (xs : List A) (acc : List D), (∀ x ∈ xs, turn (g x) S = .ok (o x) S) → lcD gs turn (xs.map g) acc S = .ok (acc ++ xs.filterMap o) S := by
    intro xs
    induction xs with
    | nil => intro acc _; rw [List.map_nil, lcD_nil, if_pos hg]; simp
    | cons x xs ih =>
      intro acc h
      rw [List.map_cons, lcD_cons, if_pos hg, h x (List.mem_cons_self ..)]
      show lcD gs turn (xs.map g) _ S = _
      rw [ih _ fun d' hd => h d' (List.mem_cons_of_mem _ hd)]
      cases e : o x with
      | none => simp [List.filterMap_cons, e]
      | some y => simp [List.filterMap_cons, e]
  simpa using key xs [] h
/-- a comprehension with an invariant -/
theorem lcD_To {gs : Gs} {turn : D → Sto → R (Option D)} {Q : List D → Sto → Prop} (I : List D → List D → Sto → Prop) (hg : ∀ ds acc S, I ds acc S → gok gs S) (he : ∀ acc S, I [] acc S → Q acc S)
    (hs : ∀ d ds acc S, I (d :: ds) acc S → (turn d S).To fun o S' => I ds (match o with | some y => acc ++ [y] | none => acc) S') :
    ∀ (ds acc : List D) (S : Sto), I ds acc S → (lcD gs turn ds acc S).To Q
  | [], acc, S, h => by
    rw [lcD_nil, if_pos (hg _ _ _ h)]
    exact .ok (he _ _ h)
  | d :: ds, acc, S, h => by
    rw [lcD_cons, if_pos (hg _ _ _ h)]
    obtain ⟨o, S', e, q⟩ := hs d ds acc S h
    rw [e]
    exact lcD_To I hg he hs ds _ S' q
end NT
/-! the operations, read -/
namespace NT
open PySem

/-! ### plain data -/
mutual
def pl : D → Bool
  | .non => true
  | .int _ => true
  | .str x => PyData.strOk x
  | .tup ds => plL ds
  | .lst ds => plL ds
  | _ => false
def plL : List D → Bool
  | [] => true
  | d :: ds => pl d && plL ds
end
mutual
def dep : D → Nat
  | .tup ds => depL ds + 1
  | .lst ds => depL ds + 1
  | .non => 0
  | .bl _ => 0
  | .int _ => 0
  | .str _ => 0
  | .wt _ => 0
  | .wl _ => 0
  | .ref _ => 0
  | .fn _ => 0
  | .ty _ => 0
def depL : List D → Nat
  | [] => 0
  | d :: ds => max (dep d) (depL ds)
end
mutual
theorem py_pl : ∀ d : D, pl d = true → ∃ p, d.py0 = some p ∧ p.canLay0 = true ∧ p.depth = dep d
  | .non, _ => ⟨.none, rfl, rfl, rfl⟩
  | .int i, _ => ⟨.int i, rfl, rfl, rfl⟩
  | .str x, h => ⟨.str x, rfl, by simpa [pl, PyData.canLay0] using h, rfl⟩
  | .tup ds, h => by
    obtain ⟨ps, e, h1, h2⟩ := py_plL ds (by simpa [pl] using h)
    exact ⟨.tuple ps, by simp [D.py0, e], by simpa [PyData.canLay0] using h1, by simp [PyData.depth, dep, h2]⟩
  | .lst ds, h => by
    obtain ⟨ps, e, h1, h2⟩ := py_plL ds (by simpa [pl] using h)
    exact ⟨.list ps, by simp [D.py0, e], by simpa [PyData.canLay0] using h1, by simp [PyData.depth, dep, h2]⟩
  | .bl _, h => by cases h
  | .wt _, h => by cases h
  | .wl _, h => by cases h
  | .ref _, h => by cases h
  | .fn _, h => by cases h
  | .ty _, h => by cases h
theorem py_plL : ∀ ds : List D, plL ds = true → ∃ ps, D.py0L ds = some ps ∧ PyData.canLayAll0 ps = true ∧ PyData.depthAll ps = depL ds
  | [], _ => ⟨[], rfl, rfl, rfl⟩
  | d :: ds, h => by
    simp only [plL, Bool.and_eq_true] at h
    obtain ⟨p, e1, h1, h2⟩ := py_pl d h.1
    obtain ⟨ps, e2, h3, h4⟩ := py_plL ds h.2
    exact ⟨p :: ps, by simp [D.py0L, e1, e2], by simp [PyData.canLayAll0, h1, h3], by simp [PyData.depthAll, depL, h2, h4]⟩
end
mutual
theorem eqv_pl : ∀ (a b : D) (p q : PyData), pl a = true → pl b = true → a.py0 = some p → b.py0 = some q → (PyData.eqv p q = true ↔ a = b)
  | .non, b, p, q, ha, hb, e1, e2 => by
    cases e1
    cases b <;> first | (cases hb; done) | (simp only [D.py0, Option.some.injEq, Option.map_eq_some_iff] at e2; first | (subst e2; simp [PyData.eqv]; done) | (obtain ⟨_, _, rfl⟩ := e2; simp [PyData.eqv]; done))
  | .int i, b, p, q, ha, hb, e1, e2 => by
    cases e1
    cases b <;> first | (cases hb; done) | (simp only [D.py0, Option.some.injEq, Option.map_eq_some_iff] at e2; first | (subst e2; simp [PyData.eqv]; done) | (obtain ⟨_, _, rfl⟩ := e2; simp [PyData.eqv]; done))
  | .str i, b, p, q, ha, hb, e1, e2 => by
    cases e1
    cases b <;> first | (cases hb; done) | (simp only [D.py0, Option.some.injEq, Option.map_eq_some_iff] at e2; first | (subst e2; simp [PyData.eqv]; done) | (obtain ⟨_, _, rfl⟩ := e2; simp [PyData.eqv]; done))
  | .tup as, b, p, q, ha, hb, e1, e2 => by
    simp only [D.py0, Option.map_eq_some_iff] at e1
    obtain ⟨ps, e1, rfl⟩ := e1
    cases b <;> first
      | (cases hb; done)
      | (rename_i bs
         simp only [D.py0, Option.map_eq_some_iff] at e2
         obtain ⟨qs, e2, rfl⟩ := e2
         have := eqv_plL as bs ps qs (by simpa [pl] using ha) (by simpa [pl] using hb) e1 e2
         simp [PyData.eqv, this]; done)
      | (simp only [D.py0, Option.some.injEq, Option.map_eq_some_iff] at e2; first | (subst e2; simp [PyData.eqv]; done) | (obtain ⟨_, _, rfl⟩ := e2; simp [PyData.eqv]; done))
  | .lst as, b, p, q, ha, hb, e1, e2 => by
    simp only [D.py0, Option.map_eq_some_iff] at e1
    obtain ⟨ps, e1, rfl⟩ := e1
    cases b <;> first
      | (cases hb; done)
      | (rename_i bs
         simp only [D.py0, Option.map_eq_some_iff] at e2
         obtain ⟨qs, e2, rfl⟩ := e2
         have := eqv_plL as bs ps qs (by simpa [pl] using ha) (by simpa [pl] using hb) e1 e2
         simp [PyData.eqv, this]; done)
      | (simp only [D.py0, Option.some.injEq, Option.map_eq_some_iff] at e2; first | (subst e2; simp [PyData.eqv]; done) | (obtain ⟨_, _, rfl⟩ := e2; simp [PyData.eqv]; done))
  | .bl _, _, _, _, h, _, _, _ => by cases h
  | .wt _, _, _, _, h, _, _, _ => by cases h
  | .wl _, _, _, _, h, _, _, _ => by cases h
  | .ref _, _, _, _, h, _, _, _ => by cases h
  | .fn _, _, _, _, h, _, _, _ => by cases h
  | .ty _, _, _, _, h, _, _, _ => by cases h
theorem eqv_plL : ∀ (as bs : List D) (ps qs : List PyData), plL as = true → plL bs = true → D.py0L as = some ps → D.py0L bs = some qs → (PyData.eqvAll ps qs = true ↔ as = bs)
  | [], [], ps, qs, _, _, e1, e2 => by cases e1; cases e2; simp [PyData.eqvAll]
  | [], b :: bs, ps, qs, _, hb, e1, e2 => by
    cases e1
    simp only [plL, Bool.and_eq_true] at hb
    obtain ⟨p, q1, _, _⟩ := py_pl b hb.1
    obtain ⟨ps, q2, _, _⟩ := py_plL bs hb.2
    simp only [D.py0L, q1, q2, Option.some.injEq] at e2
    subst e2
    simp [PyData.eqvAll]
  | a :: as, [], ps, qs, ha, _, e1, e2 => by
    cases e2
    simp only [plL, Bool.and_eq_true] at ha
    obtain ⟨p, q1, _, _⟩ := py_pl a ha.1
    obtain ⟨ps, q2, _, _⟩ := py_plL as ha.2
    simp only [D.py0L, q1, q2, Option.some.injEq] at e1
    subst e1
    simp [PyData.eqvAll]
  | a :: as, b :: bs, ps, qs, ha, hb, e1, e2 => by
    simp only [plL, Bool.and_eq_true] at ha hb
    obtain ⟨p, q1, _, _⟩ := py_pl a ha.1
    obtain ⟨ps, q2, _, _⟩ := py_plL as ha.2
    simp only [D.py0L, q1, q2, Option.some.injEq] at e1
    subst e1
    obtain ⟨p', r1, _, _⟩ := py_pl b hb.1
    obtain ⟨ps', r2, _, _⟩ := py_plL bs hb.2
    simp only [D.py0L, r1, r2, Option.some.injEq] at e2
    subst e2
    have h1 := eqv_pl a b p p' ha.1 hb.1 q1 r1
    have h2 := eqv_plL as bs ps ps' ha.2 hb.2 q2 r2
    simp [PyData.eqvAll, h1, h2]
end
theorem py_of_pl {S : Sto} {d : D} (h : pl d = true) : d.py S = d.py0 := by
  cases d <;> first | rfl | cases h
section
variable {S : Sto} {a b : D}
open Classical in
theorem eqD_pl (ha : pl a = true) (hb : pl b = true) (da : dep a ≤ 64) (db : dep b ≤ 64) : eqD S [a, b] = some (.bl (decide (a = b)), S) := by
  obtain ⟨p, e1, c1, d1⟩ := py_pl a ha
  obtain ⟨q', e2, c2, d2⟩ := py_pl b hb
  have h := eqv_pl a b p q' ha hb e1 e2
  unfold eqD
  simp only [py_of_pl ha, py_of_pl hb, e1, e2]
  rw [if_pos (by simp [SeqAt.shaped, c1, c2, d1, d2, da, db])]
  by_cases q : a = b
  · rw [h.mpr q, decide_eq_true q]
  · rw [decide_eq_false q]
    have : PyData.eqv p q' = false := by
      rw [Bool.eq_false_iff]
      exact fun z => q (h.mp z)
    rw [this]
open Classical in
theorem neD_pl (ha : pl a = true) (hb : pl b = true) (da : dep a ≤ 64) (db : dep b ≤ 64) : neD S [a, b] = some (.bl (!decide (a = b)), S) := by
  obtain ⟨p, e1, c1, d1⟩ := py_pl a ha
  obtain ⟨q', e2, c2, d2⟩ := py_pl b hb
  have h := eqv_pl a b p q' ha hb e1 e2
  unfold neD
  simp only [py_of_pl ha, py_of_pl hb, e1, e2]
  rw [if_pos (by simp [SeqAt.shaped, c1, c2, d1, d2, da, db])]
  by_cases q : a = b
  · rw [h.mpr q, decide_eq_true q]
  · rw [decide_eq_false q]
    have : PyData.eqv p q' = false := by
      rw [Bool.eq_false_iff]
      exact fun z => q (h.mp z)
    rw [this]
end
section
variable {S : Sto} {i j : Int}
theorem eqD_int : eqD S [.int i, .int j] = some (.bl (decide (i = j)), S) := by
  simp [eqD, D.py, D.py0, SeqAt.shaped, PyData.canLay0, PyData.depth, PyData.eqv]
  rfl
theorem neD_int : neD S [.int i, .int j] = some (.bl (!decide (i = j)), S) := by
  simp [neD, D.py, D.py0, SeqAt.shaped, PyData.canLay0, PyData.depth, PyData.eqv]
  rfl
theorem ordOk_int : ordOk (.int i) (.int j) = true := by simp [ordOk, PySem.W.alike, PyData.depth]
theorem ltD_int : Cop.f .lt S [.int i, .int j] = some (.bl (decide (i < j)), S) := by simp [Cop.f, ordD, D.py, D.py0, ordOk_int, PySem.W.dataLt_int]
theorem gtD_int : Cop.f .gt S [.int i, .int j] = some (.bl (decide (j < i)), S) := by simp [Cop.f, ordD, D.py, D.py0, ordOk_int, PySem.W.dataLt_int]
theorem leD_int : Cop.f .le S [.int i, .int j] = some (.bl (decide (i ≤ j)), S) := by
  have e : (!decide (j < i)) = decide (i ≤ j) := by by_cases h : i ≤ j <;> simp [h] <;> omega
  simp only [Cop.f, ordD, D.py, D.py0, ordOk_int, PySem.W.dataLt_int, if_true, e]
theorem geD_int : Cop.f .ge S [.int i, .int j] = some (.bl (decide (j ≤ i)), S) := by
  have e : (!decide (i < j)) = decide (j ≤ i) := by by_cases h : j ≤ i <;> simp [h] <;> omega
  simp only [Cop.f, ordD, D.py, D.py0, ordOk_int, PySem.W.dataLt_int, if_true, e]
end
theorem best4_max (a b c d : Int) : best4 (fun x m => decide (x > m)) a b c d = max (max (max a b) c) d := by
  simp only [best4, List.foldl, decide_eq_true_eq]
  omega

/-! ### sorting -/
theorem sortL_map {A : Type} (g : A → D) (le : A → A → Bool) (xs : List A) (h : ∀ a ∈ xs, ∀ b ∈ xs, le a b = PySem.W.dataLe false encD (g a) (g b)) : sortL (xs.map g) = (xs.mergeSort le).map g := by
  unfold sortL
  exact (PySem.W.sort_maps g h).symm
theorem sortL_int (ns : List Int) : sortL (ns.map D.int) = (ns.mergeSort fun a b => decide (a ≤ b)).map D.int := by
  refine sortL_map D.int _ ns fun a _ b _ => ?_
  have := congrFun (congrFun (PySem.W.dataLe_int (fun x : Int => x)) a) b
  exact this.symm
def pr (p : Int × Int) : D := .tup [.int p.1, .int p.2]
def prLe (p q : Int × Int) : Bool := decide (p.1 < q.1 ∨ (p.1 = q.1 ∧ p.2 ≤ q.2))
theorem sortL_pr (ns : List (Int × Int)) : sortL (ns.map pr) = (ns.mergeSort prLe).map pr := by
  refine sortL_map pr _ ns fun a _ b _ => ?_
  have := congrFun (congrFun (PySem.W.dataLe_ii (fun x : Int × Int => x.1) (fun x => x.2)) a) b
  exact this.symm
theorem py0L_int : ∀ ns : List Int, D.py0L (ns.map D.int) = some (ns.map PyData.int)
  | [] => rfl
  | n :: ns => by simp [D.py0L, D.py0, py0L_int ns]
theorem py0L_pr : ∀ ns : List (Int × Int), D.py0L (ns.map pr) = some (ns.map fun p => PyData.tuple [.int p.1, .int p.2])
  | [] => rfl
  | n :: ns => by simp [D.py0L, D.py0, py0L_pr ns, pr]
theorem sortOk_int (ns : List Int) : sortOk (ns.map PyData.int) = true := by
  simp [sortOk, PySem.W.alike, PyData.depth]
theorem sortOk_pr (ns : List (Int × Int)) : sortOk (ns.map fun p => PyData.tuple [.int p.1, .int p.2]) = true := by
  simp [sortOk, PySem.W.alike, PySem.W.alikeAll, PyData.depth, PyData.depthAll]
section
variable {S : Sto}
theorem sortedD_int {d : D} {ns : List Int} (h : itemsOf S d = some (ns.map D.int)) (hl : ns.length ≤ sizeLine) : sortedD S [d] = some (.lst ((ns.mergeSort fun a b => decide (a ≤ b)).map D.int), S) := by
  simp only [sortedD, h, py0L_int]
  rw [if_pos ⟨sortOk_int ns, by simpa using hl⟩, sortL_int]
theorem sortedD_pr {d : D} {ns : List (Int × Int)} (h : itemsOf S d = some (ns.map pr)) (hl : ns.length ≤ sizeLine) : sortedD S [d] = some (.lst ((ns.mergeSort prLe).map pr), S) := by
  simp only [sortedD, h, py0L_pr]
  rw [if_pos ⟨sortOk_pr ns, by simpa using hl⟩, sortL_pr]
/-! ### in -/
theorem canLay_ints : ∀ ns : List Int, PyData.canLayAll0 (ns.map PyData.int) = true
  | [] => rfl
  | n :: ns => by simp [PyData.canLayAll0, PyData.canLay0, canLay_ints ns]
theorem depth_ints : ∀ ns : List Int, PyData.depthAll (ns.map PyData.int) = 0
  | [] => rfl
  | n :: ns => by simp [PyData.depthAll, PyData.depth, depth_ints ns]
theorem inB_int {c : D} {b : Bool} {x : Int} {ns : List Int} (h0 : dGet S c (.int x) = none) (h : asSeq S c = some (b, ns.map D.int)) : inB S (.int x) c = some (decide (x ∈ ns)) := by
  have e : (ns.map PyData.int).any (fun z => PyData.eqv z (.int x)) = decide (x ∈ ns) := by
    rw [List.any_map]
    rw [Bool.eq_iff_iff]
    simp [PyData.eqv]
  simp only [inB, h0, h, D.py, D.py0, py0L_int]
  rw [if_pos (by simp [SeqAt.shaped, PyData.canLay0, PyData.depth, canLay_ints, depth_ints]), e]
end
end NT
/-! the interpreter, case by case (printed by gen_s.py) -/
namespace NT
open PySem L2
section
variable {cf : Nat → List D → Sto → R D} {wf : Nat}
def orR (x : D) (S1 : Sto) (k : R D) : R D := match x with
  | .bl true => .ok (.bl true) S1
  | .bl false => k
  | _ => .stuck
def andR (x : D) (S1 : Sto) (k : R D) : R D := match x with
  | .bl true => k
  | .bl false => .ok (.bl false) S1
  | _ => .stuck
@[simp] theorem e1_var {i : Nat} : ev2 cf (.var i) = plainE fun ρ S => match ρ[i]? with
    | some (some d) => .ok d S
    | _ => .stuck := by first | (rw [ev2]; done) | (rw [ev2]; rfl)
@[simp] theorem e1_lit {d : D} : ev2 cf (.lit d) = plainE fun _ S => .ok d S := by first | (rw [ev2]; done) | (rw [ev2]; rfl)
@[simp] theorem e1_ty {n : String} : ev2 cf (.ty n) = plainE fun _ S => .ok (.ty n) S := by first | (rw [ev2]; done) | (rw [ev2]; rfl)
@[simp] theorem e1_fn {i : Nat} : ev2 cf (.fn i) = plainE fun _ S => .ok (.fn i) S := by first | (rw [ev2]; done) | (rw [ev2]; rfl)
@[simp] theorem e1_bin {o : Bop} {a : E} {b : E} : ev2 cf (.bin o a b) = plainE fun ρ S => ((ev2 cf a).1 ρ S).bind fun x S1 => ((ev2 cf b).1 ρ S1).bind fun y S2 => liftO (o.f S2 [x, y]) := by first | (rw [ev2]; done) | (rw [ev2]; rfl)
@[simp] theorem e1_neg {a : E} : ev2 cf (.neg a) = plainE fun ρ S => ((ev2 cf a).1 ρ S).bind fun x S1 => match x with
    | .int i => .ok (.int (-i)) S1
    | _ => .stuck := by first | (rw [ev2]; done) | (rw [ev2]; rfl)
@[simp] theorem e1_cmp {o : Cop} {a : E} {b : E} : ev2 cf (.cmp o a b) = boolE fun ρ S => ((ev2 cf a).1 ρ S).bind fun x S1 => ((ev2 cf b).1 ρ S1).bind fun y S2 => liftO (o.f S2 [x, y]) := by first | (rw [ev2]; done) | (rw [ev2]; rfl)
@[simp] theorem e1_cmp2 {o : Cop} {p : Cop} {a : E} {b : E} {c : E} : ev2 cf (.cmp2 o p a b c) = boolE fun ρ S => ((ev2 cf a).1 ρ S).bind fun x S1 => ((ev2 cf b).1 ρ S1).bind fun y S2 => (liftO (o.f S2 [x, y])).bind fun z S3 => andR z S3 (((ev2 cf c).1 ρ S3).bind fun w S4 => liftO (p.f S4 [y, w])) := by rw [ev2]; rfl
@[simp] theorem e1_and {a : E} {b : E} : ev2 cf (.and a b) = (fun ρ S => ((ev2 cf a).1 ρ S).bind fun x S1 => andR x S1 ((ev2 cf b).1 ρ S1), fun ρ S => ((ev2 cf a).2 ρ S).bind fun t S1 => if t = true then (ev2 cf b).2 ρ S1 else .ok false S1) := by rw [ev2]; rfl
@[simp] theorem e1_or {a : E} {b : E} : ev2 cf (.or a b) = (fun ρ S => ((ev2 cf a).1 ρ S).bind fun x S1 => orR x S1 ((ev2 cf b).1 ρ S1), fun ρ S => ((ev2 cf a).2 ρ S).bind fun t S1 => if t = true then .ok true S1 else (ev2 cf b).2 ρ S1) := by rw [ev2]; rfl
@[simp] theorem e1_one {a : E} : ev2 cf (.one a) = ((ev2 cf a).1, (ev2 cf a).2) := by first | (rw [ev2]; done) | (rw [ev2]; rfl)
@[simp] theorem e1_not {a : E} : ev2 cf (.not a) = (fun ρ S => ((ev2 cf a).1 ρ S).bind fun x S1 => match x with
      | .bl b => .ok (.bl (!b)) S1
      | _ => .stuck,
    fun ρ S => ((ev2 cf a).2 ρ S).bind fun t S1 => .ok (!t) S1) := by first | (rw [ev2]; done) | (rw [ev2]; rfl)
@[simp] theorem e1_ite {c : E} {a : E} {b : E} : ev2 cf (.ite c a b) = (fun ρ S => ((ev2 cf c).2 ρ S).bind fun t S1 => if t = true then (ev2 cf a).1 ρ S1 else (ev2 cf b).1 ρ S1, fun _ _ => .stuck) := by first | (rw [ev2]; done) | (rw [ev2]; rfl)
@[simp] theorem e1_call {f : Nat} {es : Es} : ev2 cf (.call f es) = plainE fun ρ S => (evs cf es ρ S).bind fun ds S1 => cf f ds S1 := by first | (rw [ev2]; done) | (rw [ev2]; rfl)
@[simp] theorem e1_bi {b : Bi} {es : Es} : ev2 cf (.bi b es) = plainE fun ρ S => (evs cf es ρ S).bind fun ds S1 => liftO (b.f S1 ds) := by first | (rw [ev2]; done) | (rw [ev2]; rfl)
@[simp] theorem e1_bt {b : Bt} {es : Es} : ev2 cf (.bt b es) = plainE fun ρ S => (evs cf es ρ S).bind fun ds S1 => liftO (b.f S1 ds) := by first | (rw [ev2]; done) | (rw [ev2]; rfl)
@[simp] theorem e1_mth {m : Mth} {o : E} {es : Es} : ev2 cf (.mth m o es) = plainE fun ρ S => ((ev2 cf o).1 ρ S).bind fun x S1 => if m.ok S1 x = true then (evs cf es ρ S1).bind fun ds S2 => liftO (m.f S2 (x :: ds)) else .stuck := by first | (rw [ev2]; done) | (rw [ev2]; rfl)
@[simp] theorem e1_idx {a : E} {b : E} : ev2 cf (.idx a b) = plainE fun ρ S => ((ev2 cf a).1 ρ S).bind fun x S1 => ((ev2 cf b).1 ρ S1).bind fun y S2 => liftO (idxD S2 [x, y]) := by first | (rw [ev2]; done) | (rw [ev2]; rfl)
@[simp] theorem e1_slc {a : E} {lo : E} {hi : E} : ev2 cf (.slc a lo hi) = plainE fun ρ S => ((ev2 cf a).1 ρ S).bind fun x S1 =>
      (if lo.isNo = true then .ok none S1 else ((ev2 cf lo).1 ρ S1).bind fun y S2 => match y with | .int i => .ok (some i) S2 | _ => .stuck : R (Option Int)).bind fun l S2 =>
      (if hi.isNo = true then .ok none S2 else ((ev2 cf hi).1 ρ S2).bind fun y S3 => match y with | .int i => .ok (some i) S3 | _ => .stuck : R (Option Int)).bind fun h S3 => match slcF S3 x l h with
    | some r => .ok r S3
    | none => .stuck := by first | (rw [ev2]; done) | (rw [ev2]; rfl)
@[simp] theorem e1_rev {a : E} : ev2 cf (.rev a) = plainE fun ρ S => ((ev2 cf a).1 ρ S).bind fun x S1 => match turnD S1 x with
    | some r => .ok r S1
    | none => .stuck := by first | (rw [ev2]; done) | (rw [ev2]; rfl)
@[simp] theorem e1_glo {x : Str} {k : Cst} : ev2 cf (.glo x k) = plainE fun _ S => .ok k.d S := by first | (rw [ev2]; done) | (rw [ev2]; rfl)
@[simp] theorem e1_callL {i : Nat} {fs : List Nat} {es : Es} : ev2 cf (.callL i fs es) = plainE fun ρ S => match ρ[i]? with
    | some (some (.fn f)) => if f ∈ fs then (evs cf es ρ S).bind fun ds S1 => cf f ds S1 else .stuck
    | _ => .stuck := by first | (rw [ev2]; done) | (rw [ev2]; rfl)
@[simp] theorem e1_tup {es : Es} : ev2 cf (.tup es) = plainE fun ρ S => (evs cf es ρ S).bind fun ds S1 => if ds.length ≤ sizeLine then .ok (.tup ds) S1 else .stuck := by first | (rw [ev2]; done) | (rw [ev2]; rfl)
@[simp] theorem e1_lst {es : Es} : ev2 cf (.lst es) = plainE fun ρ S => (evs cf es ρ S).bind fun ds S1 => if ds.length ≤ sizeLine then .ok (.lst ds) S1 else .stuck := by first | (rw [ev2]; done) | (rw [ev2]; rfl)
@[simp] theorem e1_lstR {es : Es} : ev2 cf (.lstR es) = plainE fun ρ S => (evs cf es ρ S).bind fun ds S1 => if ds.length ≤ sizeLine then .ok (.ref S1.length) (S1 ++ [.lst ds]) else .stuck := by first | (rw [ev2]; done) | (rw [ev2]; rfl)
@[simp] theorem e1_dK  : ev2 cf .dK = plainE fun _ S => .ok (.ref S.length) (S ++ [.dK []]) := by first | (rw [ev2]; done) | (rw [ev2]; rfl)
@[simp] theorem e1_dT  : ev2 cf .dT = plainE fun _ S => .ok (.ref S.length) (S ++ [.dT []]) := by first | (rw [ev2]; done) | (rw [ev2]; rfl)
@[simp] theorem e1_comp {p : Pat} {it : It} {c : E} {elt : E} {own : List Nat} : ev2 cf (.comp p it c elt own) = plainE fun ρ S => (evIt cf it ρ S).bind fun ig S1 => if ig.1.length ≤ sizeLine then
      (lcD ig.2 (fun d S2 => match p.bnd d (wipeD ρ own) with
        | none => .stuck
        | some ρ' => (if c.isNo = true then .ok true S2 else (ev2 cf c).2 ρ' S2 : R Bool).bind fun t S3 => if t = true then ((ev2 cf elt).1 ρ' S3).bind fun y S4 => .ok (some y) S4 else .ok none S3) ig.1 [] S1).bind fun ds S2 => .ok (.lst ds) S2
    else .stuck := by first | (rw [ev2]; done) | (rw [ev2]; rfl)
@[simp] theorem es_nil  : evs cf .nil = fun _ S => .ok [] S := by first | (rw [evs]; done) | (rw [evs]; rfl)
@[simp] theorem es_cons {e : E} {es : Es} : evs cf (.cons e es) = fun ρ S => ((ev2 cf e).1 ρ S).bind fun d S1 => (evs cf es ρ S1).bind fun ds S2 => .ok (d :: ds) S2 := by first | (rw [evs]; done) | (rw [evs]; rfl)
@[simp] theorem ei_seq {e : E} : evIt cf (.seq e) = fun ρ S => ((ev2 cf e).1 ρ S).bind fun x S1 => match asSeq S1 x with
    | some (_, es) => .ok (es, gOf x es) S1
    | none => .stuck := by first | (rw [evIt]; done) | (rw [evIt]; rfl)
@[simp] theorem ei_range1 {a : E} : evIt cf (.range1 a) = fun ρ S => ((ev2 cf a).1 ρ S).bind fun x S1 => match x with
    | .int j => if -(2 ^ 62) ≤ j ∧ j < 2 ^ 62 then .ok (rngD 0 j.toNat, []) S1 else .stuck
    | _ => .stuck := by first | (rw [evIt]; done) | (rw [evIt]; rfl)
@[simp] theorem ei_range2 {a : E} {b : E} : evIt cf (.range2 a b) = fun ρ S => ((ev2 cf a).1 ρ S).bind fun x S1 => ((ev2 cf b).1 ρ S1).bind fun y S2 => match x, y with
    | .int i, .int j => if -(2 ^ 62) ≤ i ∧ i < 2 ^ 62 ∧ -(2 ^ 62) ≤ j ∧ j < 2 ^ 62 then .ok (rngD i (j - i).toNat, []) S2 else .stuck
    | _, _ => .stuck := by first | (rw [evIt]; done) | (rw [evIt]; rfl)
@[simp] theorem ei_zip {a : E} {b : E} : evIt cf (.zip a b) = fun ρ S => ((ev2 cf a).1 ρ S).bind fun x S1 => ((ev2 cf b).1 ρ S1).bind fun y S2 => match asSeq S2 x, asSeq S2 y with
    | some (k, xs), some (l, ys) => if k = l then .ok ((xs.zip ys).map fun p => .tup [p.1, p.2], gOf x xs ++ gOf y ys) S2 else .stuck
    | _, _ => .stuck := by first | (rw [evIt]; done) | (rw [evIt]; rfl)
theorem x1_asg {p : Pat} {e : E} : ex cf wf (.asg p e) = fun ρ S => (ev cf e ρ S).thn ρ fun d S1 => match p.bnd d ρ with
    | some ρ' => .ok (.nx ρ') S1
    | none => .stuck := by first | (rw [ex]; done) | (rw [ex]; rfl)
theorem x1_setI {o : E} {k : E} {v : E} : ex cf wf (.setI o k v) = fun ρ S => (ev cf v ρ S).thn ρ fun x S1 => (ev cf o ρ S1).thn ρ fun y S2 => (ev cf k ρ S2).thn ρ fun z S3 => match setS S3 y z x with
    | some S4 => .ok (.nx ρ) S4
    | none => .stuck := by first | (rw [ex]; done) | (rw [ex]; rfl)
theorem x1_exp {e : E} : ex cf wf (.exp e) = fun ρ S => (ev cf e ρ S).thn ρ fun _ S1 => .ok (.nx ρ) S1 := by first | (rw [ex]; done) | (rw [ex]; rfl)
theorem x1_ret {e : E} : ex cf wf (.ret e) = fun ρ S => (ev cf e ρ S).thn ρ fun d S1 => .ok (.rt d) S1 := by first | (rw [ex]; done) | (rw [ex]; rfl)
theorem x1_retN  : ex cf wf .retN = fun _ S => .ok (.rt .non) S := by first | (rw [ex]; done) | (rw [ex]; rfl)
theorem x1_ite {c : E} {a : Sts} {b : Sts} : ex cf wf (.ite c a b) = fun ρ S => (evT cf c ρ S).thn ρ fun t S1 => if t = true then exs cf wf a ρ S1 else exs cf wf b ρ S1 := by first | (rw [ex]; done) | (rw [ex]; rfl)
theorem x1_for_ {p : Pat} {it : It} {b : Sts} : ex cf wf (.for_ p it b) = fun ρ S => (evIt cf it ρ S).thn ρ fun ig S1 => forD ig.2 (fun d ρ1 S2 => match p.bnd d ρ1 with
    | some ρ2 => exs cf wf b ρ2 S2
    | none => .stuck) ig.1 ρ S1 := by first | (rw [ex]; done) | (rw [ex]; rfl)
theorem x1_while_ {c : E} {b : Sts} : ex cf wf (.while_ c b) = fun ρ S => whileD (evT cf c) (exs cf wf b) wf ρ S := by first | (rw [ex]; done) | (rw [ex]; rfl)
theorem x1_brk  : ex cf wf .brk = fun ρ S => .ok (.bk ρ) S := by first | (rw [ex]; done) | (rw [ex]; rfl)
theorem x1_cont  : ex cf wf .cont = fun ρ S => .ok (.ct ρ) S := by first | (rw [ex]; done) | (rw [ex]; rfl)
theorem x1_pass  : ex cf wf .pass = fun ρ S => .ok (.nx ρ) S := by first | (rw [ex]; done) | (rw [ex]; rfl)
theorem xs_nil  : exs cf wf .nil = fun ρ S => .ok (.nx ρ) S := by first | (rw [exs]; done) | (rw [exs]; rfl)
theorem xs_cons {s : NT.St} {r : Sts} : exs cf wf (.cons s r) = fun ρ S => (ex cf wf s ρ S).seq fun ρ' S' => exs cf wf r ρ' S' := by first | (rw [exs]; done) | (rw [exs]; rfl)
end
@[simp] theorem plain1 (m : Env → Sto → R D) : (plainE m).1 = m := rfl
@[simp] theorem plain2 (m : Env → Sto → R D) (ρ : Env) (S : Sto) : (plainE m).2 ρ S = (m ρ S).bind fun x S1 => match truB S1 x with
  | some b => .ok b S1
  | none => .stuck := rfl
@[simp] theorem bool1 (m : Env → Sto → R D) : (boolE m).1 = m := rfl
@[simp] theorem bool2 (m : Env → Sto → R D) (ρ : Env) (S : Sto) : (boolE m).2 ρ S = (m ρ S).bind fun x S1 => match x with
  | .bl b => .ok b S1
  | _ => .stuck := rfl
@[simp] theorem orR_tt {S : Sto} {k : R D} : orR (.bl true) S k = .ok (.bl true) S := rfl
@[simp] theorem orR_ff {S : Sto} {k : R D} : orR (.bl false) S k = k := rfl
@[simp] theorem orR_ok {S : Sto} {b c : Bool} : orR (.bl b) S (.ok (.bl c) S) = .ok (.bl (b || c)) S := by cases b <;> rfl
@[simp] theorem andR_tt {S : Sto} {k : R D} : andR (.bl true) S k = k := rfl
@[simp] theorem andR_ff {S : Sto} {k : R D} : andR (.bl false) S k = .ok (.bl false) S := rfl
@[simp] theorem andR_ok {S : Sto} {b c : Bool} : andR (.bl b) S (.ok (.bl c) S) = .ok (.bl (b && c)) S := by cases b <;> rfl
@[simp] theorem ite_orR {S : Sto} {p : Prop} [Decidable p] {c : Bool} : (if p then R.ok true S else R.ok c S) = R.ok (decide p || c) S := by by_cases h : p <;> simp [h]
@[simp] theorem ite_andR {S : Sto} {p : Prop} [Decidable p] {c : Bool} : (if p then R.ok c S else R.ok false S) = R.ok (decide p && c) S := by by_cases h : p <;> simp [h]
@[simp] theorem evT_eq (cf : Nat → List D → Sto → R D) (e : E) : evT cf e = (ev2 cf e).2 := rfl
@[simp] theorem ev_eq (cf : Nat → List D → Sto → R D) (e : E) : ev cf e = (ev2 cf e).1 := rfl
section
variable {A B : Type} {S : Sto} {ρ : Env}
@[simp] theorem rbind_ok {a : A} {k : A → Sto → R B} : (R.ok a S).bind k = k a S := rfl
@[simp] theorem rthn_ok {a : A} {k : A → Sto → RS} : (R.ok a S).thn ρ k = k a S := rfl
@[simp] theorem rseq_nx {k : Env → Sto → RS} : (RS.ok (.nx ρ) S).seq k = k ρ S := rfl
@[simp] theorem rseq_rt {k : Env → Sto → RS} {d : D} : (RS.ok (.rt d) S).seq k = .ok (.rt d) S := rfl
@[simp] theorem rseq_bk {k : Env → Sto → RS} : (RS.ok (.bk ρ) S).seq k = .ok (.bk ρ) S := rfl
@[simp] theorem rseq_ct {k : Env → Sto → RS} : (RS.ok (.ct ρ) S).seq k = .ok (.ct ρ) S := rfl
@[simp] theorem lift_some {d : D} : liftO (some (d, S)) = .ok d S := rfl
@[simp] theorem callR_rt {d : D} : callR (.ok (.rt d) S) = .ok d S := rfl
@[simp] theorem callR_nx : callR (.ok (.nx ρ) S) = .ok .non S := rfl
end
@[simp] theorem bop_add : Bop.f .add = addD := rfl
@[simp] theorem bop_sub : Bop.f .sub = subD := rfl
@[simp] theorem bop_mul : Bop.f .mul = mulD := rfl
@[simp] theorem bop_mod : Bop.f .mod = modD := rfl
@[simp] theorem bop_fdiv : Bop.f .fdiv = fdivD := rfl
@[simp] theorem cop_eq : Cop.f .eq = eqD := rfl
@[simp] theorem cop_ne : Cop.f .ne = neD := rfl
@[simp] theorem cop_is : Cop.f .is = isD := rfl
@[simp] theorem cop_isnot : Cop.f .isnot = isnotD := rfl
@[simp] theorem cop_mem : Cop.f .mem = inG fun b => b := rfl
@[simp] theorem cop_nmem : Cop.f .nmem = inG fun b => !b := rfl
@[simp] theorem bi_len : Bi.f .len = lenD := rfl
@[simp] theorem bi_abs : Bi.f .abs = absD := rfl
@[simp] theorem bi_max : Bi.f .max = maxD := rfl
@[simp] theorem bi_min : Bi.f .min = minD := rfl
@[simp] theorem bi_all : Bi.f .all = allD := rfl
@[simp] theorem bi_any : Bi.f .any = anyD := rfl
@[simp] theorem bi_sum : Bi.f .sum = sumD := rfl
@[simp] theorem bi_sorted : Bi.f .sorted = sortedD := rfl
@[simp] theorem bi_isi : Bi.f .isi = isiD := rfl
@[simp] theorem bt_tuple : Bt.f .tuple = tupleD := rfl
@[simp] theorem bt_list : Bt.f .list = listD := rfl
@[simp] theorem bt_int : Bt.f .int = intD := rfl
@[simp] theorem mth_append : Mth.f .append = appendD := rfl
@[simp] theorem mth_extend : Mth.f .extend = extendD := rfl
@[simp] theorem mth_popL : Mth.f .popL = popLD := rfl
@[simp] theorem mth_dget : Mth.f .dget = dgetD := rfl
@[simp] theorem mth_dpop : Mth.f .dpop = dpopD := rfl
section
variable {S : Sto} {ds es : List D} {i j : Int}
@[simp] theorem idx_tup : idxD S [.tup ds, .int i] = (atI ds i).map fun e => (e, S) := rfl
@[simp] theorem idx_lst : idxD S [.lst ds, .int i] = (atI ds i).map fun e => (e, S) := rfl
@[simp] theorem idx_wl : idxD S [.wl ds, .int i] = (atI ds i).map fun e => (e, S) := rfl
@[simp] theorem add_int : addD S [.int i, .int j] = some (.int (i + j), S) := rfl
@[simp] theorem sub_int : subD S [.int i, .int j] = some (.int (i - j), S) := rfl
@[simp] theorem abs_int : absD S [.int i] = some (.int (if i < 0 then -i else i), S) := rfl
@[simp] theorem max_int : maxD S [.int i, .int j] = some (.int (if j > i then j else i), S) := rfl
@[simp] theorem min_int : minD S [.int i, .int j] = some (.int (if j < i then j else i), S) := rfl
@[simp] theorem max_int4 {a b c d : Int} : maxD S [.int a, .int b, .int c, .int d] = some (.int (max (max (max a b) c) d), S) := by
  show some (D.int (best4 (fun x m => decide (x > m)) a b c d), S) = _
  rw [best4_max]
@[simp] theorem eq_int' : eqD S [.int i, .int j] = some (.bl (decide (i = j)), S) := eqD_int
@[simp] theorem ne_int' : neD S [.int i, .int j] = some (.bl (!decide (i = j)), S) := neD_int
@[simp] theorem lt_int' : Cop.f .lt S [.int i, .int j] = some (.bl (decide (i < j)), S) := ltD_int
@[simp] theorem gt_int' : Cop.f .gt S [.int i, .int j] = some (.bl (decide (j < i)), S) := gtD_int
@[simp] theorem le_int' : Cop.f .le S [.int i, .int j] = some (.bl (decide (i ≤ j)), S) := leD_int
@[simp] theorem ge_int' : Cop.f .ge S [.int i, .int j] = some (.bl (decide (j ≤ i)), S) := geD_int
@[simp] theorem tuple_lst : tupleD S [.lst ds] = some (.tup ds, S) := rfl
@[simp] theorem tuple_tup : tupleD S [.tup ds] = some (.tup ds, S) := rfl
@[simp] theorem list_tup : listD S [.tup ds] = some (.lst ds, S) := rfl
@[simp] theorem list_lst : listD S [.lst ds] = some (.lst ds, S) := rfl
@[simp] theorem int_int : intD S [.int i] = some (.int i, S) := rfl
@[simp] theorem int_bl {b : Bool} : intD S [.bl b] = some (.int (if b then 1 else 0), S) := rfl
@[simp] theorem len_tup : lenD S [.tup ds] = some (.int ds.length, S) := rfl
@[simp] theorem len_lst : lenD S [.lst ds] = some (.int ds.length, S) := rfl
@[simp] theorem len_wl : lenD S [.wl ds] = some (.int ds.length, S) := rfl
@[simp] theorem is_non {d : D} : isD S [d, .non] = some (.bl d.isN, S) := rfl
@[simp] theorem isnot_non {d : D} : isnotD S [d, .non] = some (.bl (!d.isN), S) := rfl
@[simp] theorem isN_non : D.isN .non = true := rfl
@[simp] theorem isN_int : D.isN (.int i) = false := rfl
@[simp] theorem isN_tup : D.isN (.tup ds) = false := rfl
@[simp] theorem isN_bl {b : Bool} : D.isN (.bl b) = false := rfl
@[simp] theorem isN_str {x : PySem.Str} : D.isN (.str x) = false := rfl
@[simp] theorem isN_lst : D.isN (.lst ds) = false := rfl
@[simp] theorem tru_bl {b : Bool} : truB S (.bl b) = some b := rfl
@[simp] theorem tru_int : truB S (.int i) = some (i != 0) := rfl
@[simp] theorem tru_non : truB S .non = some false := rfl
@[simp] theorem tru_tup : truB S (.tup ds) = some (!ds.isEmpty) := rfl
@[simp] theorem tru_lst : truB S (.lst ds) = some (!ds.isEmpty) := rfl
@[simp] theorem tru_wl : truB S (.wl ds) = some (!ds.isEmpty) := rfl
@[simp] theorem bnd_nm {p : Nat} {d : D} {ρ : Env} : (Pat.nm p).bnd d ρ = some (ρ.set p (some d)) := rfl
@[simp] theorem bnd_tp {is : List Nat} {ρ : Env} : (Pat.tp is).bnd (.tup ds) ρ = setAll is ds ρ := rfl
@[simp] theorem bnd_tl {is : List Nat} {ρ : Env} : (Pat.tl is).bnd (.lst ds) ρ = setAll is ds ρ := rfl
@[simp] theorem bnd_tn {ps : List (Nat ⊕ List Nat)} {ρ : Env} : (Pat.tn ps).bnd (.tup ds) ρ = set2 ps ds ρ := rfl
@[simp] theorem set2_nil {ρ : Env} : set2 [] [] ρ = some ρ := rfl
@[simp] theorem set2_inl {p : Nat} {ps : List (Nat ⊕ List Nat)} {d : D} {ρ : Env} : set2 (.inl p :: ps) (d :: ds) ρ = set2 ps ds (ρ.set p (some d)) := rfl
@[simp] theorem set2_inr {is : List Nat} {ps : List (Nat ⊕ List Nat)} {ρ : Env} : set2 (.inr is :: ps) (.tup es :: ds) ρ = (setAll is es ρ).bind (set2 ps ds) := rfl
@[simp] theorem turn_tup : turnD S (.tup ds) = some (.tup ds.reverse) := rfl
@[simp] theorem turn_lst : turnD S (.lst ds) = some (.lst ds.reverse) := rfl
@[simp] theorem cst_int {i : Int} : (Cst.int i).d = .int i := rfl
@[simp] theorem cst_str {x : PySem.Str} : (Cst.str x).d = .str x := rfl
@[simp] theorem bt_dict : Bt.f .dict = dictD := rfl
@[simp] theorem setAll_nil {ρ : Env} : setAll [] [] ρ = some ρ := rfl
@[simp] theorem setAll_cons {p : Nat} {is : List Nat} {d : D} {ρ : Env} : setAll (p :: is) (d :: ds) ρ = setAll is ds (ρ.set p (some d)) := rfl
@[simp] theorem asSeq_tup : asSeq S (.tup ds) = some (false, ds) := rfl
@[simp] theorem asSeq_lst : asSeq S (.lst ds) = some (true, ds) := rfl
@[simp] theorem asSeq_wl : asSeq S (.wl ds) = some (true, ds) := rfl
@[simp] theorem gOf_tup : gOf (.tup ds) es = [] := rfl
@[simp] theorem gOf_lst : gOf (.lst ds) es = [] := rfl
@[simp] theorem gOf_wl : gOf (.wl ds) es = [] := rfl
@[simp] theorem gOf_ref {i : Nat} : gOf (.ref i) es = [(i, es)] := rfl
@[simp] theorem at_0 {a : D} : atI (a :: ds) 0 = some a := by rw [atI]; simp [ixN]
@[simp] theorem at_1 {a b : D} : atI (a :: b :: ds) 1 = some b := by
  simp only [atI, ixN, List.length_cons]
  rw [if_pos (by decide), if_pos (by omega)]
  rfl
@[simp] theorem at_2 {a b c : D} : atI (a :: b :: c :: ds) 2 = some c := by
  simp only [atI, ixN, List.length_cons]
  rw [if_pos (by decide), if_pos (by omega)]
  rfl
@[simp] theorem at_3 {a b c d : D} : atI (a :: b :: c :: d :: ds) 3 = some d := by
  simp only [atI, ixN, List.length_cons]
  rw [if_pos (by decide), if_pos (by omega)]
  rfl
@[simp] theorem szE : sizeLine = 16777216 := sizeLine_eq
@[simp] theorem wipe_nil {ρ : Env} : wipeD ρ [] = ρ := rfl
@[simp] theorem wipe_cons {ρ : Env} {v : Nat} {vs : List Nat} : wipeD ρ (v :: vs) = (wipeD ρ vs).set v none := rfl
end

/-! ### the town: how many draws are left, what stays -/
def Tn (k : Nat) (S : Sto) : Prop := ∃ zs, S[0]? = some (.lst zs) ∧ zs.length + k < 16777216
structure Go (c : Nat) (S S' : Sto) : Prop where
  len : S.length ≤ S'.length
  old : ∀ i, i ≠ 0 → i < S.length → S'[i]? = S[i]?
  town : ∀ k, Tn (c + k) S → Tn k S'
theorem Tn.mono {k l : Nat} {S : Sto} (h : Tn k S) (q : l ≤ k) : Tn l S := by
  obtain ⟨zs, e, h⟩ := h
  exact ⟨zs, e, by omega⟩
theorem Go.refl (S : Sto) : Go 0 S S := ⟨Nat.le_refl _, fun _ _ _ => rfl, fun k h => h.mono (by omega)⟩
theorem Go.trans {c d : Nat} {S S' S'' : Sto} (h : Go c S S') (h' : Go d S' S'') : Go (c + d) S S'' :=
  ⟨Nat.le_trans h.len h'.len, fun i h0 hi => (h'.old i h0 (Nat.lt_of_lt_of_le hi h.len)).trans (h.old i h0 hi), fun k t => h'.town k (h.town (d + k) (t.mono (by omega)))⟩
theorem Go.mono {c d : Nat} {S S' : Sto} (h : Go c S S') (q : c ≤ d) : Go d S S' := ⟨h.len, h.old, fun k t => h.town k (t.mono (by omega))⟩
/-- a cell laid behind the others -/
theorem Go.push {S : Sto} (c : Cell) (h : 0 < S.length) : Go 0 S (S ++ [c]) := by
  refine ⟨by simp, fun i _ hi => by rw [List.getElem?_append_left hi], fun k t => ?_⟩
  obtain ⟨zs, e, q⟩ := t
  exact ⟨zs, by rw [List.getElem?_append_left h]; exact e, by omega⟩
theorem Tn.pos {k : Nat} {S : Sto} (h : Tn k S) : 0 < S.length := by
  obtain ⟨zs, e, _⟩ := h
  exact (List.getElem?_eq_some_iff.mp e).1
/-- a cell that is no town's, written, behind where one looks -/
theorem Go.set {S : Sto} {i : Nat} (c : Cell) (S0 : Sto) {k : Nat} (h : Go k S0 S) (hi : S0.length ≤ i) (h0 : i ≠ 0) : Go k S0 (S.set i c) := by
  refine ⟨by simpa using h.len, fun j hj hl => ?_, fun l t => ?_⟩
  · rw [List.getElem?_set_ne (by omega)]
    exact h.old j hj hl
  · obtain ⟨zs, e, q⟩ := h.town l t
    exact ⟨zs, by rw [List.getElem?_set_ne h0]; exact e, q⟩
theorem fmod_rng {a b : Int} (h : 0 < b) : 0 ≤ a.fmod b ∧ a.fmod b < b := ⟨Int.fmod_nonneg_of_pos a h, Int.fmod_lt_of_pos a h⟩
theorem at_in {α : Type} {xs : List α} {i : Int} (h0 : 0 ≤ i) (h : i < xs.length) : atI xs i = xs[i.toNat]? := by
  unfold atI ixN
  rw [if_pos h0, if_pos h]
  rfl
@[simp] theorem mod_int {S : Sto} {i j : Int} : modD S [.int i, .int j] = if j ≠ 0 then some (.int (i.fmod j), S) else none := rfl
@[simp] theorem mul_int {S : Sto} {i j : Int} : mulD S [.int i, .int j] = if CMul i j then some (.int (i * j), S) else none := rfl
@[simp] theorem fdiv_int {S : Sto} {i j : Int} : fdivD S [.int i, .int j] = if CDivN i j then some (.int (i.fdiv j), S) else none := rfl
theorem cmulL {i j : Int} (h : -18446744073709551616 < i) (h' : i < 18446744073709551616) : CMul i j := .inl ⟨by omega, by omega⟩
theorem cmulR {i j : Int} (h : -18446744073709551616 < j) (h' : j < 18446744073709551616) : CMul i j := .inr ⟨by omega, by omega⟩
/-- the script, asked at a place that it has -/
theorem script_at (ns : List Int) (h : ns ≠ []) (k : Int) : ∃ x, atI (ns.map D.int) (k.fmod ns.length) = some (.int x) := by
  have hp : 0 < ns.length := List.length_pos_iff.mpr h
  have hr := fmod_rng (a := k) (b := ns.length) (by omega)
  rw [at_in hr.1 (by simpa using hr.2), List.getElem?_map]
  have : (k.fmod ns.length).toNat < ns.length := by omega
  rw [List.getElem?_eq_getElem this]
  exact ⟨_, rfl⟩
@[simp] theorem isNo_no  : E.isNo (.no) = true := rfl
@[simp] theorem isNo_var {i : Nat} : E.isNo (.var i) = false := rfl
@[simp] theorem isNo_lit {d : D} : E.isNo (.lit d) = false := rfl
@[simp] theorem isNo_ty {n : String} : E.isNo (.ty n) = false := rfl
@[simp] theorem isNo_fn {i : Nat} : E.isNo (.fn i) = false := rfl
@[simp] theorem isNo_bin {o : Bop} {a b : E} : E.isNo (.bin o a b) = false := rfl
@[simp] theorem isNo_neg {a : E} : E.isNo (.neg a) = false := rfl
@[simp] theorem isNo_cmp {o : Cop} {a b : E} : E.isNo (.cmp o a b) = false := rfl
@[simp] theorem isNo_cmp2 {o p : Cop} {a b c : E} : E.isNo (.cmp2 o p a b c) = false := rfl
@[simp] theorem isNo_and {a b : E} : E.isNo (.and a b) = false := rfl
@[simp] theorem isNo_or {a b : E} : E.isNo (.or a b) = false := rfl
@[simp] theorem isNo_one {a : E} : E.isNo (.one a) = false := rfl
@[simp] theorem isNo_not {a : E} : E.isNo (.not a) = false := rfl
@[simp] theorem isNo_ite {a b c : E} : E.isNo (.ite a b c) = false := rfl
@[simp] theorem isNo_call {f : Nat} {es : Es} : E.isNo (.call f es) = false := rfl
@[simp] theorem isNo_bi {b : Bi} {es : Es} : E.isNo (.bi b es) = false := rfl
@[simp] theorem isNo_bt {b : Bt} {es : Es} : E.isNo (.bt b es) = false := rfl
@[simp] theorem isNo_mth {m : Mth} {o : E} {es : Es} : E.isNo (.mth m o es) = false := rfl
@[simp] theorem isNo_idx {a b : E} : E.isNo (.idx a b) = false := rfl
@[simp] theorem isNo_slc {a b c : E} : E.isNo (.slc a b c) = false := rfl
@[simp] theorem isNo_rev {a : E} : E.isNo (.rev a) = false := rfl
@[simp] theorem isNo_glo {x : PySem.Str} {k : Cst} : E.isNo (.glo x k) = false := rfl
@[simp] theorem isNo_callL {i : Nat} {fs : List Nat} {es : Es} : E.isNo (.callL i fs es) = false := rfl
@[simp] theorem isNo_tup {es : Es} : E.isNo (.tup es) = false := rfl
@[simp] theorem isNo_lst {es : Es} : E.isNo (.lst es) = false := rfl
end NT
/-! statements, read one by one -/
namespace NT
open PySem
def Sts.app : Sts → Sts → Sts
  | .nil, r => r
  | .cons s a, r => .cons s (a.app r)
@[simp] theorem app_nil (r : Sts) : Sts.nil.app r = r := rfl
@[simp] theorem app_cons (s : NT.St) (a r : Sts) : (Sts.cons s a).app r = .cons s (a.app r) := rfl
section
variable {cf : Nat → List D → Sto → R D} {wf : Nat} {S : Sto} {ρ : Env} {Q : Fl → Sto → Prop} {r : Sts}
theorem RS.seq_seq (x : RS) (k k' : Env → Sto → RS) : (x.seq k).seq k' = x.seq fun ρ S => (k ρ S).seq k' := by
  cases x with
  | ok f S => cases f <;> rfl
  | exc c ρ S => rfl
  | stuck => rfl
theorem exs_app : ∀ (a r : Sts) (ρ : Env) (S : Sto), exs cf wf (a.app r) ρ S = (exs cf wf a ρ S).seq (exs cf wf r)
  | .nil, r, ρ, S => by rw [xs_nil]; rfl
  | .cons s a, r, ρ, S => by
    rw [app_cons, xs_cons, xs_cons]
    show _ = ((ex cf wf s ρ S).seq fun ρ' S' => exs cf wf a ρ' S').seq (exs cf wf r)
    rw [RS.seq_seq]
    have : (fun ρ' S' => exs cf wf (a.app r) ρ' S') = fun ρ S => (exs cf wf a ρ S).seq (exs cf wf r) := funext fun ρ' => funext fun S' => exs_app a r ρ' S'
    show (ex cf wf s ρ S).seq (fun ρ' S' => exs cf wf (a.app r) ρ' S') = _
    rw [this]
@[simp] theorem To_ok {A : Type} {a : A} {Q : A → Sto → Prop} : (R.ok a S).To Q ↔ Q a S := ⟨fun ⟨_, _, e, h⟩ => by cases e; exact h, fun h => ⟨_, _, rfl, h⟩⟩
theorem to_nil (h : Q (.nx ρ) S) : (exs cf wf .nil ρ S).To Q := by
  rw [xs_nil]
  exact .ok h
theorem to_asg {p : Pat} {e : E} (h : ((ev2 cf e).1 ρ S).To fun d S1 => ∃ ρ', p.bnd d ρ = some ρ' ∧ (exs cf wf r ρ' S1).To Q) : (exs cf wf (.cons (.asg p e) r) ρ S).To Q := by
  obtain ⟨d, S1, e1, ρ', e2, h⟩ := h
  rw [xs_cons, x1_asg]
  show (((ev2 cf e).1 ρ S).thn ρ _ |>.seq _).To Q
  rw [e1]
  simp only [rthn_ok, e2, rseq_nx]
  exact h
theorem to_nm {i : Nat} {e : E} (h : ((ev2 cf e).1 ρ S).To fun d S1 => (exs cf wf r (ρ.set i (some d)) S1).To Q) : (exs cf wf (.cons (.asg (.nm i) e) r) ρ S).To Q :=
  to_asg (h.mono fun d S1 h => ⟨_, rfl, h⟩)
theorem to_exp {e : E} (h : ((ev2 cf e).1 ρ S).To fun _ S1 => (exs cf wf r ρ S1).To Q) : (exs cf wf (.cons (.exp e) r) ρ S).To Q := by
  obtain ⟨d, S1, e1, h⟩ := h
  rw [xs_cons, x1_exp]
  show (((ev2 cf e).1 ρ S).thn ρ _ |>.seq _).To Q
  rw [e1]
  exact h
theorem to_setI {o k v : E} (h : ((ev2 cf v).1 ρ S).To fun x S1 => ((ev2 cf o).1 ρ S1).To fun y S2 => ((ev2 cf k).1 ρ S2).To fun z S3 => ∃ S4, setS S3 y z x = some S4 ∧ (exs cf wf r ρ S4).To Q) : (exs cf wf (.cons (.setI o k v) r) ρ S).To Q := by
  obtain ⟨x, S1, e1, y, S2, e2, z, S3, e3, S4, e4, h⟩ := h
  rw [xs_cons, x1_setI]
  show (((ev2 cf v).1 ρ S).thn ρ _ |>.seq _).To Q
  rw [e1, rthn_ok]
  show (((ev2 cf o).1 ρ S1).thn ρ _ |>.seq _).To Q
  rw [e2, rthn_ok]
  show (((ev2 cf k).1 ρ S2).thn ρ _ |>.seq _).To Q
  rw [e3, rthn_ok]
  simp only [e4, rseq_nx]
  exact h
theorem to_ret {e : E} (h : ((ev2 cf e).1 ρ S).To fun d S1 => Q (.rt d) S1) : (exs cf wf (.cons (.ret e) r) ρ S).To Q := by
  obtain ⟨d, S1, e1, h⟩ := h
  rw [xs_cons, x1_ret]
  show (((ev2 cf e).1 ρ S).thn ρ _ |>.seq _).To Q
  rw [e1]
  exact .ok h
theorem to_retN (h : Q (.rt .non) S) : (exs cf wf (.cons .retN r) ρ S).To Q := by
  rw [xs_cons, x1_retN]
  exact .ok h
theorem to_brk (h : Q (.bk ρ) S) : (exs cf wf (.cons .brk r) ρ S).To Q := by
  rw [xs_cons, x1_brk]
  exact .ok h
theorem to_cont (h : Q (.ct ρ) S) : (exs cf wf (.cons .cont r) ρ S).To Q := by
  rw [xs_cons, x1_cont]
  exact .ok h
theorem to_pass (h : (exs cf wf r ρ S).To Q) : (exs cf wf (.cons .pass r) ρ S).To Q := by
  rw [xs_cons, x1_pass]
  exact h
theorem to_ite {c : E} {a b : Sts} (h : ((ev2 cf c).2 ρ S).To fun t S1 => (t = true → (exs cf wf (a.app r) ρ S1).To Q) ∧ (t = false → (exs cf wf (b.app r) ρ S1).To Q)) : (exs cf wf (.cons (.ite c a b) r) ρ S).To Q := by
  obtain ⟨t, S1, e1, h⟩ := h
  rw [xs_cons, x1_ite]
  show (((ev2 cf c).2 ρ S).thn ρ _ |>.seq _).To Q
  rw [e1]
  cases t with
  | true =>
    have := h.1 rfl
    rw [exs_app] at this
    exact this
  | false =>
    have := h.2 rfl
    rw [exs_app] at this
    exact this
theorem to_iteJ {c : E} {a b : Sts} (M : Env → Sto → Prop) (h : ((ev2 cf c).2 ρ S).To fun t S1 => (t = true → (exs cf wf a ρ S1).To fun f S' => match f with | .nx ρ' => M ρ' S' | .ct ρ' => Q (.ct ρ') S' | .bk ρ' => Q (.bk ρ') S' | .rt v => Q (.rt v) S') ∧ (t = false → (exs cf wf b ρ S1).To fun f S' => match f with | .nx ρ' => M ρ' S' | .ct ρ' => Q (.ct ρ') S' | .bk ρ' => Q (.bk ρ') S' | .rt v => Q (.rt v) S'))
    (hr : ∀ ρ S, M ρ S → (exs cf wf r ρ S).To Q) : (exs cf wf (.cons (.ite c a b) r) ρ S).To Q := by
  rw [xs_cons, x1_ite]
  obtain ⟨t, S1, e1, h1, h2⟩ := h
  show (((ev2 cf c).2 ρ S).thn ρ _ |>.seq _).To Q
  rw [e1, rthn_ok]
  have go : ∀ x : RS, (x.To fun f S' => match f with | .nx ρ' => M ρ' S' | .ct ρ' => Q (.ct ρ') S' | .bk ρ' => Q (.bk ρ') S' | .rt v => Q (.rt v) S') → (x.seq (exs cf wf r)).To Q := by
    rintro x ⟨f, S', rfl, q⟩
    cases f with
    | nx ρ' => exact hr _ _ q
    | ct ρ' => exact .ok q
    | bk ρ' => exact .ok q
    | rt v => exact .ok q
  cases t with
  | true => exact go _ (h1 rfl)
  | false => exact go _ (h2 rfl)
theorem to_for {p : Pat} {it : It} {b : Sts} {items : List D} {gs : Gs} {S1 : Sto} (hi : evIt cf it ρ S = .ok (items, gs) S1) (I : List D → Env → Sto → Prop) (h0 : I items ρ S1) (hg : ∀ ds ρ S, I ds ρ S → gok gs S)
    (hs : ∀ d ds ρ S, I (d :: ds) ρ S → ∃ ρ2, p.bnd d ρ = some ρ2 ∧ (exs cf wf b ρ2 S).To fun f S' => match f with | .nx ρ' => I ds ρ' S' | .ct ρ' => I ds ρ' S' | .bk ρ' => (exs cf wf r ρ' S').To Q | .rt v => Q (.rt v) S')
    (he : ∀ ρ S, I [] ρ S → (exs cf wf r ρ S).To Q) : (exs cf wf (.cons (.for_ p it b) r) ρ S).To Q := by
  rw [xs_cons, x1_for_]
  show (((evIt cf it ρ S).thn ρ _).seq _).To Q
  rw [hi, rthn_ok]
  refine RS.To.seq (Q0 := fun f S' => match f with | .nx ρ' => (exs cf wf r ρ' S').To Q | f => Q f S') (forD_To I hg he (fun d ds ρ S h => ?_) items ρ S1 h0) (fun ρ S h => h) (fun f S h hf => ?_)
  · obtain ⟨ρ2, e, h⟩ := hs d ds ρ S h
    simp only [e]
    exact h.mono fun f S' q => by cases f <;> exact q
  · cases f with
    | nx ρ => exact absurd rfl (hf ρ)
    | _ => exact h
/-- a def called -/
theorem run_To {F : List FI} {n i : Nat} {fi : FI} (h : F[i]? = some fi) {ds : List D} {S : Sto} {Q : D → Sto → Prop} (hl : ds.length = fi.ps.length)
    (hb : (exs (run F wf n) wf fi.body (ds.map some ++ List.replicate (fi.N.length - ds.length) none) S).To fun f S => match f with | .nx _ => Q .non S | .rt d => Q d S | _ => False) : (run F wf (n + 1) i ds S).To Q := by
  rw [run_at h S hl]
  exact callR_To hb
end
theorem lcD_all {A : Type} {gs : Gs} {turn : D → Sto → R (Option D)} {S : Sto} (g : A → D) (o : A → D) (hg : gok gs S) (xs : List A) (h : ∀ x ∈ xs, turn (g x) S = .ok (some (o x)) S) : lcD gs turn (xs.map g) [] S = .ok (xs.map o) S := by
  rw [lcD_map g (fun x => some (o x)) hg xs h, List.filterMap_eq_map']
theorem filterMap_ite {A B : Type} (c : A → Bool) (o : A → B) : ∀ xs : List A, xs.filterMap (fun x => if c x = true then some (o x) else none) = (xs.filter c).map o
  | [] => rfl
  | x :: xs => by
    rw [List.filterMap_cons, filterMap_ite c o xs]
    cases e : c x with
    | true => simp [List.filter_cons, e]
    | false => simp [List.filter_cons, e]
theorem lcD_filt {A : Type} {gs : Gs} {turn : D → Sto → R (Option D)} {S : Sto} (g : A → D) (c : A → Bool) (o : A → D) (hg : gok gs S) (xs : List A) (h : ∀ x ∈ xs, turn (g x) S = .ok (if c x = true then some (o x) else none) S) : lcD gs turn (xs.map g) [] S = .ok ((xs.filter c).map o) S := by
  rw [lcD_map g (fun x => if c x = true then some (o x) else none) hg xs h, filterMap_ite]
theorem To_bind {A B : Type} {r : R A} {k : A → Sto → R B} {Q : B → Sto → Prop} : (r.bind k).To Q ↔ r.To fun a S => (k a S).To Q := by
  constructor
  · intro h
    obtain ⟨b, S, e, q⟩ := h
    cases r with
    | ok a S1 => exact ⟨a, S1, rfl, b, S, e, q⟩
    | exc c S1 => cases e
    | stuck => cases e
  · intro h
    obtain ⟨a, S, rfl, q⟩ := h
    exact q
/-! a loop, turn by turn -/
section
variable {cf : Nat → List D → Sto → R D} {wf : Nat} {S : Sto} {ρ : Env} {Q : Fl → Sto → Prop} {r : Sts}
noncomputable def turnOf (cf : Nat → List D → Sto → R D) (wf : Nat) (p : Pat) (b : Sts) : D → Env → Sto → RS := fun d ρ1 S2 => match p.bnd d ρ1 with
  | some ρ2 => exs cf wf b ρ2 S2
  | none => .stuck
theorem to_forL {p : Pat} {it : It} {b : Sts} {items : List D} {gs : Gs} {S1 : Sto} (hi : evIt cf it ρ S = .ok (items, gs) S1)
    (h : (forD gs (turnOf cf wf p b) items ρ S1).To fun f S' => match f with | .nx ρ' => (exs cf wf r ρ' S').To Q | f => Q f S') : (exs cf wf (.cons (.for_ p it b) r) ρ S).To Q := by
  rw [xs_cons, x1_for_]
  show (((evIt cf it ρ S).thn ρ _).seq _).To Q
  rw [hi, rthn_ok]
  refine RS.To.seq h (fun ρ S h => h) (fun f S h hf => ?_)
  cases f with
  | nx ρ => exact absurd rfl (hf ρ)
  | _ => exact h
theorem forD_step {p : Pat} {b : Sts} {gs : Gs} {d : D} {ds : List D} (hg : gok gs S) {ρ2 : Env} (hb : p.bnd d ρ = some ρ2)
    (h : (exs cf wf b ρ2 S).To fun f S' => match f with | .nx ρ' => (forD gs (turnOf cf wf p b) ds ρ' S').To Q | .ct ρ' => (forD gs (turnOf cf wf p b) ds ρ' S').To Q | .bk ρ' => Q (.nx ρ') S' | .rt v => Q (.rt v) S') : (forD gs (turnOf cf wf p b) (d :: ds) ρ S).To Q := by
  rw [forD_cons, if_pos hg]
  obtain ⟨f, S', e, q⟩ := h
  have e' : turnOf cf wf p b d ρ S = .ok f S' := by
    unfold turnOf
    rw [hb]
    exact e
  rw [e']
  cases f with
  | nx ρ' => exact q
  | ct ρ' => exact q
  | bk ρ' => exact .ok q
  | rt v => exact .ok q
theorem forD_end {p : Pat} {b : Sts} {gs : Gs} (hg : gok gs S) (h : Q (.nx ρ) S) : (forD gs (turnOf cf wf p b) [] ρ S).To Q := by
  rw [forD_nil_ok hg]
  exact .ok h
end
end NT
/-! places, things, boards, rows -/
namespace NT
open PySem L2
def dP (p : Int × Int) : D := .tup [.int p.1, .int p.2]
def cheb (p q : Int × Int) : Int := max (p.1 - q.1).natAbs (p.2 - q.2).natAbs
/-- a draw -/
def tl4 : Sts → Sts
  | .cons _ (.cons _ (.cons _ (.cons _ r))) => r
  | s => s
/-- a place -/
def PlaceOk (p : Int × Int) : Prop := 0 ≤ p.1 ∧ p.1 < 200 ∧ 0 ≤ p.2 ∧ p.2 < 200
/-- a thing -/
structure Thing where
  n : Int
  p : Int × Int
  room : Int
  g : Option Int
def dG : Option Int → D
  | none => .non
  | some i => .int i
def dT (t : Thing) : D := .tup [.int t.n, dP t.p, .int t.room, dG t.g]
structure Thing.Ok (t : Thing) : Prop where
  p : PlaceOk t.p
  room : 0 ≤ t.room ∧ t.room < 4
  g : t.g = none ∨ t.g = some 0 ∨ t.g = some 1 ∨ t.g = some 9
/-- things by number in a dict -/
def kv (ts : List Thing) : List (Key × D) := ts.map fun t => (.inl t.n, dT t)
theorem kv_put (ts : List Thing) (t : Thing) (hn : (ts.map (·.n)).Nodup) (ho : ∀ t ∈ ts, t.Ok) (h : t.Ok) : ∃ ts', putD (kv ts) (.inl t.n) (dT t) = kv ts' ∧ (ts'.map (·.n)).Nodup ∧ (∀ t ∈ ts', t.Ok) ∧ ts'.length ≤ ts.length + 1 := by
  unfold putD
  by_cases hk : ((kv ts).any fun p => decide (p.1 = Sum.inl t.n)) = true
  · rw [if_pos hk]
    refine ⟨ts.map fun u => if u.n = t.n then t else u, ?_, ?_, ?_, by simp⟩
    · unfold kv
      rw [List.map_map, List.map_map]
      refine List.map_congr_left fun u _ => ?_
      by_cases e : u.n = t.n
      · simp [e]
      · simp [e]
    · have : (ts.map fun u => if u.n = t.n then t else u).map (·.n) = ts.map (·.n) := by
        rw [List.map_map]
        refine List.map_congr_left fun u _ => ?_
        by_cases e : u.n = t.n
        · simp [e]
        · simp [e]
      rw [this]
      exact hn
    · intro u hu
      obtain ⟨v, hv, e⟩ := List.mem_map.mp hu
      subst e
      split
      · exact h
      · exact ho v hv
  · rw [if_neg hk]
    refine ⟨ts ++ [t], by simp [kv], ?_, ?_, by simp⟩
    · rw [List.map_append, List.nodup_append]
      refine ⟨hn, by simp, ?_⟩
      intro a ha b hb e
      subst e
      simp at hb
      subst hb
      apply hk
      rw [List.any_eq_true]
      obtain ⟨u, hu, e⟩ := List.mem_map.mp ha
      exact ⟨(.inl u.n, dT u), List.mem_map.mpr ⟨u, hu, rfl⟩, by simp [e]⟩
    · intro u hu
      rcases List.mem_append.mp hu with hu | hu
      · exact ho u hu
      · rw [List.mem_singleton.mp hu]
        exact h
theorem kv_look (ts : List Thing) (hn : (ts.map (·.n)).Nodup) : ∀ t ∈ ts, look (kv ts) (.inl t.n) = some (dT t) := by
  intro t ht
  unfold look
  induction ts with
  | nil => cases ht
  | cons u us ih =>
    simp only [kv, List.map_cons, List.find?_cons]
    simp only [List.map_cons, List.nodup_cons] at hn
    by_cases e : u.n = t.n
    · rcases List.mem_cons.mp ht with rfl | h
      · simp
      · exact absurd (List.mem_map.mpr ⟨t, h, e.symm⟩) hn.1
    · rcases List.mem_cons.mp ht with rfl | h
      · exact absurd rfl e
      · have : decide ((Sum.inl u.n : Key) = Sum.inl t.n) = false := by simp [e]
        rw [this]
        exact ih hn.2 h
def dB (ts : List Thing) : D := .tup (ts.map dT)
structure BoardOk (ts : List Thing) : Prop where
  ok : ∀ t ∈ ts, t.Ok
  up : ts.Pairwise fun a b => a.n < b.n
theorem sorted_things (ts : List Thing) (hn : (ts.map (·.n)).Nodup) : ∃ us : List Thing, ((ts.map (·.n)).mergeSort fun a b => decide (a ≤ b)) = us.map (·.n) ∧ (∀ u ∈ us, u ∈ ts) ∧ us.length = ts.length ∧ us.Pairwise fun a b => a.n < b.n := by
  have hp : ((ts.map (·.n)).mergeSort fun a b => decide (a ≤ b)).Perm (ts.map (·.n)) := List.mergeSort_perm _ _
  have hs : ((ts.map (·.n)).mergeSort fun a b => decide (a ≤ b)).Pairwise fun a b => a ≤ b := by
    have := List.pairwise_mergeSort (le := fun a b : Int => decide (a ≤ b)) (fun a b c h1 h2 => by simp only [decide_eq_true_eq] at *; omega) (fun a b => by simp only [Bool.or_eq_true, decide_eq_true_eq]; omega) (ts.map (·.n))
    exact this.imp fun h => by simpa using h
  have hmap : ((ts.map (·.n)).mergeSort fun a b => decide (a ≤ b)) = (ts.mergeSort fun a b => decide (a.n ≤ b.n)).map (·.n) := (List.map_mergeSort (f := fun t : Thing => t.n) (r := fun a b : Thing => decide (a.n ≤ b.n)) (s := fun a b : Int => decide (a ≤ b)) (l := ts) (fun a _ b _ => rfl)).symm
  refine ⟨_, hmap, fun u hu => List.mem_mergeSort.mp hu, by simp, ?_⟩
  rw [hmap] at hs hp
  have hnd : ((ts.mergeSort fun a b => decide (a.n ≤ b.n)).map (·.n)).Nodup := hp.symm.nodup hn
  rw [List.pairwise_map] at hs
  rw [List.Nodup, List.pairwise_map] at hnd
  exact (hs.and hnd).imp fun ⟨h1, h2⟩ => by omega
/-- data that is alike to itself -/
def tyOf : D → String
  | .non => "NoneType"
  | .bl _ => "bool"
  | .int _ => "int"
  | .str _ => "str"
  | .tup _ => "tuple"
  | _ => ""
mutual
def sm : D → Bool
  | .non => true
  | .bl _ => true
  | .int _ => true
  | .str x => PyData.strOk x
  | .tup ds => smL ds && decide (ds.length ≤ 1000000)
  | _ => false
def smL : List D → Bool
  | [] => true
  | d :: ds => sm d && smL ds
end
theorem smL_mem : ∀ {ds : List D}, smL ds = true → ∀ d ∈ ds, sm d = true ∧ dep d ≤ depL ds
  | [], _, d, h => by cases h
  | e :: es, h, d, hd => by
    simp only [smL, Bool.and_eq_true] at h
    simp only [depL]
    rcases List.mem_cons.mp hd with rfl | hd
    · exact ⟨h.1, by omega⟩
    · have := smL_mem h.2 d hd
      exact ⟨this.1, by omega⟩
theorem eqD_bl {S : Sto} {a b : Bool} : eqD S [.bl a, .bl b] = some (.bl (decide (a = b)), S) := by
  simp [eqD, D.py, D.py0, SeqAt.shaped, PyData.canLay0, PyData.depth, PyData.eqv]
  cases a <;> cases b <;> rfl
theorem eqD_str {S : Sto} {a : Str} (h : PyData.strOk a = true) : eqD S [.str a, .str a] = some (.bl true, S) := by
  simp [eqD, D.py, D.py0, SeqAt.shaped, PyData.canLay0, PyData.depth, PyData.eqv, h]
@[simp] theorem isi_bl {S : Sto} {b : Bool} : isiD S [.bl b, .ty "bool"] = some (.bl true, S) := by simp [isiD, tyName, isiB]
@[simp] theorem isi_tb {S : Sto} {ds : List D} : isiD S [.tup ds, .ty "bool"] = some (.bl false, S) := by simp [isiD, tyName, isiB]
@[simp] theorem isi_tt {S : Sto} {ds : List D} : isiD S [.tup ds, .ty "tuple"] = some (.bl true, S) := by simp [isiD, tyName, isiB]
@[simp] theorem isi_ib {S : Sto} {i : Int} : isiD S [.int i, .ty "bool"] = some (.bl false, S) := by simp [isiD, tyName, isiB]
@[simp] theorem isi_it {S : Sto} {i : Int} : isiD S [.int i, .ty "tuple"] = some (.bl false, S) := by simp [isiD, tyName, isiB]
@[simp] theorem isi_is {S : Sto} {i : Int} : isiD S [.int i, .ty "str"] = some (.bl false, S) := by simp [isiD, tyName, isiB]
@[simp] theorem isi_ii {S : Sto} {i : Int} : isiD S [.int i, .ty "int"] = some (.bl true, S) := by simp [isiD, tyName, isiB]
@[simp] theorem isi_sb {S : Sto} {i : Str} : isiD S [.str i, .ty "bool"] = some (.bl false, S) := by simp [isiD, tyName, isiB]
@[simp] theorem isi_st {S : Sto} {i : Str} : isiD S [.str i, .ty "tuple"] = some (.bl false, S) := by simp [isiD, tyName, isiB]
@[simp] theorem isi_ss {S : Sto} {i : Str} : isiD S [.str i, .ty "str"] = some (.bl true, S) := by simp [isiD, tyName, isiB]
theorem R.of_To {A : Type} {r : R A} {a : A} {S : Sto} (h : r.To fun b S' => b = a ∧ S' = S) : r = .ok a S := by
  obtain ⟨b, S', e, rfl, rfl⟩ := h
  exact e
@[simp] theorem idx_T0 {t : Thing} {S : Sto} : idxD S [dT t, .int 0] = some (.int t.n, S) := by simp [dT]
@[simp] theorem idx_T1 {t : Thing} {S : Sto} : idxD S [dT t, .int 1] = some (dP t.p, S) := by simp [dT]
@[simp] theorem idx_T2 {t : Thing} {S : Sto} : idxD S [dT t, .int 2] = some (.int t.room, S) := by simp [dT]
@[simp] theorem idx_T3 {t : Thing} {S : Sto} : idxD S [dT t, .int 3] = some (dG t.g, S) := by simp [dT]
@[simp] theorem idx_P0 {p : Int × Int} {S : Sto} : idxD S [dP p, .int 0] = some (.int p.1, S) := by simp [dP]
@[simp] theorem idx_P1 {p : Int × Int} {S : Sto} : idxD S [dP p, .int 1] = some (.int p.2, S) := by simp [dP]
@[simp] theorem seq_B {ts : List Thing} {S : Sto} : asSeq S (dB ts) = some (false, ts.map dT) := rfl
@[simp] theorem seq_P {p : Int × Int} {S : Sto} : asSeq S (dP p) = some (false, [.int p.1, .int p.2]) := rfl
@[simp] theorem gOf_P {p : Int × Int} {es : List D} : gOf (dP p) es = [] := rfl
@[simp] theorem gOf_B {ts : List Thing} {es : List D} : gOf (dB ts) es = [] := rfl
@[simp] theorem bnd_T {t : Thing} {a b c d : Nat} {ρ : Env} : (Pat.tp [a, b, c, d]).bnd (dT t) ρ = some ((((ρ.set a (some (.int t.n))).set b (some (dP t.p))).set c (some (.int t.room))).set d (some (dG t.g))) := rfl
@[simp] theorem bnd_pr {p : Int × Int} {a b : Nat} {ρ : Env} : (Pat.tp [a, b]).bnd (pr p) ρ = some ((ρ.set a (some (.int p.1))).set b (some (.int p.2))) := rfl
theorem cut_to (xs : List D) (m : Int) (h : 0 ≤ m) : cutD xs none (some m) = xs.take m.toNat := by
  unfold cutD
  obtain ⟨k, rfl⟩ := Int.eq_ofNat_of_zero_le h
  show (xs.drop 0).take (HT.sIx xs.length xs.length (some (k : Int)) - 0) = _
  rw [HT.sIx_nat]
  simp
def rowOf (p : Int × Int) (t : Thing) : Int × Int := (cheb t.p p, t.n)
def nearL (ts : List Thing) (p : Int × Int) (far : Int) : List Int := (ts.filter fun t => decide (cheb t.p p ≤ far)).map (·.n)
def nearestL (ts : List Thing) (p : Int × Int) (most : Int) : List Int := (((ts.map (rowOf p)).mergeSort prLe).take most.toNat).map (·.2)
theorem cheb_comm (p q : Int × Int) : cheb p q = cheb q p := by unfold cheb; omega
theorem cheb_nn (p q : Int × Int) : 0 ≤ cheb p q := by unfold cheb; omega
theorem smL_int : ∀ ns : List Int, smL (ns.map .int) = true
  | [] => rfl
  | n :: ns => by simp [smL, sm, smL_int ns]
theorem depL_int : ∀ ns : List Int, depL (ns.map .int) = 0
  | [] => rfl
  | n :: ns => by simp [depL, dep, depL_int ns]
theorem near_mem {ts : List Thing} {p : Int × Int} {far : Int} {k : Int} : k ∈ nearL ts p far ↔ ∃ t ∈ ts, cheb t.p p ≤ far ∧ t.n = k := by
  simp [nearL, and_assoc]
theorem pairwise_inj {ts : List Thing} (h : ts.Pairwise fun a b => a.n < b.n) : ∀ t ∈ ts, ∀ u ∈ ts, t.n = u.n → t = u := by
  induction ts with
  | nil => intro t ht; cases ht
  | cons a as ih =>
    intro t ht u hu e
    rw [List.pairwise_cons] at h
    rcases List.mem_cons.mp ht with q | q <;> rcases List.mem_cons.mp hu with r | r
    · rw [q, r]
    · have := h.1 u r
      rw [q] at e
      omega
    · have := h.1 t q
      rw [r] at e
      omega
    · exact ih h.2 t q u r e
theorem near_sorted {ts : List Thing} {p : Int × Int} {far : Int} (h : ts.Pairwise fun a b => a.n < b.n) : ((nearL ts p far).mergeSort fun a b => decide (a ≤ b)) = nearL ts p far := by
  refine List.mergeSort_of_pairwise ?_
  unfold nearL
  rw [List.pairwise_map]
  exact (h.filter _).imp fun h => by simp; omega
theorem inB_tup {S : Sto} {x : Int} {ns : List Int} : inB S (.int x) (.tup (ns.map .int)) = some (decide (x ∈ ns)) := inB_int rfl rfl
theorem asSeq_ref {S : Sto} {i : Nat} {es : List D} (h : cellL S i = some es) : asSeq S (.ref i) = some (true, es) := by
  unfold cellL at h
  split at h
  · rename_i q
    cases h
    simp [asSeq, q]
  · cases h
theorem gok_one {S : Sto} {i : Nat} {es : List D} (h : cellL S i = some es) : gok [(i, es)] S := fun p hp => by
  rw [List.mem_singleton.mp hp]
  exact h
theorem rows_near (ts : List Thing) (p : Int × Int) (far : Int) : ((ts.map (rowOf p)).filter fun q => decide (q.1 ≤ far)).map (·.2) = nearL ts p far := by
  unfold nearL
  rw [List.filter_map, List.map_map]
  rfl
theorem in_tup {g : Bool → Bool} {S : Sto} {x : Int} {ns : List Int} : inG g S [.int x, .tup (ns.map .int)] = some (.bl (g (decide (x ∈ ns))), S) := by
  simp [inG, inB_tup]
theorem cell_lt {S : Sto} {i : Nat} {es : List D} (h : cellL S i = some es) : i < S.length := by
  unfold cellL at h
  split at h
  · rename_i q
    exact (List.getElem?_eq_some_iff.mp q).1
  · cases h
theorem cell_set {S : Sto} {i : Nat} {es : List D} (h : i < S.length) : cellL (S.set i (.lst es)) i = some es := by
  unfold cellL
  rw [List.getElem?_set_self h]
theorem cell_old {k : Nat} {S S' : Sto} {i : Nat} {es : List D} (g : Go k S S') (h0 : i ≠ 0) (h : cellL S i = some es) : cellL S' i = some es := by
  have hl := cell_lt h
  unfold cellL at h ⊢
  rw [g.old i h0 hl]
  exact h
theorem add_tup {S : Sto} {a b : List D} (h : a.length + b.length ≤ 16777216) : addD S [.tup a, .tup b] = some (.tup (a ++ b), S) := by
  simp [addD, h]
theorem at_last {α : Type} (xs : List α) (x : α) : atI (xs ++ [x]) (-1) = some x := by
  have h : ixN (xs ++ [x]).length (-1) = some xs.length := by
    unfold ixN
    rw [if_neg (by decide), if_pos (by simp; omega)]
    simp
    omega
  unfold atI
  rw [h]
  simp
def iL (l : List Int) : D := .tup (l.map .int)
theorem sm_iL (l : List Int) (h : l.length ≤ 1000000) : sm (iL l) = true := by simp [iL, sm, smL_int, h]
theorem dep_iL (l : List Int) : dep (iL l) = 1 := by simp [iL, dep, depL_int]
theorem pl_iL (l : List Int) : pl (iL l) = true := by
  have : ∀ l : List Int, plL (l.map .int) = true := fun l => by
    induction l with
    | nil => rfl
    | cons a l ih => simp [plL, pl, ih]
  simp [iL, pl, this]
def pL (ps : List (Int × Int)) : D := .tup (ps.map dP)
theorem sm_dP (p : Int × Int) : sm (dP p) = true := rfl
theorem dep_dP (p : Int × Int) : dep (dP p) = 1 := rfl
theorem pl_dP (p : Int × Int) : pl (dP p) = true := rfl
theorem smL_dP : ∀ ps : List (Int × Int), smL (ps.map dP) = true
  | [] => rfl
  | p :: ps => by rw [List.map_cons, smL, sm_dP, smL_dP ps]; rfl
theorem plL_dP : ∀ ps : List (Int × Int), plL (ps.map dP) = true
  | [] => rfl
  | p :: ps => by rw [List.map_cons, plL, pl_dP, plL_dP ps]; rfl
theorem depL_dP : ∀ ps : List (Int × Int), depL (ps.map dP) ≤ 1
  | [] => Nat.zero_le _
  | p :: ps => by
    have := depL_dP ps
    rw [List.map_cons, depL, dep_dP]
    omega
theorem sm_pL {ps : List (Int × Int)} (h : ps.length ≤ 1000000) : sm (pL ps) = true := by simp [pL, sm, smL_dP, h]
theorem pl_pL (ps : List (Int × Int)) : pl (pL ps) = true := by simp [pL, pl, plL_dP]
theorem dep_pL (ps : List (Int × Int)) : dep (pL ps) ≤ 2 := by
  have := depL_dP ps
  simp [pL, dep]
  omega
/-- alike: the test says so -/
theorem ne_self {S : Sto} {d : D} (h : pl d = true) (hd : dep d ≤ 64) : neD S [d, d] = some (.bl false, S) := by
  rw [neD_pl h h hd hd]
  simp
theorem eq_self {S : Sto} {d : D} (h : pl d = true) (hd : dep d ≤ 64) : eqD S [d, d] = some (.bl true, S) := by
  rw [eqD_pl h h hd hd]
  simp
end NT
/-! while loops, fractions -/
namespace NT
open PySem L2
theorem whileD_succ {c : Env → Sto → R Bool} {body : Env → Sto → RS} {n : Nat} {ρ : Env} {S : Sto} : whileD c body (n + 1) ρ S = (c ρ S).thn ρ fun b S1 => if b = true then (match body ρ S1 with
    | .ok (.nx ρ') S' => whileD c body n ρ' S'
    | .ok (.ct ρ') S' => whileD c body n ρ' S'
    | .ok (.bk ρ') S' => .ok (.nx ρ') S'
    | r => r) else .ok (.nx ρ) S1 := rfl
theorem whileD_To {cf : Nat → List D → Sto → R D} {wf : Nat} {c : E} {b : Sts} {Q : Fl → Sto → Prop} (I : Nat → Env → Sto → Prop)
    (hs : ∀ m ρ S, I m ρ S → ∃ m', m = m' + 1 ∧ ((ev2 cf c).2 ρ S).To fun t S1 => (t = true → (exs cf wf b ρ S1).To fun f S' => match f with | .nx ρ' => I m' ρ' S' | .ct ρ' => I m' ρ' S' | .bk ρ' => Q (.nx ρ') S' | .rt v => Q (.rt v) S') ∧ (t = false → Q (.nx ρ) S1)) :
    ∀ (m : Nat) (ρ : Env) (S : Sto), I m ρ S → (whileD (evT cf c) (exs cf wf b) m ρ S).To Q := by
  intro m
  induction m with
  | zero =>
    intro ρ S h
    obtain ⟨m', e, _⟩ := hs 0 ρ S h
    omega
  | succ m ih =>
    intro ρ S h
    obtain ⟨m', e, t, S1, et, h1, h2⟩ := hs _ ρ S h
    obtain rfl : m' = m := by omega
    rw [whileD_succ, show evT cf c = (ev2 cf c).2 from rfl, et, rthn_ok]
    cases t with
    | false =>
      rw [if_neg (by decide)]
      exact .ok (h2 rfl)
    | true =>
      rw [if_pos rfl]
      obtain ⟨f, S', ef, q⟩ := h1 rfl
      rw [ef]
      cases f with
      | nx ρ' => exact ih ρ' S' q
      | ct ρ' => exact ih ρ' S' q
      | bk ρ' => exact .ok q
      | rt v => exact .ok q
theorem to_while {cf : Nat → List D → Sto → R D} {wf : Nat} {c : E} {b r : Sts} {Q : Fl → Sto → Prop} {ρ : Env} {S : Sto} (I : Nat → Env → Sto → Prop) (h0 : I wf ρ S)
    (hs : ∀ m ρ S, I m ρ S → ∃ m', m = m' + 1 ∧ ((ev2 cf c).2 ρ S).To fun t S1 => (t = true → (exs cf wf b ρ S1).To fun f S' => match f with | .nx ρ' => I m' ρ' S' | .ct ρ' => I m' ρ' S' | .bk ρ' => (exs cf wf r ρ' S').To Q | .rt v => Q (.rt v) S') ∧ (t = false → (exs cf wf r ρ S1).To Q)) :
    (exs cf wf (.cons (.while_ c b) r) ρ S).To Q := by
  rw [xs_cons, x1_while_]
  refine RS.To.seq (Q0 := fun f S' => match f with | .nx ρ' => (exs cf wf r ρ' S').To Q | f => Q f S') (whileD_To I (fun m ρ S h => ?_) wf ρ S h0) (fun ρ S h => h) (fun f S h hf => ?_)
  · obtain ⟨m', e, h⟩ := hs m ρ S h
    refine ⟨m', e, h.mono fun t S1 ⟨h1, h2⟩ => ⟨fun e => (h1 e).mono fun f S' q => ?_, h2⟩⟩
    cases f <;> exact q
  · cases f with
    | nx ρ => exact absurd rfl (hf ρ)
    | _ => exact h

/-! ### fractions -/
def dQ (q : Rat) : D := .tup [.int q.num, .int (q.den : Int)]
/-- small enough -/
def QB (q : Rat) : Prop := q.num.natAbs ≤ 100000000 ∧ q.den ≤ 100000000
@[simp] theorem idx_Q0 {q : Rat} {S : Sto} : idxD S [dQ q, .int 0] = some (.int q.num, S) := by simp [dQ]
@[simp] theorem idx_Q1 {q : Rat} {S : Sto} : idxD S [dQ q, .int 1] = some (.int (q.den : Int), S) := by simp [dQ]
theorem dQ_0 : dQ 0 = .tup [.int 0, .int 1] := rfl
theorem dQ_1 : dQ 1 = .tup [.int 1, .int 1] := rfl
theorem sm_dQ (q : Rat) : sm (dQ q) = true := rfl
theorem pl_dQ (q : Rat) : pl (dQ q) = true := rfl
theorem dep_dQ (q : Rat) : dep (dQ q) = 1 := rfl
theorem dQ_inj {a b : Rat} (h : dQ a = dQ b) : a = b := by
  simp [dQ] at h
  exact Rat.ext h.1 (by omega)
theorem gcd_fmod (a b : Int) : Int.gcd b (a.fmod b) = Int.gcd a b := by
  have h : a.fmod b = a - b * a.fdiv b := by
    have := Int.mul_fdiv_add_fmod a b
    omega
  rw [h, Int.gcd_sub_mul_left_right, Int.gcd_comm]
theorem fmod_abs (a b : Int) (h : b ≠ 0) : (a.fmod b).natAbs < b.natAbs := by
  by_cases hb : 0 < b
  · have := fmod_rng (a := a) hb
    omega
  · have h1 : 0 < -b := by omega
    have h2 := fmod_rng (a := -a) h1
    have h3 := Int.neg_fmod_neg (-a) (-b)
    rw [Int.neg_neg, Int.neg_neg] at h3
    omega
/-- the fraction of whole numbers, as the program makes it -/
theorem frac_rat (u l : Int) (hl : l ≠ 0) : ((u : Rat) / (l : Rat)).num = u.fdiv (if l < 0 then -(Int.gcd u l : Int) else (Int.gcd u l : Int)) ∧ ((((u : Rat) / (l : Rat)).den : Nat) : Int) = l.fdiv (if l < 0 then -(Int.gcd u l : Int) else (Int.gcd u l : Int)) := by
  have hg : 0 < (Int.gcd u l : Int) := by
    have : Int.gcd u l ≠ 0 := fun e => hl (Int.gcd_eq_zero_iff.mp e).2
    omega
  have hc : Int.gcd l u = Int.gcd u l := Int.gcd_comm _ _
  have pos : ∀ x : Int, x.fdiv (Int.gcd u l : Int) = x / (Int.gcd u l : Int) := fun x => Int.fdiv_eq_ediv_of_nonneg x (by omega)
  rw [← Rat.divInt_eq_div, Rat.num_divInt, Rat.den_divInt, if_neg hl, hc]
  by_cases h : l < 0
  · rw [if_pos h, Int.sign_eq_neg_one_of_neg h]
    have e1 := Int.neg_fdiv_neg (-u) (Int.gcd u l : Int)
    have e2 := Int.neg_fdiv_neg (-l) (Int.gcd u l : Int)
    rw [Int.neg_neg] at e1 e2
    rw [e1, e2, pos, pos]
    have : (l.natAbs : Int) = -l := by omega
    refine ⟨by congr 1; omega, ?_⟩
    rw [← this]
    exact Int.natCast_ediv _ _
  · rw [if_neg h, Int.sign_eq_one_of_pos (by omega), pos, pos]
    have : (l.natAbs : Int) = l := by omega
    refine ⟨by congr 1; omega, ?_⟩
    exact (Int.natCast_ediv _ _).trans (by rw [this])
theorem frac_dQ (u l : Int) (hl : l ≠ 0) : D.tup [.int (u.fdiv (if l < 0 then -(Int.gcd u l : Int) else (Int.gcd u l : Int))), .int (l.fdiv (if l < 0 then -(Int.gcd u l : Int) else (Int.gcd u l : Int)))] = dQ ((u : Rat) / (l : Rat)) := by
  obtain ⟨h1, h2⟩ := frac_rat u l hl
  rw [← h1, ← h2]
  rfl
theorem frac_small (u l : Int) (hl : l ≠ 0) : ((u : Rat) / (l : Rat)).num.natAbs ≤ u.natAbs ∧ ((u : Rat) / (l : Rat)).den ≤ l.natAbs := by
  rw [← Rat.divInt_eq_div, Rat.num_divInt, Rat.den_divInt, if_neg hl]
  refine ⟨?_, Nat.div_le_self _ _⟩
  have h1 : (l.sign * u / (Int.gcd l u : Int)).natAbs ≤ (l.sign * u).natAbs := Int.natAbs_ediv_le_natAbs _ _
  have h2 : (l.sign * u).natAbs = u.natAbs := by
    rw [Int.natAbs_mul, Int.natAbs_sign_of_ne_zero hl, Nat.one_mul]
  omega
theorem lt_rat (a b : Rat) : decide (a.num * (b.den : Int) < b.num * (a.den : Int)) = decide (a < b) := by
  rw [Bool.eq_iff_iff]
  simp only [decide_eq_true_eq]
  exact (Rat.lt_iff a b).symm
end NT
/-! plain data with truth values -/
namespace NT
open PySem
mutual
def pq : D → Bool
  | .non => true
  | .bl _ => true
  | .int _ => true
  | .str x => PyData.strOk x
  | .tup ds => pqL ds
  | .lst ds => pqL ds
  | _ => false
def pqL : List D → Bool
  | [] => true
  | d :: ds => pq d && pqL ds
end
mutual
/-- no truth value stands where the other has a number -/
def nm : D → D → Bool
  | .bl _, .int _ => false
  | .int _, .bl _ => false
  | .tup as, .tup bs => nmL as bs
  | .lst as, .lst bs => nmL as bs
  | _, _ => true
def nmL : List D → List D → Bool
  | a :: as, b :: bs => nm a b && nmL as bs
  | _, _ => true
end
mutual
theorem py_pq : ∀ d : D, pq d = true → ∃ p, d.py0 = some p ∧ p.canLay0 = true ∧ p.depth = dep d
  | .non, _ => ⟨.none, rfl, rfl, rfl⟩
  | .int i, _ => ⟨.int i, rfl, rfl, rfl⟩
  | .str x, h => ⟨.str x, rfl, by simpa [pq, PyData.canLay0] using h, rfl⟩
  | .tup ds, h => by
    obtain ⟨ps, e, h1, h2⟩ := py_pqL ds (by simpa [pq] using h)
    exact ⟨.tuple ps, by simp [D.py0, e], by simpa [PyData.canLay0] using h1, by simp [PyData.depth, dep, h2]⟩
  | .lst ds, h => by
    obtain ⟨ps, e, h1, h2⟩ := py_pqL ds (by simpa [pq] using h)
    exact ⟨.list ps, by simp [D.py0, e], by simpa [PyData.canLay0] using h1, by simp [PyData.depth, dep, h2]⟩
  | .bl b, _ => ⟨.bool b, rfl, rfl, rfl⟩
  | .wt _, h => by cases h
  | .wl _, h => by cases h
  | .ref _, h => by cases h
  | .fn _, h => by cases h
  | .ty _, h => by cases h
theorem py_pqL : ∀ ds : List D, pqL ds = true → ∃ ps, D.py0L ds = some ps ∧ PyData.canLayAll0 ps = true ∧ PyData.depthAll ps = depL ds
  | [], _ => ⟨[], rfl, rfl, rfl⟩
  | d :: ds, h => by
    simp only [pqL, Bool.and_eq_true] at h
    obtain ⟨p, e1, h1, h2⟩ := py_pq d h.1
    obtain ⟨ps, e2, h3, h4⟩ := py_pqL ds h.2
    exact ⟨p :: ps, by simp [D.py0L, e1, e2], by simp [PyData.canLayAll0, h1, h3], by simp [PyData.depthAll, depL, h2, h4]⟩
end
mutual
theorem eqv_pq : ∀ (a b : D) (p q : PyData), pq a = true → pq b = true → nm a b = true → a.py0 = some p → b.py0 = some q → (PyData.eqv p q = true ↔ a = b)
  | .non, b, p, q, ha, hb, hn, e1, e2 => by
    cases e1
    cases b <;> first | (cases hb; done) | (simp [nm] at hn; done) | (simp only [D.py0, Option.some.injEq, Option.map_eq_some_iff] at e2; first | (subst e2; simp [PyData.eqv]; done) | (obtain ⟨_, _, rfl⟩ := e2; simp [PyData.eqv]; done))
  | .int i, b, p, q, ha, hb, hn, e1, e2 => by
    cases e1
    cases b <;> first | (cases hb; done) | (simp [nm] at hn; done) | (simp only [D.py0, Option.some.injEq, Option.map_eq_some_iff] at e2; first | (subst e2; simp [PyData.eqv]; done) | (obtain ⟨_, _, rfl⟩ := e2; simp [PyData.eqv]; done))
  | .str i, b, p, q, ha, hb, hn, e1, e2 => by
    cases e1
    cases b <;> first | (cases hb; done) | (simp [nm] at hn; done) | (simp only [D.py0, Option.some.injEq, Option.map_eq_some_iff] at e2; first | (subst e2; simp [PyData.eqv]; done) | (obtain ⟨_, _, rfl⟩ := e2; simp [PyData.eqv]; done))
  | .tup as, b, p, q, ha, hb, hn, e1, e2 => by
    simp only [D.py0, Option.map_eq_some_iff] at e1
    obtain ⟨ps, e1, rfl⟩ := e1
    cases b <;> first
      | (cases hb; done)
      | (rename_i bs
         simp only [D.py0, Option.map_eq_some_iff] at e2
         obtain ⟨qs, e2, rfl⟩ := e2
         have := eqv_pqL as bs ps qs (by simpa [pq] using ha) (by simpa [pq] using hb) (by simpa [nm] using hn) e1 e2
         simp [PyData.eqv, this]; done)
      | (simp only [D.py0, Option.some.injEq, Option.map_eq_some_iff] at e2; first | (subst e2; simp [PyData.eqv]; done) | (obtain ⟨_, _, rfl⟩ := e2; simp [PyData.eqv]; done))
  | .lst as, b, p, q, ha, hb, hn, e1, e2 => by
    simp only [D.py0, Option.map_eq_some_iff] at e1
    obtain ⟨ps, e1, rfl⟩ := e1
    cases b <;> first
      | (cases hb; done)
      | (rename_i bs
         simp only [D.py0, Option.map_eq_some_iff] at e2
         obtain ⟨qs, e2, rfl⟩ := e2
         have := eqv_pqL as bs ps qs (by simpa [pq] using ha) (by simpa [pq] using hb) (by simpa [nm] using hn) e1 e2
         simp [PyData.eqv, this]; done)
      | (simp only [D.py0, Option.some.injEq, Option.map_eq_some_iff] at e2; first | (subst e2; simp [PyData.eqv]; done) | (obtain ⟨_, _, rfl⟩ := e2; simp [PyData.eqv]; done))
  | .bl i, b, p, q, ha, hb, hn, e1, e2 => by
    cases e1
    cases b <;> first | (cases hb; done) | (simp [nm] at hn; done) | (simp only [D.py0, Option.some.injEq, Option.map_eq_some_iff] at e2; first | (subst e2; simp [PyData.eqv]; done) | (obtain ⟨_, _, rfl⟩ := e2; simp [PyData.eqv]; done))
  | .wt _, _, _, _, h, _, _, _, _ => by cases h
  | .wl _, _, _, _, h, _, _, _, _ => by cases h
  | .ref _, _, _, _, h, _, _, _, _ => by cases h
  | .fn _, _, _, _, h, _, _, _, _ => by cases h
  | .ty _, _, _, _, h, _, _, _, _ => by cases h
theorem eqv_pqL : ∀ (as bs : List D) (ps qs : List PyData), pqL as = true → pqL bs = true → nmL as bs = true → D.py0L as = some ps → D.py0L bs = some qs → (PyData.eqvAll ps qs = true ↔ as = bs)
  | [], [], ps, qs, _, _, _, e1, e2 => by cases e1; cases e2; simp [PyData.eqvAll]
  | [], b :: bs, ps, qs, _, hb, _, e1, e2 => by
    cases e1
    simp only [pqL, Bool.and_eq_true] at hb
    obtain ⟨p, q1, _, _⟩ := py_pq b hb.1
    obtain ⟨ps, q2, _, _⟩ := py_pqL bs hb.2
    simp only [D.py0L, q1, q2, Option.some.injEq] at e2
    subst e2
    simp [PyData.eqvAll]
  | a :: as, [], ps, qs, ha, _, _, e1, e2 => by
    cases e2
    simp only [pqL, Bool.and_eq_true] at ha
    obtain ⟨p, q1, _, _⟩ := py_pq a ha.1
    obtain ⟨ps, q2, _, _⟩ := py_pqL as ha.2
    simp only [D.py0L, q1, q2, Option.some.injEq] at e1
    subst e1
    simp [PyData.eqvAll]
  | a :: as, b :: bs, ps, qs, ha, hb, hn, e1, e2 => by
    simp only [pqL, nmL, Bool.and_eq_true] at ha hb hn
    obtain ⟨p, q1, _, _⟩ := py_pq a ha.1
    obtain ⟨ps, q2, _, _⟩ := py_pqL as ha.2
    simp only [D.py0L, q1, q2, Option.some.injEq] at e1
    subst e1
    obtain ⟨p', r1, _, _⟩ := py_pq b hb.1
    obtain ⟨ps', r2, _, _⟩ := py_pqL bs hb.2
    simp only [D.py0L, r1, r2, Option.some.injEq] at e2
    subst e2
    have h1 := eqv_pq a b p p' ha.1 hb.1 hn.1 q1 r1
    have h2 := eqv_pqL as bs ps ps' ha.2 hb.2 hn.2 q2 r2
    simp [PyData.eqvAll, h1, h2]
end

theorem py_of_pq {S : Sto} {d : D} (h : pq d = true) : d.py S = d.py0 := by
  cases d <;> first | rfl | cases h
section
variable {S : Sto} {a b : D}
open Classical in
theorem eqD_pq (ha : pq a = true) (hb : pq b = true) (hn : nm a b = true) (da : dep a ≤ 64) (db : dep b ≤ 64) : eqD S [a, b] = some (.bl (decide (a = b)), S) := by
  obtain ⟨p, e1, c1, d1⟩ := py_pq a ha
  obtain ⟨q', e2, c2, d2⟩ := py_pq b hb
  have h := eqv_pq a b p q' ha hb hn e1 e2
  unfold eqD
  simp only [py_of_pq ha, py_of_pq hb, e1, e2]
  rw [if_pos (by simp [SeqAt.shaped, c1, c2, d1, d2, da, db])]
  by_cases q : a = b
  · rw [h.mpr q, decide_eq_true q]
  · rw [decide_eq_false q]
    have : PyData.eqv p q' = false := by
      rw [Bool.eq_false_iff]
      exact fun z => q (h.mp z)
    rw [this]
open Classical in
theorem neD_pq (ha : pq a = true) (hb : pq b = true) (hn : nm a b = true) (da : dep a ≤ 64) (db : dep b ≤ 64) : neD S [a, b] = some (.bl (!decide (a = b)), S) := by
  obtain ⟨p, e1, c1, d1⟩ := py_pq a ha
  obtain ⟨q', e2, c2, d2⟩ := py_pq b hb
  have h := eqv_pq a b p q' ha hb hn e1 e2
  unfold neD
  simp only [py_of_pq ha, py_of_pq hb, e1, e2]
  rw [if_pos (by simp [SeqAt.shaped, c1, c2, d1, d2, da, db])]
  by_cases q : a = b
  · rw [h.mpr q, decide_eq_true q]
  · rw [decide_eq_false q]
    have : PyData.eqv p q' = false := by
      rw [Bool.eq_false_iff]
      exact fun z => q (h.mp z)
    rw [this]
end
end NT
namespace NT
open PySem
/-! ### moving things: what the motion defs compute -/
def lesR (a b : Rat) : Rat := if b < a then b else a
def graR (a b : Rat) : Rat := if a < b then b else a
def withinR (b e far : Int) : Option (Rat × Rat) :=
  if b = e then (if (if b < 0 then -b else b) ≤ far then some (0, 1) else none) else
  let f : Rat := ((0 - far - b : Int) : Rat) / ((e - b : Int) : Rat)
  let l : Rat := ((far - b : Int) : Rat) / ((e - b : Int) : Rat)
  let f' := if l < f then l else f
  let l' := if l < f then f else l
  if lesR l' 1 < graR f' 0 then none else some (graR f' 0, lesR l' 1)
abbrev Way := (Int × Int) × (Int × Int)
def dW (w : Way) : D := .tup [dP w.1, dP w.2]
def meetR (found : Rat × Rat) (t : Rat × Rat) : Rat × Rat := (graR found.1 t.1, lesR found.2 t.2)
def whenR (w o : Way) (far : Int) : Option (Rat × Rat) := match withinR (w.1.1 - o.1.1) (w.2.1 - o.2.1) far with
  | none => none
  | some t => match withinR (w.1.2 - o.1.2) (w.2.2 - o.2.2) far with
    | none => none
    | some t' => if (meetR (meetR (0, 1) t) t').2 < (meetR (meetR (0, 1) t) t').1 then none else some (meetR (meetR (0, 1) t) t')
def dI (t : Rat × Rat) : D := .tup [dQ t.1, dQ t.2]
def dO : Option (Rat × Rat) → D
  | none => .non
  | some t => dI t
def leftR (kept : Option (Rat × Rat)) (time : Rat) : List (Rat × Bool) := match kept with
  | none => [(time, false)]
  | some k => if k.2 < time then [(time, false)] else if k.2 = 1 then [] else [(k.2, false)]
def chR (known : Bool) (w o : Way) (far slack : Int) : List (Rat × Bool) :=
  if known then leftR (whenR w o (far + slack)) 0 else match whenR w o far with
  | none => []
  | some t => (t.1, true) :: leftR (whenR w o (far + slack)) t.1
def dE (e : Rat × Bool) : D := .tup [dQ e.1, .bl e.2]
def dEs (es : List (Rat × Bool)) : D := .tup (es.map dE)
theorem QB_01 : QB 0 ∧ QB 1 := by
  constructor <;> exact ⟨by decide, by decide⟩
theorem QB_les {a b : Rat} (ha : QB a) (hb : QB b) : QB (lesR a b) := by unfold lesR; split <;> assumption
theorem QB_gra {a b : Rat} (ha : QB a) (hb : QB b) : QB (graR a b) := by unfold graR; split <;> assumption
structure Sm (x : Int) : Prop where
  lo : -1000000 ≤ x
  hi : x ≤ 1000000
theorem QB_frac {u l : Int} (hl : l ≠ 0) (hu : -4000000 ≤ u ∧ u ≤ 4000000) (h : -4000000 ≤ l ∧ l ≤ 4000000) : QB ((u : Rat) / (l : Rat)) := by
  obtain ⟨h1, h2⟩ := frac_small u l hl
  refine ⟨?_, ?_⟩ <;> omega
theorem QB_within {b e far : Int} (hb : Sm b) (he : Sm e) (hf : Sm far) {t : Rat × Rat} (h : withinR b e far = some t) : QB t.1 ∧ QB t.2 := by
  obtain ⟨b1, b2⟩ := hb
  obtain ⟨e1, e2⟩ := he
  obtain ⟨f1, f2⟩ := hf
  unfold withinR at h
  by_cases q : b = e
  · rw [if_pos q] at h
    generalize (if b < 0 then -b else b) = a at h
    by_cases c : a ≤ far
    · rw [if_pos c] at h
      cases h
      exact QB_01
    · rw [if_neg c] at h
      cases h
  · rw [if_neg q] at h
    have k1 : QB (((0 - far - b : Int) : Rat) / ((e - b : Int) : Rat)) := QB_frac (by omega) (by omega) (by omega)
    have k2 : QB (((far - b : Int) : Rat) / ((e - b : Int) : Rat)) := QB_frac (by omega) (by omega) (by omega)
    dsimp only at h
    generalize (((0 - far - b : Int) : Rat) / ((e - b : Int) : Rat)) = f at h k1
    generalize (((far - b : Int) : Rat) / ((e - b : Int) : Rat)) = l at h k2
    have k3 : QB (if l < f then l else f) := by split <;> assumption
    have k4 : QB (if l < f then f else l) := by split <;> assumption
    generalize (if l < f then l else f) = f' at h k3
    generalize (if l < f then f else l) = l' at h k4
    by_cases c : lesR l' 1 < graR f' 0
    · rw [if_pos c] at h
      cases h
    · rw [if_neg c] at h
      cases h
      exact ⟨QB_gra k3 QB_01.1, QB_les k4 QB_01.2⟩
theorem QB_when {w o : Way} {far : Int} (h1 : Sm (w.1.1 - o.1.1)) (h2 : Sm (w.2.1 - o.2.1)) (h3 : Sm (w.1.2 - o.1.2)) (h4 : Sm (w.2.2 - o.2.2)) (hf : Sm far) {t : Rat × Rat} (h : whenR w o far = some t) : QB t.1 ∧ QB t.2 := by
  unfold whenR at h
  split at h
  · cases h
  · rename_i t0 e0
    split at h
    · cases h
    · rename_i t1 e1
      have q0 := QB_within h1 h2 hf e0
      have q1 := QB_within h3 h4 hf e1
      split at h
      · cases h
      · cases h
        exact ⟨QB_gra (QB_gra QB_01.1 q0.1) q1.1, QB_les (QB_les QB_01.2 q0.2) q1.2⟩
@[simp] theorem idx_I0 {t : Rat × Rat} {S : Sto} : idxD S [dI t, .int 0] = some (dQ t.1, S) := by simp [dI]
@[simp] theorem idx_I1 {t : Rat × Rat} {S : Sto} : idxD S [dI t, .int 1] = some (dQ t.2, S) := by simp [dI]
@[simp] theorem idx_W0 {w : Way} {S : Sto} : idxD S [dW w, .int 0] = some (dP w.1, S) := by simp [dW]
@[simp] theorem idx_W1 {w : Way} {S : Sto} : idxD S [dW w, .int 1] = some (dP w.2, S) := by simp [dW]
@[simp] theorem isN_I {t : Rat × Rat} : D.isN (dI t) = false := rfl
@[simp] theorem dO_none : dO none = .non := rfl
@[simp] theorem dO_some {t : Rat × Rat} : dO (some t) = dI t := rfl
open Classical in
theorem ne_dQ {S : Sto} {a b : Rat} : neD S [dQ a, dQ b] = some (.bl (!decide (a = b)), S) := by
  rw [neD_pl (pl_dQ a) (pl_dQ b) (by rw [dep_dQ]; omega) (by rw [dep_dQ]; omega)]
  have : (dQ a = dQ b) = (a = b) := propext ⟨dQ_inj, fun h => by rw [h]⟩
  simp only [this]
end NT
/-! what the motion defs compute: times at which two things are near -/
namespace NT
open PySem
def nearAt (b e far : Int) (s : Rat) : Prop := -(far : Rat) ≤ (b : Rat) + ((e : Rat) - (b : Rat)) * s ∧ (b : Rat) + ((e : Rat) - (b : Rat)) * s ≤ (far : Rat)
/-- an interval is just the times of a kind -/
def Span (P : Rat → Prop) (t : Option (Rat × Rat)) : Prop := match t with
  | none => ∀ s, 0 ≤ s → s ≤ 1 → ¬ P s
  | some t => 0 ≤ t.1 ∧ t.1 ≤ t.2 ∧ t.2 ≤ 1 ∧ ∀ s, (0 ≤ s ∧ s ≤ 1 ∧ P s) ↔ (t.1 ≤ s ∧ s ≤ t.2)
theorem les_le (a b s : Rat) : s ≤ lesR a b ↔ s ≤ a ∧ s ≤ b := by unfold lesR; grind
theorem gra_le (a b s : Rat) : graR a b ≤ s ↔ a ≤ s ∧ b ≤ s := by unfold graR; grind
theorem div_le_r {a b c : Rat} (h : 0 < b) : a / b ≤ c ↔ a ≤ c * b := by
  have := Rat.lt_div_iff (a := c) (b := a) (c := b) h
  grind
theorem le_div_r {a b c : Rat} (h : 0 < c) : a ≤ b / c ↔ a * c ≤ b := by
  have := Rat.div_lt_iff (a := b) (b := c) (c := a) h
  grind
theorem within_span (b e far : Int) (hf : 0 ≤ far) : Span (nearAt b e far) (withinR b e far) := by
  have hf' : (0 : Rat) ≤ (far : Rat) := by exact_mod_cast hf
  unfold withinR
  by_cases q : b = e
  · rw [if_pos q]
    subst q
    have key : ∀ s, nearAt b b far s ↔ (if b < 0 then -b else b) ≤ far := by
      intro s
      have e1 : (b : Rat) + ((b : Rat) - (b : Rat)) * s = (b : Rat) := by grind
      unfold nearAt
      rw [e1]
      have c1 : -(far : Rat) ≤ (b : Rat) ↔ -far ≤ b := by
        rw [← Rat.intCast_neg, Rat.intCast_le_intCast]
      have c2 : (b : Rat) ≤ (far : Rat) ↔ b ≤ far := Rat.intCast_le_intCast
      rw [c1, c2]
      split <;> omega
    by_cases c : (if b < 0 then -b else b) ≤ far
    · rw [if_pos c]
      refine ⟨by decide, by decide, by decide, fun s => ?_⟩
      rw [key s]
      exact ⟨fun h => ⟨h.1, h.2.1⟩, fun h => ⟨h.1, h.2, c⟩⟩
    · rw [if_neg c]
      intro s _ _ h
      exact c ((key s).mp h)
  · rw [if_neg q]
    dsimp only
    have hd : ((e - b : Int) : Rat) = (e : Rat) - (b : Rat) := Rat.intCast_sub e b
    have h1 : ((0 - far - b : Int) : Rat) = -(far : Rat) - (b : Rat) := by
      rw [Rat.intCast_sub, Rat.intCast_sub]
      grind
    have h2 : ((far - b : Int) : Rat) = (far : Rat) - (b : Rat) := Rat.intCast_sub far b
    rw [hd, h1, h2]
    have hne : (e : Rat) - (b : Rat) ≠ 0 := by
      intro h
      apply q
      have : (b : Rat) = (e : Rat) := by grind
      exact (Rat.intCast_inj.mp this)
    obtain ⟨d, hdd⟩ : ∃ d : Rat, d = (e : Rat) - (b : Rat) := ⟨_, rfl⟩
    unfold nearAt
    rw [← hdd] at hne ⊢
    obtain ⟨f, hfd⟩ : ∃ f : Rat, f = (-(far : Rat) - (b : Rat)) / d := ⟨_, rfl⟩
    obtain ⟨l, hld⟩ : ∃ l : Rat, l = ((far : Rat) - (b : Rat)) / d := ⟨_, rfl⟩
    rw [← hfd, ← hld]
    have key : ∀ s, (-(far : Rat) ≤ (b : Rat) + d * s ∧ (b : Rat) + d * s ≤ (far : Rat)) ↔ ((if l < f then l else f) ≤ s ∧ s ≤ (if l < f then f else l)) := by
      intro s
      by_cases pos : 0 < d
      · have k1 : f ≤ s ↔ -(far : Rat) - (b : Rat) ≤ s * d := by rw [hfd]; exact div_le_r pos
        have k2 : s ≤ l ↔ s * d ≤ (far : Rat) - (b : Rat) := by rw [hld]; exact le_div_r pos
        have k3 : f ≤ l := by
          rw [hfd, div_le_r pos]
          have : l * d = (far : Rat) - (b : Rat) := by rw [hld]; exact Rat.div_mul_cancel hne
          grind
        have k4 : ¬ l < f := by grind
        rw [if_neg k4, if_neg k4, k1, k2]
        grind
      · have neg : 0 < -d := by grind
        have e1 : f = ((far : Rat) + (b : Rat)) / (-d) := by
          have h1 : f * d = -(far : Rat) - (b : Rat) := by rw [hfd]; exact Rat.div_mul_cancel hne
          have h2 : (far : Rat) + (b : Rat) = f * (-d) := by grind
          rw [h2, Rat.mul_div_cancel (by grind)]
        have e2 : l = ((b : Rat) - (far : Rat)) / (-d) := by
          have h1 : l * d = (far : Rat) - (b : Rat) := by rw [hld]; exact Rat.div_mul_cancel hne
          have h2 : (b : Rat) - (far : Rat) = l * (-d) := by grind
          rw [h2, Rat.mul_div_cancel (by grind)]
        have k1 : s ≤ f ↔ s * (-d) ≤ (far : Rat) + (b : Rat) := by rw [e1]; exact le_div_r neg
        have k2 : l ≤ s ↔ (b : Rat) - (far : Rat) ≤ s * (-d) := by rw [e2]; exact div_le_r neg
        have k3 : l ≤ f := by
          rw [e2, div_le_r neg]
          have : f * (-d) = (far : Rat) + (b : Rat) := by rw [e1]; exact Rat.div_mul_cancel (by grind)
          grind
        by_cases k4 : l < f
        · rw [if_pos k4, if_pos k4, k1, k2]
          grind
        · have : l = f := by grind
          rw [if_neg k4, if_neg k4]
          rw [show (f ≤ s ∧ s ≤ l) ↔ (l ≤ s ∧ s ≤ f) by rw [this], k1, k2]
          grind
    generalize (if l < f then l else f) = f' at key ⊢
    generalize (if l < f then f else l) = l' at key ⊢
    have key2 : ∀ s, (0 ≤ s ∧ s ≤ 1 ∧ (-(far : Rat) ≤ (b : Rat) + d * s ∧ (b : Rat) + d * s ≤ (far : Rat))) ↔ (graR f' 0 ≤ s ∧ s ≤ lesR l' 1) := by
      intro s
      rw [key s, gra_le, les_le]
      grind
    by_cases c : lesR l' 1 < graR f' 0
    · rw [if_pos c]
      intro s s0 s1 h
      have := (key2 s).mp ⟨s0, s1, h⟩
      grind
    · rw [if_neg c]
      refine ⟨((gra_le f' 0 (graR f' 0)).mp (by grind)).2, by grind, ((les_le l' 1 (lesR l' 1)).mp (by grind)).2, key2⟩
def nearW (w o : Way) (far : Int) (s : Rat) : Prop := nearAt (w.1.1 - o.1.1) (w.2.1 - o.2.1) far s ∧ nearAt (w.1.2 - o.1.2) (w.2.2 - o.2.2) far s
theorem when_span (w o : Way) (far : Int) (hf : 0 ≤ far) : Span (nearW w o far) (whenR w o far) := by
  have h1 := within_span (w.1.1 - o.1.1) (w.2.1 - o.2.1) far hf
  have h2 := within_span (w.1.2 - o.1.2) (w.2.2 - o.2.2) far hf
  unfold whenR
  cases e1 : withinR (w.1.1 - o.1.1) (w.2.1 - o.2.1) far with
  | none =>
    rw [e1] at h1
    exact fun s s0 s1 h => h1 s s0 s1 h.1
  | some t =>
    rw [e1] at h1
    cases e2 : withinR (w.1.2 - o.1.2) (w.2.2 - o.2.2) far with
    | none =>
      rw [e2] at h2
      exact fun s s0 s1 h => h2 s s0 s1 h.2
    | some t' =>
      rw [e2] at h2
      obtain ⟨a0, a1, a2, a3⟩ := h1
      obtain ⟨b0, b1, b2, b3⟩ := h2
      have key : ∀ s, (0 ≤ s ∧ s ≤ 1 ∧ nearW w o far s) ↔ (graR (graR 0 t.1) t'.1 ≤ s ∧ s ≤ lesR (lesR 1 t.2) t'.2) := by
        intro s
        rw [gra_le, gra_le, les_le, les_le]
        have := a3 s
        have := b3 s
        unfold nearW
        grind
      show Span (nearW w o far) (if (meetR (meetR (0, 1) t) t').2 < (meetR (meetR (0, 1) t) t').1 then none else some (meetR (meetR (0, 1) t) t'))
      have m1 : (meetR (meetR (0, 1) t) t').1 = graR (graR 0 t.1) t'.1 := rfl
      have m2 : (meetR (meetR (0, 1) t) t').2 = lesR (lesR 1 t.2) t'.2 := rfl
      generalize meetR (meetR (0, 1) t) t' = m at m1 m2 ⊢
      rw [← m1, ← m2] at key
      by_cases c : m.2 < m.1
      · rw [if_pos c]
        intro s s0 s1 h
        have := (key s).mp ⟨s0, s1, h⟩
        grind
      · rw [if_neg c]
        have k1 := (gra_le (graR 0 t.1) t'.1 m.1).mp (by grind)
        have k2 := (gra_le 0 t.1 m.1).mp k1.1
        have k3 := (les_le (lesR 1 t.2) t'.2 m.2).mp (by grind)
        have k4 := (les_le 1 t.2 m.2).mp k3.1
        exact ⟨k2.1, by grind, k4.1, key⟩
theorem span_unique {P Q : Rat → Prop} {a b : Option (Rat × Rat)} (h : ∀ s, P s ↔ Q s) (ha : Span P a) (hb : Span Q b) : a = b := by
  cases a with
  | none =>
    cases b with
    | none => rfl
    | some t =>
      obtain ⟨b0, b1, b2, b3⟩ := hb
      have := (b3 t.1).mpr ⟨by grind, b1⟩
      exact absurd ((h _).mpr this.2.2) (ha _ this.1 this.2.1)
  | some t =>
    obtain ⟨a0, a1, a2, a3⟩ := ha
    cases b with
    | none =>
      have := (a3 t.1).mpr ⟨by grind, a1⟩
      exact absurd ((h _).mp this.2.2) (hb _ this.1 this.2.1)
    | some u =>
      obtain ⟨b0, b1, b2, b3⟩ := hb
      have key : ∀ s, (t.1 ≤ s ∧ s ≤ t.2) ↔ (u.1 ≤ s ∧ s ≤ u.2) := fun s => by
        rw [← a3 s, ← b3 s, h s]
      have k1 := (key t.1).mp ⟨by grind, a1⟩
      have k2 := (key u.1).mpr ⟨by grind, b1⟩
      have k3 := (key t.2).mp ⟨a1, by grind⟩
      have k4 := (key u.2).mpr ⟨b1, by grind⟩
      have e1 : t.1 = u.1 := by grind
      have e2 : t.2 = u.2 := by grind
      exact congrArg some (Prod.ext e1 e2)
theorem nearAt_neg (b e far : Int) (s : Rat) : nearAt (-b) (-e) far s ↔ nearAt b e far s := by
  unfold nearAt
  rw [Rat.intCast_neg, Rat.intCast_neg]
  grind
theorem when_comm (w o : Way) (far : Int) (hf : 0 ≤ far) : whenR o w far = whenR w o far := by
  refine span_unique (fun s => ?_) (when_span o w far hf) (when_span w o far hf)
  unfold nearW
  rw [← nearAt_neg (w.1.1 - o.1.1), ← nearAt_neg (w.1.2 - o.1.2), Int.neg_sub, Int.neg_sub, Int.neg_sub, Int.neg_sub]
theorem nearAt_mono {b e far far' : Int} (h : far ≤ far') {s : Rat} (q : nearAt b e far s) : nearAt b e far' s := by
  have : (far : Rat) ≤ (far' : Rat) := Rat.intCast_le_intCast.mpr h
  unfold nearAt at q ⊢
  grind
theorem nearW_mono {w o : Way} {far far' : Int} (h : far ≤ far') {s : Rat} (q : nearW w o far s) : nearW w o far' s := ⟨nearAt_mono h q.1, nearAt_mono h q.2⟩
/-- farther sees longer -/
theorem when_mono {w o : Way} {far far' : Int} (hf : 0 ≤ far) (h : far ≤ far') {t : Rat × Rat} (ht : whenR w o far = some t) : ∃ k, whenR w o far' = some k ∧ k.1 ≤ t.1 ∧ t.2 ≤ k.2 := by
  have h1 := when_span w o far hf
  have h2 := when_span w o far' (by omega)
  rw [ht] at h1
  obtain ⟨a0, a1, a2, a3⟩ := h1
  have p1 := (a3 t.1).mpr ⟨by grind, a1⟩
  have p2 := (a3 t.2).mpr ⟨a1, by grind⟩
  cases e : whenR w o far' with
  | none =>
    rw [e] at h2
    exact absurd (nearW_mono h p1.2.2) (h2 _ p1.1 p1.2.1)
  | some k =>
    rw [e] at h2
    obtain ⟨b0, b1, b2, b3⟩ := h2
    have q1 := (b3 t.1).mp ⟨p1.1, p1.2.1, nearW_mono h p1.2.2⟩
    have q2 := (b3 t.2).mp ⟨p2.1, p2.2.1, nearW_mono h p2.2.2⟩
    exact ⟨k, rfl, q1.1, q2.2⟩
theorem when_rng {w o : Way} {far : Int} (hf : 0 ≤ far) {t : Rat × Rat} (ht : whenR w o far = some t) : 0 ≤ t.1 ∧ t.1 ≤ t.2 ∧ t.2 ≤ 1 := by
  have h1 := when_span w o far hf
  rw [ht] at h1
  exact ⟨h1.1, h1.2.1, h1.2.2.1⟩
theorem nearAt_1 (b e far : Int) : nearAt b e far 1 ↔ -far ≤ e ∧ e ≤ far := by
  unfold nearAt
  have e1 : (b : Rat) + ((e : Rat) - (b : Rat)) * 1 = (e : Rat) := by grind
  rw [e1, ← Rat.intCast_neg, Rat.intCast_le_intCast, Rat.intCast_le_intCast]
theorem nearW_1 (w o : Way) (far : Int) : nearW w o far 1 ↔ cheb w.2 o.2 ≤ far := by
  unfold nearW cheb
  rw [nearAt_1, nearAt_1]
  omega
/-- near at the end -/
theorem when_end {w o : Way} {far : Int} (hf : 0 ≤ far) : (∃ k, whenR w o far = some k ∧ k.2 = 1) ↔ cheb w.2 o.2 ≤ far := by
  have h := when_span w o far hf
  rw [← nearW_1]
  constructor
  · rintro ⟨k, e, h1⟩
    rw [e] at h
    obtain ⟨a0, a1, a2, a3⟩ := h
    exact ((a3 1).mpr ⟨by grind, by grind⟩).2.2
  · intro q
    cases e : whenR w o far with
    | none =>
      rw [e] at h
      exact absurd q (h 1 (by decide) (by decide))
    | some k =>
      rw [e] at h
      obtain ⟨a0, a1, a2, a3⟩ := h
      have := (a3 1).mp ⟨by decide, by decide, q⟩
      exact ⟨k, rfl, by grind⟩
/-- it does not leave just when it is near at the end -/
theorem left_nil {w o : Way} {far : Int} (hf : 0 ≤ far) {time : Rat} (ht : time ≤ 1) : leftR (whenR w o far) time = [] ↔ cheb w.2 o.2 ≤ far := by
  rw [← when_end hf]
  unfold leftR
  cases e : whenR w o far with
  | none => simp
  | some k =>
    have := when_rng hf e
    by_cases c : k.2 < time
    · simp only [if_pos c]
      constructor
      · intro h; cases h
      · rintro ⟨k', e', h1⟩
        cases e'
        grind
    · simp only [if_neg c]
      by_cases c1 : k.2 = 1
      · simp [c1]
      · simp [c1]
theorem left_cases (kept : Option (Rat × Rat)) (time : Rat) : leftR kept time = [] ∨ ∃ x, leftR kept time = [(x, false)] := by
  unfold leftR
  cases kept with
  | none => exact .inr ⟨_, rfl⟩
  | some k =>
    dsimp only
    by_cases c : k.2 < time
    · rw [if_pos c]; exact .inr ⟨_, rfl⟩
    · rw [if_neg c]
      by_cases c1 : k.2 = 1
      · rw [if_pos c1]; exact .inl rfl
      · rw [if_neg c1]; exact .inr ⟨_, rfl⟩
end NT
/-! times turned about -/
namespace NT
open PySem L2
def backR : Option (Rat × Rat) → Option (Rat × Rat)
  | none => none
  | some t => some (1 - t.2, 1 - t.1)
theorem span_back {P Q : Rat → Prop} {a : Option (Rat × Rat)} (h : Span P a) (e : ∀ s, Q s ↔ P (1 - s)) : Span Q (backR a) := by
  cases a with
  | none =>
    intro s h0 h1 q
    exact h (1 - s) (by grind) (by grind) ((e s).mp q)
  | some t =>
    obtain ⟨a0, a1, a2, a3⟩ := h
    refine ⟨by show 0 ≤ 1 - t.2; grind, by show 1 - t.2 ≤ 1 - t.1; grind, by show 1 - t.1 ≤ 1; grind, fun s => ?_⟩
    show (0 ≤ s ∧ s ≤ 1 ∧ Q s) ↔ (1 - t.2 ≤ s ∧ s ≤ 1 - t.1)
    rw [e s]
    have := a3 (1 - s)
    constructor
    · intro ⟨h0, h1, q⟩
      have := this.mp ⟨by grind, by grind, q⟩
      exact ⟨by grind, by grind⟩
    · intro ⟨h0, h1⟩
      have := this.mpr ⟨by grind, by grind⟩
      exact ⟨by grind, by grind, this.2.2⟩
theorem span_at {P : Rat → Prop} {a : Option (Rat × Rat)} (h : Span P a) {s : Rat} (h0 : 0 ≤ s) (h1 : s ≤ 1) (hp : P s) : ∃ k, a = some k ∧ k.1 ≤ s ∧ s ≤ k.2 := by
  cases a with
  | none => exact absurd hp (h s h0 h1)
  | some k => exact ⟨k, rfl, (h.2.2.2 s).mp ⟨h0, h1, hp⟩⟩
theorem span_first {P : Rat → Prop} {t : Rat × Rat} (h : Span P (some t)) : t.1 = 0 ↔ P 0 := by
  obtain ⟨a0, a1, a2, a3⟩ := h
  constructor
  · intro e
    exact ((a3 0).mpr ⟨by grind, by grind⟩).2.2
  · intro p
    have := (a3 0).mp ⟨by grind, by grind, p⟩
    grind
theorem span_last {P : Rat → Prop} {t : Rat × Rat} (h : Span P (some t)) : t.2 = 1 ↔ P 1 := by
  obtain ⟨a0, a1, a2, a3⟩ := h
  constructor
  · intro e
    exact ((a3 1).mpr ⟨by grind, by grind⟩).2.2
  · intro p
    have := (a3 1).mp ⟨by grind, by grind, p⟩
    grind
theorem span_mono {P Q : Rat → Prop} {t : Rat × Rat} {b : Option (Rat × Rat)} (h : Span P (some t)) (h' : Span Q b) (k : ∀ s, P s → Q s) : ∃ u, b = some u ∧ u.1 ≤ t.1 ∧ t.2 ≤ u.2 := by
  obtain ⟨a0, a1, a2, a3⟩ := h
  have p1 := (a3 t.1).mpr ⟨by grind, by grind⟩
  have p2 := (a3 t.2).mpr ⟨by grind, by grind⟩
  obtain ⟨u, e, u1, u2⟩ := span_at h' p1.1 p1.2.1 (k _ p1.2.2)
  obtain ⟨u', e', v1, v2⟩ := span_at h' p2.1 p2.2.1 (k _ p2.2.2)
  rw [e] at e'
  cases e'
  exact ⟨u, e, u1, v2⟩
theorem nearAt_back (b e far : Int) (s : Rat) : nearAt e b far s ↔ nearAt b e far (1 - s) := by
  unfold nearAt
  have : (b : Rat) + ((e : Rat) - (b : Rat)) * (1 - s) = (e : Rat) + ((b : Rat) - (e : Rat)) * s := by grind
  rw [this]
theorem nearAt_0 (b e far : Int) : nearAt b e far 0 ↔ -far ≤ b ∧ b ≤ far := by
  unfold nearAt
  have e1 : (b : Rat) + ((e : Rat) - (b : Rat)) * 0 = (b : Rat) := by grind
  rw [e1, ← Rat.intCast_neg, Rat.intCast_le_intCast, Rat.intCast_le_intCast]
theorem nearW_0 (w o : Way) (far : Int) : nearW w o far 0 ↔ cheb w.1 o.1 ≤ far := by
  unfold nearW cheb
  rw [nearAt_0, nearAt_0]
  omega
theorem nearW_back (w o : Way) (far : Int) (s : Rat) : nearW (w.2, w.1) (o.2, o.1) far s ↔ nearW w o far (1 - s) := by
  unfold nearW
  rw [nearAt_back, nearAt_back (b := w.1.2 - o.1.2)]
theorem nearAt_mul {k : Int} (hk : 0 < k) (b e far : Int) (s : Rat) : nearAt (k * b) (k * e) (k * far) s ↔ nearAt b e far s := by
  unfold nearAt
  have hk' : (0 : Rat) < (k : Rat) := by exact_mod_cast hk
  simp only [Rat.intCast_mul]
  generalize (b : Rat) = x
  generalize (e : Rat) = y
  generalize (far : Rat) = f
  generalize (k : Rat) = k at hk'
  have e1 : k * x + (k * y - k * x) * s = k * (x + (y - x) * s) := by grind
  rw [e1]
  generalize x + (y - x) * s = v
  constructor
  · intro ⟨h1, h2⟩
    have l1 : k * (-f) ≤ k * v := by grind
    exact ⟨Rat.le_of_mul_le_mul_left l1 hk', Rat.le_of_mul_le_mul_left h2 hk'⟩
  · intro ⟨h1, h2⟩
    have l1 := Rat.mul_le_mul_of_nonneg_left h1 (Rat.le_of_lt hk')
    have l2 := Rat.mul_le_mul_of_nonneg_left h2 (Rat.le_of_lt hk')
    exact ⟨by grind, l2⟩
theorem within_neg (b e far : Int) (hf : 0 ≤ far) : withinR (-b) (-e) far = withinR b e far := span_unique (fun s => nearAt_neg b e far s) (within_span _ _ far hf) (within_span _ _ far hf)
theorem within_back (b e far : Int) (hf : 0 ≤ far) : withinR e b far = backR (withinR b e far) := span_unique (fun s => Iff.rfl) (within_span _ _ far hf) (span_back (within_span b e far hf) fun s => nearAt_back b e far s)
theorem within_mul {k : Int} (hk : 0 < k) (b e far : Int) (hf : 0 ≤ far) : withinR (k * b) (k * e) (k * far) = withinR b e far := span_unique (fun s => nearAt_mul hk b e far s) (within_span _ _ _ (Int.mul_nonneg (by omega) hf)) (within_span _ _ far hf)
theorem within_none (b e far : Int) (hf : 0 ≤ far) : withinR b e far = none ↔ (far < b ∧ far < e) ∨ (b < -far ∧ e < -far) := by
  have sp := within_span b e far hf
  constructor
  · intro e0
    rw [e0] at sp
    have n0 := sp 0 (by grind) (by grind)
    have n1 := sp 1 (by grind) (by grind)
    rw [nearAt_0] at n0
    rw [nearAt_1] at n1
    have mid : ∀ x y : Int, 0 < x → y < 0 → ¬ (b = x ∧ e = y) ∧ ¬ (b = y ∧ e = x) := by
      intro x y hx hy
      have hx' : (0 : Rat) < (x : Rat) := by exact_mod_cast hx
      have hy' : (y : Rat) < 0 := by exact_mod_cast hy
      have hf' : (0 : Rat) ≤ (far : Rat) := by exact_mod_cast hf
      have go : ∀ p q : Rat, p ≠ q → (0 ≤ p ∧ q ≤ 0 ∨ p ≤ 0 ∧ 0 ≤ q) → ∃ s : Rat, 0 ≤ s ∧ s ≤ 1 ∧ p + (q - p) * s = 0 := by
        intro p q hne hs
        refine ⟨p / (p - q), ?_, ?_, ?_⟩
        · rcases hs with ⟨h1, h2⟩ | ⟨h1, h2⟩
          · exact (le_div_r (by grind)).mpr (by grind)
          · have e1 : p / (p - q) = (-p) / (q - p) := by
              have : p - q ≠ 0 := by grind
              have : q - p ≠ 0 := by grind
              grind
            rw [e1]
            exact (le_div_r (by grind)).mpr (by grind)
        · rcases hs with ⟨h1, h2⟩ | ⟨h1, h2⟩
          · exact (div_le_r (by grind)).mpr (by grind)
          · have e1 : p / (p - q) = (-p) / (q - p) := by
              have : p - q ≠ 0 := by grind
              have : q - p ≠ 0 := by grind
              grind
            rw [e1]
            exact (div_le_r (by grind)).mpr (by grind)
        · have : p - q ≠ 0 := by grind
          grind
      constructor
      · rintro ⟨rfl, rfl⟩
        obtain ⟨s, s0, s1, sz⟩ := go b e (by grind) (.inl ⟨by grind, by grind⟩)
        exact sp s s0 s1 (by unfold nearAt; rw [sz]; exact ⟨by grind, hf'⟩)
      · rintro ⟨rfl, rfl⟩
        obtain ⟨s, s0, s1, sz⟩ := go b e (by grind) (.inr ⟨by grind, by grind⟩)
        exact sp s s0 s1 (by unfold nearAt; rw [sz]; exact ⟨by grind, hf'⟩)
    by_cases h1 : 0 < b ∧ e < 0
    · exact absurd ⟨rfl, rfl⟩ (mid b e h1.1 h1.2).1
    · by_cases h2 : b < 0 ∧ 0 < e
      · exact absurd ⟨rfl, rfl⟩ (mid e b h2.2 h2.1).2
      · omega
  · intro h
    cases hw : withinR b e far with
    | none => rfl
    | some t =>
      rw [hw] at sp
      obtain ⟨a0, a1, a2, a3⟩ := sp
      have p := ((a3 t.1).mpr ⟨by grind, by grind⟩)
      exfalso
      obtain ⟨s0, s1, q1, q2⟩ := p
      have cb : ∀ x y : Int, x < y → (x : Rat) < (y : Rat) := fun x y h => by exact_mod_cast h
      have hn : ((-far : Int) : Rat) = -(far : Rat) := Rat.intCast_neg _
      have e1 : (b : Rat) + ((e : Rat) - (b : Rat)) * t.1 = (b : Rat) * (1 - t.1) + (e : Rat) * t.1 := by grind
      rw [e1] at q1 q2
      have hs : 0 ≤ 1 - t.1 := by grind
      rcases h with ⟨h1, h2⟩ | ⟨h1, h2⟩
      · have b1 := cb _ _ h1
        have b2 := cb _ _ h2
        have m1 := Rat.mul_le_mul_of_nonneg_right (Rat.le_of_lt b1) hs
        have m2 := Rat.mul_le_mul_of_nonneg_right (Rat.le_of_lt b2) s0
        by_cases hz : t.1 = 0
        · rw [hz] at q2
          grind
        · have hp : 0 < t.1 := by grind
          have m3 := Rat.mul_lt_mul_of_pos_right b2 hp
          grind
      · have b1 := cb _ _ h1
        have b2 := cb _ _ h2
        rw [hn] at b1 b2
        have m1 := Rat.mul_le_mul_of_nonneg_right (Rat.le_of_lt b1) hs
        have m2 := Rat.mul_le_mul_of_nonneg_right (Rat.le_of_lt b2) s0
        by_cases hz : t.1 = 0
        · rw [hz] at q1
          grind
        · have hp : 0 < t.1 := by grind
          have m3 := Rat.mul_lt_mul_of_pos_right b2 hp
          grind
/-- along one side -/
theorem nearAt_same (p far : Int) (hf : 0 ≤ far) (s : Rat) : nearAt (p - p) (p - p) far s := by
  unfold nearAt
  have : ((p - p : Int) : Rat) + (((p - p : Int) : Rat) - ((p - p : Int) : Rat)) * s = 0 := by
    have : p - p = 0 := by omega
    rw [this]
    grind
  rw [this]
  have hf' : (0 : Rat) ≤ (far : Rat) := by exact_mod_cast hf
  exact ⟨by grind, hf'⟩
end NT
/-! places at times, how great times' lowers are -/
namespace NT
open PySem L2
theorem les_pred {P : Rat → Prop} {a b : Rat} (ha : P a) (hb : P b) : P (lesR a b) := by unfold lesR; split <;> assumption
theorem gra_pred {P : Rat → Prop} {a b : Rat} (ha : P a) (hb : P b) : P (graR a b) := by unfold graR; split <;> assumption
theorem within_pred {P : Rat → Prop} (p0 : P 0) (p1 : P 1) {b e far : Int} (hf : ∀ u : Int, b ≠ e → P ((u : Rat) / ((e - b : Int) : Rat))) {t : Rat × Rat} (h : withinR b e far = some t) : P t.1 ∧ P t.2 := by
  unfold withinR at h
  by_cases q : b = e
  · rw [if_pos q] at h
    generalize (if b < 0 then -b else b) = a at h
    by_cases c : a ≤ far
    · rw [if_pos c] at h
      cases h
      exact ⟨p0, p1⟩
    · rw [if_neg c] at h
      cases h
  · rw [if_neg q] at h
    have k1 := hf (0 - far - b) q
    have k2 := hf (far - b) q
    dsimp only at h
    generalize (((0 - far - b : Int) : Rat) / ((e - b : Int) : Rat)) = f at h k1
    generalize (((far - b : Int) : Rat) / ((e - b : Int) : Rat)) = l at h k2
    have k3 : P (if l < f then l else f) := by split <;> assumption
    have k4 : P (if l < f then f else l) := by split <;> assumption
    generalize (if l < f then l else f) = f' at h k3
    generalize (if l < f then f else l) = l' at h k4
    by_cases c : lesR l' 1 < graR f' 0
    · rw [if_pos c] at h
      cases h
    · rw [if_neg c] at h
      cases h
      exact ⟨gra_pred k3 p0, les_pred k4 p1⟩
theorem when_pred {P : Rat → Prop} (p0 : P 0) (p1 : P 1) {w o : Way} {far : Int} (h1 : ∀ u : Int, w.1.1 - o.1.1 ≠ w.2.1 - o.2.1 → P ((u : Rat) / ((w.2.1 - o.2.1 - (w.1.1 - o.1.1) : Int) : Rat))) (h2 : ∀ u : Int, w.1.2 - o.1.2 ≠ w.2.2 - o.2.2 → P ((u : Rat) / ((w.2.2 - o.2.2 - (w.1.2 - o.1.2) : Int) : Rat)))
    {t : Rat × Rat} (h : whenR w o far = some t) : P t.1 ∧ P t.2 := by
  unfold whenR at h
  split at h
  · cases h
  · rename_i t0 e0
    split at h
    · cases h
    · rename_i t1 e1
      have q0 := within_pred p0 p1 h1 e0
      have q1 := within_pred p0 p1 h2 e1
      split at h
      · cases h
      · cases h
        exact ⟨gra_pred (gra_pred p0 q0.1) q1.1, les_pred (les_pred p1 q0.2) q1.2⟩
theorem when_den {w o : Way} {far B : Int} (hB : 1 ≤ B) (h1 : -B ≤ w.2.1 - o.2.1 - (w.1.1 - o.1.1) ∧ w.2.1 - o.2.1 - (w.1.1 - o.1.1) ≤ B) (h2 : -B ≤ w.2.2 - o.2.2 - (w.1.2 - o.1.2) ∧ w.2.2 - o.2.2 - (w.1.2 - o.1.2) ≤ B) {t : Rat × Rat} (h : whenR w o far = some t) : (t.1.den : Int) ≤ B ∧ (t.2.den : Int) ≤ B := by
  have k0 : ((0 : Rat).den : Int) ≤ B := by show ((1 : Nat) : Int) ≤ B; omega
  have k1 : ((1 : Rat).den : Int) ≤ B := by show ((1 : Nat) : Int) ≤ B; omega
  refine when_pred (P := fun q : Rat => (q.den : Int) ≤ B) k0 k1 (fun u hu => ?_) (fun u hu => ?_) h
  · have := (frac_small u (w.2.1 - o.2.1 - (w.1.1 - o.1.1)) (by omega)).2
    omega
  · have := (frac_small u (w.2.2 - o.2.2 - (w.1.2 - o.1.2)) (by omega)).2
    omega
theorem num_le_den {q : Rat} (h0 : 0 ≤ q) (h1 : q ≤ 1) : 0 ≤ q.num ∧ q.num ≤ q.den := by
  refine ⟨Rat.num_nonneg.mpr h0, ?_⟩
  have := (Rat.le_iff q 1).mp h1
  simpa using this
theorem QB_unit {q : Rat} (h0 : 0 ≤ q) (h1 : q ≤ 1) (hd : q.den ≤ 100000000) : QB q := by
  have := num_le_den h0 h1
  exact ⟨by omega, hd⟩
theorem num_div (q : Rat) : (q.num : Rat) / ((q.den : Int) : Rat) = q := by
  have h := Rat.mkRat_self q
  rw [Rat.mkRat_eq_div] at h
  exact h
theorem den_ne (q : Rat) : ((q.den : Int) : Rat) ≠ 0 := by
  have := q.den_nz
  exact_mod_cast this
theorem den_pos' (q : Rat) : (0 : Rat) < ((q.den : Int) : Rat) := by
  have := q.den_pos
  exact_mod_cast this
theorem num_eq (q : Rat) : (q.num : Rat) = q * ((q.den : Int) : Rat) := by
  have h := num_div q
  have hd := den_ne q
  generalize ((q.den : Int) : Rat) = d at h hd ⊢
  generalize (q.num : Rat) = n at h ⊢
  grind
/-- where a number on its way is -/
def posQ (a b : Int) (q : Rat) : Rat := ((a * ((q.den : Int) - q.num) + b * q.num : Int) : Rat) / (((q.den : Int) : Int) : Rat)
theorem posQ_eq (a b : Int) (q : Rat) : posQ a b q = (a : Rat) + ((b : Rat) - (a : Rat)) * q := by
  unfold posQ
  rw [Rat.intCast_add, Rat.intCast_mul, Rat.intCast_mul, Rat.intCast_sub, num_eq q]
  have hd := den_ne q
  generalize ((q.den : Int) : Rat) = d at hd ⊢
  grind
theorem nearAt_pos (a b c d far : Int) (s : Rat) : nearAt (a - c) (b - d) far s ↔ -(far : Rat) ≤ posQ a b s - posQ c d s ∧ posQ a b s - posQ c d s ≤ (far : Rat) := by
  unfold nearAt
  rw [posQ_eq, posQ_eq, Rat.intCast_sub, Rat.intCast_sub]
  have : (a : Rat) - (c : Rat) + ((b : Rat) - (d : Rat) - ((a : Rat) - (c : Rat))) * s = (a : Rat) + ((b : Rat) - (a : Rat)) * s - ((c : Rat) + ((d : Rat) - (c : Rat)) * s) := by grind
  rw [this]
/-- two fractions no farther than a whole number -/
theorem gap_le (p q : Rat) (f : Int) : (-(f * ((p.den : Int) * (q.den : Int))) ≤ p.num * (q.den : Int) - q.num * (p.den : Int) ∧ p.num * (q.den : Int) - q.num * (p.den : Int) ≤ f * ((p.den : Int) * (q.den : Int))) ↔ (-(f : Rat) ≤ p - q ∧ p - q ≤ (f : Rat)) := by
  have h1 : (((p.num * (q.den : Int) - q.num * (p.den : Int) : Int)) : Rat) = (p - q) * (((p.den : Int) : Rat) * ((q.den : Int) : Rat)) := by
    rw [Rat.intCast_sub, Rat.intCast_mul, Rat.intCast_mul, num_eq p, num_eq q]
    grind
  have h2 : (((f * ((p.den : Int) * (q.den : Int)) : Int)) : Rat) = (f : Rat) * (((p.den : Int) : Rat) * ((q.den : Int) : Rat)) := by
    rw [Rat.intCast_mul, Rat.intCast_mul]
  have hD : (0 : Rat) < ((p.den : Int) : Rat) * ((q.den : Int) : Rat) := Rat.mul_pos (den_pos' p) (den_pos' q)
  rw [← Rat.intCast_le_intCast, ← Rat.intCast_le_intCast, Rat.intCast_neg, h1, h2]
  generalize ((p.den : Int) : Rat) * ((q.den : Int) : Rat) = K at hD ⊢
  generalize p - q = v
  generalize (f : Rat) = f
  constructor
  · intro ⟨a, b⟩
    have a' : (-f) * K ≤ v * K := by grind
    exact ⟨Rat.le_of_mul_le_mul_right a' hD, Rat.le_of_mul_le_mul_right b hD⟩
  · intro ⟨a, b⟩
    have l1 := Rat.mul_le_mul_of_nonneg_right a (Rat.le_of_lt hD)
    have l2 := Rat.mul_le_mul_of_nonneg_right b (Rat.le_of_lt hD)
    exact ⟨by grind, l2⟩
instance (b e far : Int) (s : Rat) : Decidable (nearAt b e far s) := by unfold nearAt; infer_instance
instance (w o : Way) (far : Int) (s : Rat) : Decidable (nearW w o far s) := by unfold nearW; infer_instance
theorem posQ_den (a b : Int) (q : Rat) : (posQ a b q).den ≤ q.den := by
  have := (frac_small (a * ((q.den : Int) - q.num) + b * q.num) (q.den : Int) (by have := q.den_pos; omega)).2
  exact Nat.le_trans this (by simp)
theorem posQ_num {a b : Int} {q : Rat} {B : Int} (ha : 0 ≤ a ∧ a ≤ B) (hb : 0 ≤ b ∧ b ≤ B) (h0 : 0 ≤ q) (h1 : q ≤ 1) : ((posQ a b q).num.natAbs : Int) ≤ B * q.den := by
  have h := (frac_small (a * ((q.den : Int) - q.num) + b * q.num) (q.den : Int) (by have := q.den_pos; omega)).1
  obtain ⟨n0, n1⟩ := num_le_den h0 h1
  have e1 : 0 ≤ a * ((q.den : Int) - q.num) := Int.mul_nonneg ha.1 (by omega)
  have e2 : 0 ≤ b * q.num := Int.mul_nonneg hb.1 n0
  have e3 : a * ((q.den : Int) - q.num) ≤ B * ((q.den : Int) - q.num) := Int.mul_le_mul_of_nonneg_right ha.2 (by omega)
  have e4 : b * q.num ≤ B * q.num := Int.mul_le_mul_of_nonneg_right hb.2 n0
  have e5 : B * ((q.den : Int) - q.num) + B * q.num = B * q.den := by rw [← Int.mul_add]; congr 1; omega
  have h' : ((posQ a b q).num.natAbs : Int) ≤ ((a * ((q.den : Int) - q.num) + b * q.num).natAbs : Int) := by exact_mod_cast h
  omega
/-- a little ahead -/
theorem near_ahead {b e far : Int} {t : Rat} {K : Int} (hK : 1 ≤ K) (hs : -K ≤ e - b ∧ e - b ≤ K) (h : nearAt b e (far - 1) t) {s : Rat} (h0 : s ≤ t) (h1 : (t - s) * (K : Rat) ≤ 1) : nearAt b e far s := by
  unfold nearAt at h ⊢
  obtain ⟨a1, a2⟩ := h
  rw [Rat.intCast_sub] at a1 a2
  have c1 : ((-K : Int) : Rat) ≤ ((e - b : Int) : Rat) := by exact_mod_cast hs.1
  have c2 : ((e - b : Int) : Rat) ≤ (K : Rat) := by exact_mod_cast hs.2
  rw [Rat.intCast_neg, Rat.intCast_sub] at c1
  rw [Rat.intCast_sub] at c2
  generalize (e : Rat) = y at *
  generalize (b : Rat) = x at *
  generalize (far : Rat) = f at *
  generalize (K : Rat) = k at *
  have d0 : 0 ≤ t - s := by grind
  have m1 := Rat.mul_le_mul_of_nonneg_left c1 d0
  have m2 := Rat.mul_le_mul_of_nonneg_left c2 d0
  have one : ((1 : Int) : Rat) = 1 := rfl
  rw [one] at a1 a2
  have e1 : x + (y - x) * s = x + (y - x) * t - (t - s) * (y - x) := by grind
  rw [e1]
  exact ⟨by grind, by grind⟩
theorem dO_inj {a b : Option (Rat × Rat)} (h : dO a = dO b) : a = b := by
  cases a with
  | none => cases b with
    | none => rfl
    | some t => cases h
  | some s => cases b with
    | none => cases h
    | some t =>
      simp [dI] at h
      exact congrArg some (Prod.ext (dQ_inj h.1) (dQ_inj h.2))
theorem pq_O (a : Option (Rat × Rat)) : pq (dO a) = true ∧ dep (dO a) ≤ 64 := by
  cases a with
  | none => exact ⟨rfl, by simp [dO, dep]⟩
  | some t => exact ⟨rfl, by simp [dO, dI, dQ, dep, depL]⟩
theorem nm_OO (a b : Option (Rat × Rat)) : nm (dO a) (dO b) = true := by cases a <;> cases b <;> rfl
theorem nm_O (a b : Option (Rat × Rat)) {S : Sto} : neD S [dO a, dO b] = some (.bl (!decide (a = b)), S) := by
  rw [neD_pq (pq_O a).1 (pq_O b).1 (nm_OO a b) (pq_O a).2 (pq_O b).2]
  by_cases h : a = b
  · subst h; simp
  · have : dO a ≠ dO b := fun z => h (dO_inj z)
    simp [h, this]
theorem eq_Q (a b : Rat) {S : Sto} : eqD S [dQ a, dQ b] = some (.bl (decide (a = b)), S) := by
  rw [eqD_pq (by rfl) (by rfl) (by rfl) (by simp [dQ, dep, depL]) (by simp [dQ, dep, depL])]
  by_cases h : a = b
  · subst h; simp
  · have : dQ a ≠ dQ b := fun z => h (dQ_inj z)
    simp [h, this]
theorem ne_bl (a b : Bool) {S : Sto} : neD S [.bl a, .bl b] = some (.bl (a != b), S) := by cases a <;> cases b <;> rfl
theorem ne_I (a b : Rat × Rat) {S : Sto} : neD S [dI a, dI b] = some (.bl (!decide (a = b)), S) := by
  have := nm_O (some a) (some b) (S := S)
  simpa using this
theorem back_frac (q : Rat) : D.tup [.int ((q.den : Int) - q.num), .int (q.den : Int)] = dQ (1 - q) := by
  have h1 : (1 - q : Rat) = mkRat ((q.den : Int) - q.num) q.den := by
    have hq := Rat.mkRat_self q
    have hd : ((q.den : Nat) : Rat) ≠ 0 := by
      have := q.den_nz
      exact_mod_cast this
    rw [Rat.mkRat_eq_div]
    conv => lhs; rw [← hq, Rat.mkRat_eq_div]
    rw [Rat.intCast_sub]
    have : (((q.den : Nat) : Int) : Rat) = ((q.den : Nat) : Rat) := Rat.intCast_natCast _
    rw [this]
    grind
  have hr : ((q.den : Int) - q.num).natAbs.Coprime q.den := by
    have := q.reduced
    have e : Int.gcd ((q.den : Int) - q.num) (q.den : Int) = 1 := by
      have : Int.gcd (q.num) (q.den : Int) = 1 := this
      rw [← this]
      have e1 : (q.den : Int) - q.num = -(q.num - q.den * 1) := by omega
      rw [e1, Int.neg_gcd, Int.gcd_sub_mul_left_left]
    exact e
  have h2 : (1 - q : Rat) = Rat.mk' ((q.den : Int) - q.num) q.den q.den_nz hr := by
    rw [h1, Rat.mk_eq_mkRat]
  rw [h2]
  rfl
theorem within_pred2 {P : Rat → Prop} (p0 : P 0) (p1 : P 1) {b e far : Int} (h1 : b ≠ e → P ((((-far) - b : Int) : Rat) / ((e - b : Int) : Rat))) (h2 : b ≠ e → P (((far - b : Int) : Rat) / ((e - b : Int) : Rat))) {t : Rat × Rat} (h : withinR b e far = some t) : P t.1 ∧ P t.2 := by
  unfold withinR at h
  rw [show (0 - far - b : Int) = -far - b by omega] at h
  by_cases q : b = e
  · rw [if_pos q] at h
    generalize (if b < 0 then -b else b) = a at h
    by_cases c : a ≤ far
    · rw [if_pos c] at h
      cases h
      exact ⟨p0, p1⟩
    · rw [if_neg c] at h
      cases h
  · rw [if_neg q] at h
    have k1 := h1 q
    have k2 := h2 q
    dsimp only at h
    generalize (((-far - b : Int) : Rat) / ((e - b : Int) : Rat)) = f at h k1
    generalize (((far - b : Int) : Rat) / ((e - b : Int) : Rat)) = l at h k2
    have k3 : P (if l < f then l else f) := by split <;> assumption
    have k4 : P (if l < f then f else l) := by split <;> assumption
    generalize (if l < f then l else f) = f' at h k3
    generalize (if l < f then f else l) = l' at h k4
    by_cases c : lesR l' 1 < graR f' 0
    · rw [if_pos c] at h
      cases h
    · rw [if_neg c] at h
      cases h
      exact ⟨gra_pred k3 p0, les_pred k4 p1⟩
/-! ### by hand: all times at which a way comes to the rim -/
def hitR (b e g : Int) : List Rat := if e - b ≠ 0 ∧ 0 ≤ (g - b) * (e - b) ∧ (g - b) * (e - b) ≤ (e - b) * (e - b) then [((g - b : Int) : Rat) / ((e - b : Int) : Rat)] else []
def hitsR (b e far : Int) : List Rat := [0, 1] ++ hitR b e (-far) ++ hitR b e far
theorem div_unit (p v : Int) (hv : v ≠ 0) : (0 ≤ p * v ∧ p * v ≤ v * v) ↔ (0 ≤ (p : Rat) / (v : Rat) ∧ (p : Rat) / (v : Rat) ≤ 1) := by
  have hv' : (v : Rat) ≠ 0 := by exact_mod_cast hv
  have hvv : (0 : Rat) < (v : Rat) * (v : Rat) := by
    rcases Int.lt_or_gt_of_ne hv with h | h
    · have : (v : Rat) < 0 := by exact_mod_cast h
      have := Rat.mul_pos (show (0 : Rat) < -(v : Rat) by grind) (show (0 : Rat) < -(v : Rat) by grind)
      grind
    · have : (0 : Rat) < (v : Rat) := by exact_mod_cast h
      exact Rat.mul_pos this this
  have e1 : ((p * v : Int) : Rat) = (p : Rat) / (v : Rat) * ((v : Rat) * (v : Rat)) := by
    rw [Rat.intCast_mul]
    grind
  rw [← Rat.intCast_le_intCast, ← Rat.intCast_le_intCast (a := p * v), e1, Rat.intCast_mul]
  generalize (p : Rat) / (v : Rat) = x
  generalize (v : Rat) * (v : Rat) = y at hvv
  have z : ((0 : Int) : Rat) = 0 := rfl
  rw [z]
  constructor
  · intro ⟨a, b⟩
    exact ⟨Rat.le_of_mul_le_mul_right (by grind) hvv, Rat.le_of_mul_le_mul_right (c := y) (by grind) hvv⟩
  · intro ⟨a, b⟩
    have l1 := Rat.mul_le_mul_of_nonneg_right a (Rat.le_of_lt hvv)
    have l2 := Rat.mul_le_mul_of_nonneg_right b (Rat.le_of_lt hvv)
    exact ⟨by grind, by grind⟩
theorem hit_mem {b e g : Int} {q : Rat} (h : q ∈ hitR b e g) : 0 ≤ q ∧ q ≤ 1 ∧ b ≠ e ∧ q = ((g - b : Int) : Rat) / ((e - b : Int) : Rat) := by
  unfold hitR at h
  split at h
  · rename_i c
    rw [List.mem_singleton] at h
    subst h
    have := (div_unit (g - b) (e - b) c.1).mp c.2
    exact ⟨this.1, this.2, by omega, rfl⟩
  · cases h
theorem hit_of {b e g : Int} (hne : b ≠ e) (h0 : 0 ≤ ((g - b : Int) : Rat) / ((e - b : Int) : Rat)) (h1 : ((g - b : Int) : Rat) / ((e - b : Int) : Rat) ≤ 1) : ((g - b : Int) : Rat) / ((e - b : Int) : Rat) ∈ hitR b e g := by
  unfold hitR
  rw [if_pos ⟨by omega, (div_unit (g - b) (e - b) (by omega)).mpr ⟨h0, h1⟩⟩]
  exact List.mem_singleton.mpr rfl
theorem hits_mem {b e far : Int} {q : Rat} (h : q ∈ hitsR b e far) : 0 ≤ q ∧ q ≤ 1 := by
  unfold hitsR at h
  rcases List.mem_append.mp h with h | h
  · rcases List.mem_append.mp h with h | h
    · simp at h
      rcases h with rfl | rfl <;> exact ⟨by decide, by decide⟩
    · exact ⟨(hit_mem h).1, (hit_mem h).2.1⟩
  · exact ⟨(hit_mem h).1, (hit_mem h).2.1⟩
theorem hits_len (b e far : Int) : (hitsR b e far).length ≤ 4 := by
  unfold hitsR hitR
  split <;> split <;> simp
theorem within_hits {b e far : Int} (hf : 0 ≤ far) {t : Rat × Rat} (h : withinR b e far = some t) : t.1 ∈ hitsR b e far ∧ t.2 ∈ hitsR b e far := by
  have sp := within_span b e far hf
  rw [h] at sp
  obtain ⟨a0, a1, a2, a3⟩ := sp
  have := within_pred2 (P := fun q => 0 ≤ q → q ≤ 1 → q ∈ hitsR b e far) (fun _ _ => by simp [hitsR]) (fun _ _ => by simp [hitsR])
    (fun hne h0 h1 => by unfold hitsR; exact List.mem_append_left _ (List.mem_append_right _ (hit_of hne h0 h1))) (fun hne h0 h1 => by unfold hitsR; exact List.mem_append_right _ (hit_of hne h0 h1)) h
  exact ⟨this.1 (by grind) (by grind), this.2 (by grind) (by grind)⟩
def wHits (w o : Way) (far : Int) : List Rat := hitsR (w.1.1 - o.1.1) (w.2.1 - o.2.1) far ++ hitsR (w.1.2 - o.1.2) (w.2.2 - o.2.2) far
theorem when_hits {w o : Way} {far : Int} (hf : 0 ≤ far) {t : Rat × Rat} (h : whenR w o far = some t) : t.1 ∈ wHits w o far ∧ t.2 ∈ wHits w o far := by
  unfold whenR at h
  split at h
  · cases h
  · rename_i t0 e0
    split at h
    · cases h
    · rename_i t1 e1
      have q0 := within_hits hf e0
      have q1 := within_hits hf e1
      have z0 : (0 : Rat) ∈ wHits w o far := by simp [wHits, hitsR]
      have z1 : (1 : Rat) ∈ wHits w o far := by simp [wHits, hitsR]
      split at h
      · cases h
      · cases h
        exact ⟨gra_pred (P := fun q => q ∈ wHits w o far) (gra_pred (P := fun q => q ∈ wHits w o far) z0 (List.mem_append_left _ q0.1)) (List.mem_append_right _ q1.1), les_pred (P := fun q => q ∈ wHits w o far) (les_pred (P := fun q => q ∈ wHits w o far) z1 (List.mem_append_left _ q0.2)) (List.mem_append_right _ q1.2)⟩
theorem foldl_les : ∀ (ts : List Rat) (a : Rat), (ts.foldl lesR a = a ∨ ts.foldl lesR a ∈ ts) ∧ ts.foldl lesR a ≤ a ∧ ∀ t ∈ ts, ts.foldl lesR a ≤ t
  | [], a => ⟨.inl rfl, by show a ≤ a; grind, fun t h => by cases h⟩
  | t :: ts, a => by
    obtain ⟨h1, h2, h3⟩ := foldl_les ts (lesR a t)
    have hl := (les_le a t (lesR a t)).mp (by grind)
    refine ⟨?_, by show ts.foldl lesR (lesR a t) ≤ a; grind, fun s hs => ?_⟩
    · show ts.foldl lesR (lesR a t) = a ∨ _
      rcases h1 with h1 | h1
      · rw [show (t :: ts).foldl lesR a = ts.foldl lesR (lesR a t) from rfl, h1]
        unfold lesR
        split
        · exact .inr (by simp)
        · exact .inl rfl
      · exact .inr (List.mem_cons_of_mem _ h1)
    · show ts.foldl lesR (lesR a t) ≤ s
      rcases List.mem_cons.mp hs with rfl | hs
      · grind
      · exact h3 s hs
theorem foldl_gra : ∀ (ts : List Rat) (a : Rat), (ts.foldl graR a = a ∨ ts.foldl graR a ∈ ts) ∧ a ≤ ts.foldl graR a ∧ ∀ t ∈ ts, t ≤ ts.foldl graR a
  | [], a => ⟨.inl rfl, by show a ≤ a; grind, fun t h => by cases h⟩
  | t :: ts, a => by
    obtain ⟨h1, h2, h3⟩ := foldl_gra ts (graR a t)
    have hl := (gra_le a t (graR a t)).mp (by grind)
    refine ⟨?_, by show a ≤ ts.foldl graR (graR a t); grind, fun s hs => ?_⟩
    · show ts.foldl graR (graR a t) = a ∨ _
      rcases h1 with h1 | h1
      · rw [show (t :: ts).foldl graR a = ts.foldl graR (graR a t) from rfl, h1]
        unfold graR
        split
        · exact .inr (by simp)
        · exact .inl rfl
      · exact .inr (List.mem_cons_of_mem _ h1)
    · show s ≤ ts.foldl graR (graR a t)
      rcases List.mem_cons.mp hs with rfl | hs
      · grind
      · exact h3 s hs
/-- the least and the greatest of the times that are of a kind -/
def spanL : List Rat → Option (Rat × Rat)
  | [] => none
  | t :: ts => some ((t :: ts).foldl lesR t, (t :: ts).foldl graR t)
theorem span_hits {P : Rat → Prop} [DecidablePred P] {a : Option (Rat × Rat)} {hs : List Rat} (h : Span P a) (hu : ∀ q ∈ hs, 0 ≤ q ∧ q ≤ 1) (hm : ∀ t, a = some t → t.1 ∈ hs ∧ t.2 ∈ hs) : spanL (hs.filter fun q => decide (P q)) = a := by
  cases a with
  | none =>
    have : hs.filter (fun q => decide (P q)) = [] := by
      rw [List.filter_eq_nil_iff]
      intro q hq
      simpa using h q (hu q hq).1 (hu q hq).2
    rw [this]
    rfl
  | some t =>
    obtain ⟨a0, a1, a2, a3⟩ := h
    obtain ⟨m1, m2⟩ := hm t rfl
    have f1 : t.1 ∈ hs.filter (fun q => decide (P q)) := List.mem_filter.mpr ⟨m1, by simpa using ((a3 t.1).mpr ⟨by grind, a1⟩).2.2⟩
    have f2 : t.2 ∈ hs.filter (fun q => decide (P q)) := List.mem_filter.mpr ⟨m2, by simpa using ((a3 t.2).mpr ⟨a1, by grind⟩).2.2⟩
    have bd : ∀ q ∈ hs.filter (fun q => decide (P q)), t.1 ≤ q ∧ q ≤ t.2 := fun q hq => by
      obtain ⟨q1, q2⟩ := List.mem_filter.mp hq
      have := hu q q1
      exact (a3 q).mp ⟨this.1, this.2, by simpa using q2⟩
    cases hf : hs.filter (fun q => decide (P q)) with
    | nil => rw [hf] at f1; cases f1
    | cons x xs =>
      rw [hf] at f1 f2 bd
      obtain ⟨g1, g2, g3⟩ := foldl_les (x :: xs) x
      obtain ⟨k1, k2, k3⟩ := foldl_gra (x :: xs) x
      have e1 : (x :: xs).foldl lesR x ∈ x :: xs := g1.elim (fun e => by rw [e]; exact List.mem_cons_self) id
      have e2 : (x :: xs).foldl graR x ∈ x :: xs := k1.elim (fun e => by rw [e]; exact List.mem_cons_self) id
      have b1 := bd _ e1
      have b2 := bd _ e2
      have c1 := g3 _ f1
      have c2 := k3 _ f2
      show some ((x :: xs).foldl lesR x, (x :: xs).foldl graR x) = some t
      exact congrArg some (Prod.ext (by show (x :: xs).foldl lesR x = t.1; grind) (by show (x :: xs).foldl graR x = t.2; grind))
theorem nearAt_int (b e far : Int) (q : Rat) : nearAt b e far q ↔ -far * (q.den : Int) ≤ b * ((q.den : Int) - q.num) + e * q.num ∧ b * ((q.den : Int) - q.num) + e * q.num ≤ far * (q.den : Int) := by
  have h := posQ_eq b e q
  unfold nearAt
  rw [← h]
  unfold posQ
  rw [le_div_r (den_pos' q), div_le_r (den_pos' q), ← Rat.intCast_neg, ← Rat.intCast_mul, ← Rat.intCast_mul, Rat.intCast_le_intCast, Rat.intCast_le_intCast]
end NT
/-! boards, dicts of pairs, truths of lists -/
namespace NT
open PySem L2
theorem asBls_bls : ∀ bs : List Bool, asBls (bs.map D.bl) = some bs
  | [] => rfl
  | b :: bs => by simp [asBls, asBls_bls bs]
theorem all_bls {S : Sto} (bs : List Bool) : allD S [.lst (bs.map D.bl)] = some (.bl (bs.all id), S) := by simp [allD, asBls_bls]
theorem any_bls {S : Sto} (bs : List Bool) : anyD S [.lst (bs.map D.bl)] = some (.bl (bs.any id), S) := by simp [anyD, asBls_bls]
/-- all, over a comprehension -/
theorem all_map {A : Type} {S : Sto} (f : A → Bool) (xs : List A) : allD S [.lst (xs.map fun x => D.bl (f x))] = some (.bl (xs.all f), S) := by
  have := all_bls (S := S) (xs.map f)
  rw [List.map_map] at this
  rw [show (fun x => D.bl (f x)) = D.bl ∘ f from rfl, this, List.all_map]
  rfl
theorem any_map {A : Type} {S : Sto} (f : A → Bool) (xs : List A) : anyD S [.lst (xs.map fun x => D.bl (f x))] = some (.bl (xs.any f), S) := by
  have := any_bls (S := S) (xs.map f)
  rw [List.map_map] at this
  rw [show (fun x => D.bl (f x)) = D.bl ∘ f from rfl, this, List.any_map]
  rfl
theorem all_rep {S : Sto} (k : Nat) : allD S [.lst (List.replicate k (.bl true))] = some (.bl true, S) := by
  have := all_bls (S := S) (List.replicate k true)
  rw [List.map_replicate] at this
  rw [this]
  simp
theorem all_const {A : Type} {S : Sto} (xs : List A) : allD S [.lst (xs.map fun _ => D.bl true)] = some (.bl true, S) := by
  rw [all_map (fun _ => true) xs]
  simp
theorem rng1 {cf : Nat → List D → Sto → R D} {a : E} {ρ : Env} {S S1 : Sto} {j : Int} (h : (ev2 cf a).1 ρ S = .ok (.int j) S1) (hj : -1000000 ≤ j ∧ j ≤ 1000000) : evIt cf (.range1 a) ρ S = .ok (rngD 0 j.toNat, []) S1 := by
  have hb : -(2 ^ 62) ≤ j ∧ j < 2 ^ 62 := ⟨by omega, by omega⟩
  rw [ei_range1]
  show (((ev2 cf a).1 ρ S).bind _) = _
  rw [h, rbind_ok]
  exact if_pos hb
theorem rng2 {cf : Nat → List D → Sto → R D} {a b : E} {ρ : Env} {S S1 S2 : Sto} {i j : Int} (h : (ev2 cf a).1 ρ S = .ok (.int i) S1) (h' : (ev2 cf b).1 ρ S1 = .ok (.int j) S2) (hi : -1000000 ≤ i ∧ i ≤ 1000000) (hj : -1000000 ≤ j ∧ j ≤ 1000000) : evIt cf (.range2 a b) ρ S = .ok (rngD i (j - i).toNat, []) S2 := by
  have hb : -(2 ^ 62) ≤ i ∧ i < 2 ^ 62 ∧ -(2 ^ 62) ≤ j ∧ j < 2 ^ 62 := ⟨by omega, by omega, by omega, by omega⟩
  rw [ei_range2]
  show (((ev2 cf a).1 ρ S).bind _) = _
  rw [h, rbind_ok]
  show (((ev2 cf b).1 ρ S1).bind _) = _
  rw [h', rbind_ok]
  exact if_pos hb
/-! dicts made of pairs -/
theorem putD_new {κ : Type} [DecidableEq κ] {kvs : List (κ × D)} {k : κ} {v : D} (h : k ∉ kvs.map (·.1)) : putD kvs k v = kvs ++ [(k, v)] := by
  unfold putD
  rw [if_neg]
  simp only [List.any_eq_true, decide_eq_true_eq, not_exists, not_and]
  intro p hp e
  exact h (List.mem_map.mpr ⟨p, hp, e⟩)
theorem mergeD_app : ∀ (more kvs : List (Key × D)), (kvs.map (·.1) ++ more.map (·.1)).Nodup → mergeD kvs more = kvs ++ more
  | [], kvs, _ => by simp [mergeD]
  | kv :: more, kvs, h => by
    show mergeD (putD kvs kv.1 kv.2) more = _
    have hn : kv.1 ∉ kvs.map (·.1) := fun z => by
      have := (List.nodup_append.mp h).2.2 _ z _ (List.mem_map.mpr ⟨kv, List.mem_cons_self, rfl⟩)
      exact this rfl
    rw [putD_new hn, mergeD_app more]
    · simp
    · simpa using h
theorem mergeD_nodup {kvs : List (Key × D)} (h : (kvs.map (·.1)).Nodup) : mergeD [] kvs = kvs := by
  rw [mergeD_app kvs [] (by simpa using h)]
  rfl
theorem look_mem {kvs : List (Key × D)} (h : (kvs.map (·.1)).Nodup) : ∀ {k : Key} {v : D}, (k, v) ∈ kvs → look kvs k = some v := by
  induction kvs with
  | nil => intro k v z; cases z
  | cons kv kvs ih =>
    intro k v z
    rcases List.mem_cons.mp z with e | z
    · subst e
      simp [look]
    · have hne : kv.1 ≠ k := fun e => by
        have := (List.nodup_cons.mp (by simpa using h : (kv.1 :: kvs.map (·.1)).Nodup)).1
        exact this (List.mem_map.mpr ⟨(k, v), z, e.symm⟩)
      have := ih (List.nodup_cons.mp (by simpa using h : (kv.1 :: kvs.map (·.1)).Nodup)).2 z
      simp only [look, List.find?_cons, hne, decide_false] at this ⊢
      exact this
/-- an ints' dict, from pairs -/
def kvi {A : Type} (k : A → Int) (v : A → D) (xs : List A) : List (Key × D) := xs.map fun x => (.inl (k x), v x)
theorem kvi_keys {A : Type} (k : A → Int) (v : A → D) (xs : List A) : (kvi k v xs).map (·.1) = xs.map fun x => (.inl (k x) : Key) := by simp [kvi, Function.comp_def]
theorem kvi_nodup {A : Type} {k : A → Int} {v : A → D} {xs : List A} (h : (xs.map k).Nodup) : ((kvi k v xs).map (·.1)).Nodup := by
  rw [kvi_keys]
  have : (xs.map fun x => (.inl (k x) : Key)) = (xs.map k).map Sum.inl := by simp [Function.comp_def]
  rw [this]
  rw [List.nodup_iff_pairwise_ne, List.pairwise_map]
  exact (List.nodup_iff_pairwise_ne.mp h).imp fun a e => a (Sum.inl.inj e)
theorem pairsOf_kvi {A : Type} (k : A → Int) (v : A → D) : ∀ xs : List A, pairsOf (xs.map fun x => D.tup [.int (k x), v x]) = some (kvi k v xs)
  | [] => rfl
  | x :: xs => by
    rw [List.map_cons, pairsOf, pairsOf_kvi k v xs]
    rfl
theorem dict_kvi {A : Type} {S : Sto} (k : A → Int) (v : A → D) {xs : List A} (h : (xs.map k).Nodup) : dictD S [.lst (xs.map fun x => D.tup [.int (k x), v x])] = some (.ref S.length, S ++ [.dK (kvi k v xs)]) := by
  simp [dictD, pairsOf_kvi, mergeD_nodup (kvi_nodup (v := v) h)]
theorem look_kvi {A : Type} {k : A → Int} {v : A → D} {xs : List A} (h : (xs.map k).Nodup) {x : A} (hx : x ∈ xs) : look (kvi k v xs) (.inl (k x)) = some (v x) := look_mem (kvi_nodup h) (List.mem_map.mpr ⟨x, hx, rfl⟩)
theorem idx_kvi {A : Type} {S : Sto} {i : Nat} {k : A → Int} {v : A → D} {xs : List A} (hc : S[i]? = some (.dK (kvi k v xs))) (h : (xs.map k).Nodup) {x : A} (hx : x ∈ xs) : idxD S [.ref i, .int (k x)] = some (v x, S) := by
  simp [idxD, dGet, asSeq, hc, keyOf, look_kvi h hx]
theorem keys_kvi {A : Type} {S : Sto} {i : Nat} {k : A → Int} {v : A → D} {xs : List A} (hc : S[i]? = some (.dK (kvi k v xs))) : itemsOf S (.ref i) = some ((xs.map k).map D.int) := by
  simp [itemsOf, asSeq, hc, dictKeys, kvi, keyD, Function.comp_def]
theorem sorted_up {ns : List Int} (h : ns.Pairwise (· < ·)) : (ns.mergeSort fun a b => decide (a ≤ b)) = ns :=
  List.mergeSort_of_pairwise (h.imp fun a => by simpa using Int.le_of_lt a)
theorem up_nodup {ts : List Thing} (h : ts.Pairwise fun a b => a.n < b.n) : (ts.map (·.n)).Nodup := by
  rw [List.nodup_iff_pairwise_ne, List.pairwise_map]
  exact h.imp fun a => by omega
/-- the nearest, all of them, row by row -/
theorem prLe_trans : ∀ a b c : Int × Int, prLe a b = true → prLe b c = true → prLe a c = true := by
  intro a b c
  simp only [prLe, decide_eq_true_eq]
  omega
theorem prLe_total : ∀ a b : Int × Int, (prLe a b || prLe b a) = true := by
  intro a b
  simp only [prLe, Bool.or_eq_true, decide_eq_true_eq]
  omega
/-- the first so many of the rows in order, as many as are no farther: just those -/
theorem take_near {rs : List (Int × Int)} {far : Int} (h : rs.Pairwise fun a b => prLe a b = true) : rs.take (rs.filter fun q => decide (q.1 ≤ far)).length = rs.filter fun q => decide (q.1 ≤ far) := by
  induction rs with
  | nil => rfl
  | cons r rs ih =>
    have hp := List.pairwise_cons.mp h
    by_cases hr : r.1 ≤ far
    · have := ih hp.2
      simp only [List.filter_cons, hr, decide_true, if_true, List.length_cons, List.take_succ_cons]
      rw [this]
    · have : (r :: rs).filter (fun q => decide (q.1 ≤ far)) = [] := by
        rw [List.filter_eq_nil_iff]
        intro q hq
        rcases List.mem_cons.mp hq with rfl | hq
        · simpa using hr
        · have := hp.1 q hq
          simp only [prLe, decide_eq_true_eq] at this
          simp only [decide_eq_true_eq]
          omega
      rw [this]
      rfl
theorem rows_sorted (ts : List Thing) (p : Int × Int) : ((ts.map (rowOf p)).mergeSort prLe).Pairwise fun a b => prLe a b = true := List.pairwise_mergeSort prLe_trans prLe_total _
theorem near_len (ts : List Thing) (p : Int × Int) (far : Int) : (nearL ts p far).length ≤ ts.length := by
  unfold nearL
  rw [List.length_map]
  exact List.length_filter_le _ _
/-- the nearest, as many as are no farther, are those -/
theorem nearest_near {ts : List Thing} {p : Int × Int} {far : Int} (hu : ts.Pairwise fun a b => a.n < b.n) : ((nearestL ts p (nearL ts p far).length).mergeSort fun a b => decide (a ≤ b)) = nearL ts p far := by
  have hlen : (nearL ts p far).length = (((ts.map (rowOf p)).mergeSort prLe).filter fun q => decide (q.1 ≤ far)).length := by
    rw [← rows_near, List.length_map]
    exact (((List.mergeSort_perm (ts.map (rowOf p)) prLe).symm.filter _)).length_eq
  have e : nearestL ts p (nearL ts p far).length = (((ts.map (rowOf p)).mergeSort prLe).filter fun q => decide (q.1 ≤ far)).map (·.2) := by
    unfold nearestL
    rw [show ((nearL ts p far).length : Int).toNat = (nearL ts p far).length from rfl, hlen, take_near (rows_sorted ts p)]
  rw [e]
  have hperm : ((((ts.map (rowOf p)).mergeSort prLe).filter fun q => decide (q.1 ≤ far)).map (·.2)).Perm (nearL ts p far) := by
    rw [← rows_near]
    exact ((List.mergeSort_perm (ts.map (rowOf p)) prLe).filter _).map _
  have s1 := List.pairwise_mergeSort (le := fun a b : Int => decide (a ≤ b)) (by intro a b c; simp; omega) (by intro a b; simp; omega) ((((ts.map (rowOf p)).mergeSort prLe).filter fun q => decide (q.1 ≤ far)).map (·.2))
  have up : (nearL ts p far).Pairwise (· < ·) := by
    unfold nearL
    rw [List.pairwise_map]
    exact List.Pairwise.filter _ hu
  have p2 := (List.mergeSort_perm ((((ts.map (rowOf p)).mergeSort prLe).filter fun q => decide (q.1 ≤ far)).map (·.2)) fun a b => decide (a ≤ b)).trans hperm
  exact p2.eq_of_pairwise (le := fun a b : Int => a ≤ b) (fun a b _ _ h1 h2 => by omega) (s1.imp fun h => by simpa using h) (up.imp fun h => Int.le_of_lt h)
end NT
namespace NT.K
open PySem L2 NT
def top (i : Nat) : PySem.Stmt := PySem.Challenge.pw_neartold_k16_whole_distances.main.body.getD i (.Pass ⟨0, 0, 0, 0⟩)
abbrev i_distance : Nat := 0
abbrev i_near : Nat := 1
abbrev i_nearest : Nat := 2
abbrev i__law_draw : Nat := 3
abbrev i__law_pick : Nat := 4
abbrev i__law_place : Nat := 5
abbrev i__law_thing : Nat := 6
abbrev i__law_board : Nat := 7
abbrev i__law_apart : Nat := 8
abbrev i__law_mirrored : Nat := 9
abbrev i__law_turned : Nat := 10
abbrev i__law_board_of : Nat := 11
abbrev i__law_stays : Nat := 12
abbrev i_law : Nat := 13
def b_distance : Sts :=
  (.cons (.ret (.bi .max (.cons (.bi .abs (.cons (.bin .sub (.idx (.var 0) (.lit (.int 0))) (.idx (.var 1) (.lit (.int 0)))) .nil)) (.cons (.bi .abs (.cons (.bin .sub (.idx (.var 0) (.lit (.int 1))) (.idx (.var 1) (.lit (.int 1)))) .nil)) .nil))))
  .nil)
def b_near : Sts :=
  (.cons (.ret (.bt .tuple (.cons (.comp (.nm 3) (.seq (.var 0)) (.cmp .le (.call 0 (.cons (.idx (.var 3) (.lit (.int 1))) (.cons (.var 1) .nil))) (.var 2)) (.idx (.var 3) (.lit (.int 0))) [3]) .nil)))
  .nil)
def b_nearest : Sts :=
  (.cons (.ret (.bt .tuple (.cons (.comp (.tp [3, 4]) (.seq (.slc (.bi .sorted (.cons (.comp (.nm 5) (.seq (.var 0)) .no (.tup (.cons (.call 0 (.cons (.idx (.var 5) (.lit (.int 1))) (.cons (.var 1) .nil))) (.cons (.idx (.var 5) (.lit (.int 0))) .nil))) [5]) .nil)) .no (.var 2))) .no (.var 4) [3, 4]) .nil)))
  .nil)
def b__law_draw : Sts :=
  (.cons (.exp (.mth .append (.var 1) (.cons (.lit (.int 0)) .nil)))
  (.cons (.asg (.nm 3) (.bi .len (.cons (.var 1) .nil)))
  (.cons (.asg (.nm 4) (.lit (.int 0)))
  (.cons (.ite (.var 0) (.cons (.asg (.nm 4) (.idx (.var 0) (.bin .mod (.var 3) (.bi .len (.cons (.var 0) .nil)))))
  .nil) .nil)
  (.cons (.asg (.nm 5) (.bin .mod (.bin .add (.var 4) (.bin .mul (.lit (.int 104729)) (.var 3))) (.lit (.int 4294967291))))
  (.cons (.asg (.nm 5) (.bin .mod (.bin .mul (.bin .mod (.bin .mul (.var 5) (.var 5)) (.lit (.int 4294967279))) (.lit (.int 48271))) (.lit (.int 4294967291))))
  (.cons (.asg (.nm 6) (.bin .mod (.bin .mul (.bin .mod (.bin .mul (.var 5) (.var 5)) (.lit (.int 4294967279))) (.lit (.int 69621))) (.lit (.int 4294967291))))
  (.cons (.ret (.bin .mod (.bin .add (.bin .mul (.bin .fdiv (.var 5) (.lit (.int 64))) (.lit (.int 67108864))) (.bin .fdiv (.var 6) (.lit (.int 64)))) (.var 2)))
  .nil))))))))
def b__law_pick : Sts :=
  (.cons (.ret (.idx (.var 2) (.call 3 (.cons (.var 0) (.cons (.var 1) (.cons (.bi .len (.cons (.var 2) .nil)) .nil))))))
  .nil)
def b__law_place : Sts :=
  (.cons (.asg (.nm 2) (.call 4 (.cons (.var 0) (.cons (.var 1) (.cons (.lst (.cons (.lit (.int 6)) (.cons (.lit (.int 30)) (.cons (.lit (.int 200)) .nil)))) .nil)))))
  (.cons (.asg (.nm 3) (.call 4 (.cons (.var 0) (.cons (.var 1) (.cons (.lst (.cons (.lit (.int 0)) (.cons (.lit (.int 0)) (.cons (.bin .sub (.lit (.int 200)) (.var 2)) .nil)))) .nil)))))
  (.cons (.ret (.tup (.cons (.bin .add (.var 3) (.call 3 (.cons (.var 0) (.cons (.var 1) (.cons (.var 2) .nil))))) (.cons (.bin .add (.var 3) (.call 3 (.cons (.var 0) (.cons (.var 1) (.cons (.var 2) .nil))))) .nil))))
  .nil)))
def b__law_thing : Sts :=
  (.cons (.asg (.nm 3) (.call 4 (.cons (.var 0) (.cons (.var 1) (.cons (.lst (.cons (.lit .non) (.cons (.lit .non) (.cons (.lit .non) (.cons (.lit (.int 0)) (.cons (.lit (.int 1)) (.cons (.lit (.int 9)) .nil))))))) .nil)))))
  (.cons (.ret (.tup (.cons (.var 2) (.cons (.call 5 (.cons (.var 0) (.cons (.var 1) .nil))) (.cons (.call 3 (.cons (.var 0) (.cons (.var 1) (.cons (.lit (.int 4)) .nil)))) (.cons (.var 3) .nil))))))
  .nil))
def b__law_board : Sts :=
  (.cons (.asg (.tp [3, 4]) (.tup (.cons .dK (.cons (.call 4 (.cons (.var 0) (.cons (.var 1) (.cons (.lst (.cons (.lit (.int 9)) (.cons (.lit (.int 100)) .nil))) .nil)))) .nil))))
  (.cons (.for_ (.nm 5) (.range1 (.call 3 (.cons (.var 0) (.cons (.var 1) (.cons (.bin .add (.var 2) (.lit (.int 1))) .nil))))) (.cons (.asg (.nm 6) (.call 3 (.cons (.var 0) (.cons (.var 1) (.cons (.var 4) .nil)))))
  (.cons (.setI (.var 3) (.var 6) (.call 6 (.cons (.var 0) (.cons (.var 1) (.cons (.var 6) .nil)))))
  .nil)))
  (.cons (.ret (.bt .tuple (.cons (.comp (.nm 6) (.seq (.bi .sorted (.cons (.var 3) .nil))) .no (.idx (.var 3) (.var 6)) [6]) .nil)))
  .nil)))
def b__law_apart : Sts :=
  (.cons (.asg (.tp [2, 3]) (.tup (.cons (.bin .sub (.idx (.var 0) (.lit (.int 0))) (.idx (.var 1) (.lit (.int 0)))) (.cons (.bin .sub (.idx (.var 0) (.lit (.int 1))) (.idx (.var 1) (.lit (.int 1)))) .nil))))
  (.cons (.ret (.bi .max (.cons (.var 2) (.cons (.neg (.var 2)) (.cons (.var 3) (.cons (.neg (.var 3)) .nil))))))
  .nil))
def b__law_mirrored : Sts :=
  (.cons (.ret (.tup (.cons (.bin .sub (.lit (.int 199)) (.idx (.var 0) (.lit (.int 0)))) (.cons (.idx (.var 0) (.lit (.int 1))) .nil))))
  .nil)
def b__law_turned : Sts :=
  (.cons (.ret (.tup (.cons (.idx (.var 0) (.lit (.int 1))) (.cons (.bin .sub (.lit (.int 199)) (.idx (.var 0) (.lit (.int 0)))) .nil))))
  .nil)
def b__law_board_of : Sts :=
  (.cons (.ret (.bt .tuple (.cons (.comp (.tp [2, 3, 4, 5]) (.seq (.var 0)) .no (.tup (.cons (.var 2) (.cons (.callL 1 [9, 10] (.cons (.var 3) .nil)) (.cons (.var 4) (.cons (.var 5) .nil))))) [2, 3, 4, 5]) .nil)))
  .nil)
def b__law_stays : Sts :=
  (.cons (.asg (.nm 4) (.call 11 (.cons (.var 0) (.cons (.var 3) .nil))))
  (.cons (.ite (.cmp .ne (.call 0 (.cons (.callL 3 [9, 10] (.cons (.var 1) .nil)) (.cons (.callL 3 [9, 10] (.cons (.var 2) .nil)) .nil))) (.call 0 (.cons (.var 1) (.cons (.var 2) .nil)))) (.cons (.ret (.lit (.bl false)))
  .nil) .nil)
  (.cons (.ret (.and (.cmp .eq (.call 2 (.cons (.var 4) (.cons (.callL 3 [9, 10] (.cons (.var 1) .nil)) (.cons (.lit (.int 99)) .nil)))) (.call 2 (.cons (.var 0) (.cons (.var 1) (.cons (.lit (.int 99)) .nil))))) (.one (.cmp .eq (.call 1 (.cons (.var 4) (.cons (.callL 3 [9, 10] (.cons (.var 1) .nil)) (.cons (.lit (.int 10)) .nil)))) (.call 1 (.cons (.var 0) (.cons (.var 1) (.cons (.lit (.int 10)) .nil))))))))
  .nil)))
def b_law : Sts :=
  (.cons (.asg (.nm 1) (.lstR .nil))
  (.cons (.for_ (.nm 2) (.range1 (.lit (.int 6))) (.cons (.asg (.tp [3, 4, 5]) (.tup (.cons (.call 7 (.cons (.var 0) (.cons (.var 1) (.cons (.lit (.int 12)) .nil)))) (.cons (.call 5 (.cons (.var 0) (.cons (.var 1) .nil))) (.cons (.call 5 (.cons (.var 0) (.cons (.var 1) .nil))) .nil)))))
  (.cons (.asg (.tp [6, 7]) (.tup (.cons (.call 5 (.cons (.var 0) (.cons (.var 1) .nil))) (.cons (.call 0 (.cons (.var 4) (.cons (.var 5) .nil))) .nil))))
  (.cons (.ite (.or (.cmp .ne (.var 7) (.call 0 (.cons (.var 5) (.cons (.var 4) .nil)))) (.one (.cmp .ne (.cmp .eq (.var 7) (.lit (.int 0))) (.cmp .eq (.var 4) (.var 5))))) (.cons (.ret (.lit (.bl false)))
  .nil) .nil)
  (.cons (.ite (.cmp .gt (.var 7) (.bin .add (.call 0 (.cons (.var 4) (.cons (.var 6) .nil))) (.call 0 (.cons (.var 6) (.cons (.var 5) .nil))))) (.cons (.ret (.lit (.bl false)))
  .nil) .nil)
  (.cons (.ite (.cmp .ne (.var 7) (.bi .max (.cons (.call 0 (.cons (.var 4) (.cons (.tup (.cons (.idx (.var 5) (.lit (.int 0))) (.cons (.idx (.var 4) (.lit (.int 1))) .nil))) .nil))) (.cons (.call 0 (.cons (.var 4) (.cons (.tup (.cons (.idx (.var 4) (.lit (.int 0))) (.cons (.idx (.var 5) (.lit (.int 1))) .nil))) .nil))) .nil)))) (.cons (.ret (.lit (.bl false)))
  .nil) .nil)
  (.cons (.asg (.nm 8) (.bt .dict (.cons (.comp (.nm 14) (.seq (.var 3)) .no (.tup (.cons (.idx (.var 14) (.lit (.int 0))) (.cons (.idx (.var 14) (.lit (.int 1))) .nil))) [14]) .nil)))
  (.cons (.asg (.nm 9) (.tup .nil))
  (.cons (.for_ (.nm 7) (.seq (.tup (.cons (.lit (.int 0)) (.cons (.lit (.int 1)) (.cons (.lit (.int 3)) (.cons (.lit (.int 10)) (.cons (.lit (.int 40)) (.cons (.lit (.int 199)) .nil)))))))) (.cons (.asg (.nm 10) (.call 1 (.cons (.var 3) (.cons (.var 4) (.cons (.var 7) .nil)))))
  (.cons (.ite (.or (.not (.bi .all (.cons (.comp (.nm 13) (.seq (.var 9)) .no (.cmp .mem (.var 13) (.var 10)) [13]) .nil))) (.one (.cmp .ne (.bt .list (.cons (.var 10) .nil)) (.bi .sorted (.cons (.var 10) .nil))))) (.cons (.ret (.lit (.bl false)))
  .nil) .nil)
  (.cons (.asg (.nm 9) (.var 10))
  (.cons (.asg (.nm 11) (.call 2 (.cons (.var 3) (.cons (.var 4) (.cons (.bi .len (.cons (.var 10) .nil)) .nil)))))
  (.cons (.ite (.cmp .ne (.bi .sorted (.cons (.var 11) .nil)) (.bt .list (.cons (.var 10) .nil))) (.cons (.ret (.lit (.bl false)))
  .nil) .nil)
  (.cons (.ite (.not (.bi .all (.cons (.comp (.nm 13) (.seq (.var 10)) .no (.cmp .le (.call 0 (.cons (.idx (.var 8) (.var 13)) (.cons (.var 4) .nil))) (.var 7)) [13]) .nil))) (.cons (.ret (.lit (.bl false)))
  .nil) .nil)
  .nil)))))))
  (.cons (.ite (.or (.cmp .ne (.var 9) (.bt .tuple (.cons (.bi .sorted (.cons (.var 8) .nil)) .nil))) (.one (.cmp .ne (.call 2 (.cons (.var 3) (.cons (.var 4) (.cons (.lit (.int 0)) .nil)))) (.tup .nil)))) (.cons (.ret (.lit (.bl false)))
  .nil) .nil)
  (.cons (.asg (.nm 11) (.call 2 (.cons (.var 3) (.cons (.var 4) (.cons (.lit (.int 99)) .nil)))))
  (.cons (.asg (.nm 10) (.comp (.nm 13) (.seq (.var 11)) .no (.tup (.cons (.call 0 (.cons (.idx (.var 8) (.var 13)) (.cons (.var 4) .nil))) (.cons (.var 13) .nil))) [13]))
  (.cons (.ite (.cmp .ne (.var 10) (.bi .sorted (.cons (.var 10) .nil))) (.cons (.ret (.lit (.bl false)))
  .nil) .nil)
  (.cons (.for_ (.nm 12) (.range1 (.bin .add (.bi .len (.cons (.var 3) .nil)) (.lit (.int 2)))) (.cons (.ite (.cmp .ne (.call 2 (.cons (.var 3) (.cons (.var 4) (.cons (.var 12) .nil)))) (.slc (.var 11) .no (.var 12))) (.cons (.ret (.lit (.bl false)))
  .nil) .nil)
  .nil))
  (.cons (.ite (.not (.bi .all (.cons (.comp (.nm 15) (.seq (.tup (.cons (.fn 9) (.cons (.fn 10) .nil)))) .no (.call 12 (.cons (.var 3) (.cons (.var 4) (.cons (.var 5) (.cons (.var 15) .nil))))) [15]) .nil))) (.cons (.ret (.lit (.bl false)))
  .nil) .nil)
  .nil)))))))))))))))
  (.cons (.ret (.lit (.bl true)))
  .nil)))
def f_distance : FI := ⟨"distance", top 1, ["one", "other"], ["one", "other"], b_distance⟩
def f_near : FI := ⟨"near", top 2, ["board", "place", "far", "one"], ["board", "place", "far"], b_near⟩
def f_nearest : FI := ⟨"nearest", top 3, ["board", "place", "most", "far", "number", "one"], ["board", "place", "most"], b_nearest⟩
def f__law_draw : FI := ⟨"_law_draw", top 5, ["_law_script", "_law_town", "_law_many", "_law_k", "_law_cell", "_law_number", "_law_more"], ["_law_script", "_law_town", "_law_many"], b__law_draw⟩
def f__law_pick : FI := ⟨"_law_pick", top 6, ["_law_script", "_law_town", "_law_some"], ["_law_script", "_law_town", "_law_some"], b__law_pick⟩
def f__law_place : FI := ⟨"_law_place", top 7, ["_law_script", "_law_town", "_law_top", "_law_low"], ["_law_script", "_law_town"], b__law_place⟩
def f__law_thing : FI := ⟨"_law_thing", top 8, ["_law_script", "_law_town", "_law_number", "_law_group"], ["_law_script", "_law_town", "_law_number"], b__law_thing⟩
def f__law_board : FI := ⟨"_law_board", top 9, ["_law_script", "_law_town", "_law_most", "_law_got", "_law_top", "_law_k", "_law_number"], ["_law_script", "_law_town", "_law_most"], b__law_board⟩
def f__law_apart : FI := ⟨"_law_apart", top 10, ["_law_one", "_law_other", "_law_across", "_law_down"], ["_law_one", "_law_other"], b__law_apart⟩
def f__law_mirrored : FI := ⟨"_law_mirrored", top 11, ["_law_place_here"], ["_law_place_here"], b__law_mirrored⟩
def f__law_turned : FI := ⟨"_law_turned", top 12, ["_law_place_here"], ["_law_place_here"], b__law_turned⟩
def f__law_board_of : FI := ⟨"_law_board_of", top 13, ["_law_board_here", "_law_way", "_law_number", "_law_place_here", "_law_room", "_law_group"], ["_law_board_here", "_law_way"], b__law_board_of⟩
def f__law_stays : FI := ⟨"_law_stays", top 14, ["_law_board_here", "_law_one", "_law_other", "_law_way", "_law_new"], ["_law_board_here", "_law_one", "_law_other", "_law_way"], b__law_stays⟩
def f_law : FI := ⟨"law", top 15, ["_law_script", "_law_town", "_law_k", "_law_board_here", "_law_one", "_law_other", "_law_third", "_law_far", "_law_places", "_law_before", "_law_some", "_law_row", "_law_most", "_law_number", "_law_thing_here", "_law_way"], ["_law_script"], b_law⟩
def F : List FI := [f_distance, f_near, f_nearest, f__law_draw, f__law_pick, f__law_place, f__law_thing, f__law_board, f__law_apart, f__law_mirrored, f__law_turned, f__law_board_of, f__law_stays, f_law]
def Pr : Prg := ⟨F, []⟩
theorem h_distance : F[i_distance]? = some f_distance := rfl
theorem o_distance : f_distance.Ok Pr := ⟨⟨rfl, rfl, rfl, by decide +kernel, rfl, by decide +kernel, by decide +kernel⟩, fun _ _ _ _ _ _ us hl => match us, hl with | [_, _], _ => rfl, by decide +kernel⟩
theorem h_near : F[i_near]? = some f_near := rfl
theorem o_near : f_near.Ok Pr := ⟨⟨rfl, rfl, rfl, by decide +kernel, rfl, by decide +kernel, by decide +kernel⟩, fun _ _ _ _ _ _ us hl => match us, hl with | [_, _, _], _ => rfl, by decide +kernel⟩
theorem h_nearest : F[i_nearest]? = some f_nearest := rfl
theorem o_nearest : f_nearest.Ok Pr := ⟨⟨rfl, rfl, rfl, by decide +kernel, rfl, by decide +kernel, by decide +kernel⟩, fun _ _ _ _ _ _ us hl => match us, hl with | [_, _, _], _ => rfl, by decide +kernel⟩
theorem h__law_draw : F[i__law_draw]? = some f__law_draw := rfl
theorem o__law_draw : f__law_draw.Ok Pr := ⟨⟨rfl, rfl, rfl, by decide +kernel, rfl, by decide +kernel, by decide +kernel⟩, fun _ _ _ _ _ _ us hl => match us, hl with | [_, _, _], _ => rfl, by decide +kernel⟩
theorem h__law_pick : F[i__law_pick]? = some f__law_pick := rfl
theorem o__law_pick : f__law_pick.Ok Pr := ⟨⟨rfl, rfl, rfl, by decide +kernel, rfl, by decide +kernel, by decide +kernel⟩, fun _ _ _ _ _ _ us hl => match us, hl with | [_, _, _], _ => rfl, by decide +kernel⟩
theorem h__law_place : F[i__law_place]? = some f__law_place := rfl
theorem o__law_place : f__law_place.Ok Pr := ⟨⟨rfl, rfl, rfl, by decide +kernel, rfl, by decide +kernel, by decide +kernel⟩, fun _ _ _ _ _ _ us hl => match us, hl with | [_, _], _ => rfl, by decide +kernel⟩
theorem h__law_thing : F[i__law_thing]? = some f__law_thing := rfl
theorem o__law_thing : f__law_thing.Ok Pr := ⟨⟨rfl, rfl, rfl, by decide +kernel, rfl, by decide +kernel, by decide +kernel⟩, fun _ _ _ _ _ _ us hl => match us, hl with | [_, _, _], _ => rfl, by decide +kernel⟩
theorem h__law_board : F[i__law_board]? = some f__law_board := rfl
theorem o__law_board : f__law_board.Ok Pr := ⟨⟨rfl, rfl, rfl, by decide +kernel, rfl, by decide +kernel, by decide +kernel⟩, fun _ _ _ _ _ _ us hl => match us, hl with | [_, _, _], _ => rfl, by decide +kernel⟩
theorem h__law_apart : F[i__law_apart]? = some f__law_apart := rfl
theorem o__law_apart : f__law_apart.Ok Pr := ⟨⟨rfl, rfl, rfl, by decide +kernel, rfl, by decide +kernel, by decide +kernel⟩, fun _ _ _ _ _ _ us hl => match us, hl with | [_, _], _ => rfl, by decide +kernel⟩
theorem h__law_mirrored : F[i__law_mirrored]? = some f__law_mirrored := rfl
theorem o__law_mirrored : f__law_mirrored.Ok Pr := ⟨⟨rfl, rfl, rfl, by decide +kernel, rfl, by decide +kernel, by decide +kernel⟩, fun _ _ _ _ _ _ us hl => match us, hl with | [_], _ => rfl, by decide +kernel⟩
theorem h__law_turned : F[i__law_turned]? = some f__law_turned := rfl
theorem o__law_turned : f__law_turned.Ok Pr := ⟨⟨rfl, rfl, rfl, by decide +kernel, rfl, by decide +kernel, by decide +kernel⟩, fun _ _ _ _ _ _ us hl => match us, hl with | [_], _ => rfl, by decide +kernel⟩
theorem h__law_board_of : F[i__law_board_of]? = some f__law_board_of := rfl
theorem o__law_board_of : f__law_board_of.Ok Pr := ⟨⟨rfl, rfl, rfl, by decide +kernel, rfl, by decide +kernel, by decide +kernel⟩, fun _ _ _ _ _ _ us hl => match us, hl with | [_, _], _ => rfl, by decide +kernel⟩
theorem h__law_stays : F[i__law_stays]? = some f__law_stays := rfl
theorem o__law_stays : f__law_stays.Ok Pr := ⟨⟨rfl, rfl, rfl, by decide +kernel, rfl, by decide +kernel, by decide +kernel⟩, fun _ _ _ _ _ _ us hl => match us, hl with | [_, _, _, _], _ => rfl, by decide +kernel⟩
theorem h_law : F[i_law]? = some f_law := rfl
theorem o_law : f_law.Ok Pr := ⟨⟨rfl, rfl, rfl, by decide +kernel, rfl, by decide +kernel, by decide +kernel⟩, fun _ _ _ _ _ _ us hl => match us, hl with | [_], _ => rfl, by decide +kernel⟩
theorem o_F : ∀ fi ∈ Pr.F, fi.Ok Pr := by
  intro fi h
  simp only [Pr, F, List.mem_cons, List.not_mem_nil, or_false] at h
  rcases h with rfl | rfl | rfl | rfl | rfl | rfl | rfl | rfl | rfl | rfl | rfl | rfl | rfl | rfl
  · exact o_distance
  · exact o_near
  · exact o_nearest
  · exact o__law_draw
  · exact o__law_pick
  · exact o__law_place
  · exact o__law_thing
  · exact o__law_board
  · exact o__law_apart
  · exact o__law_mirrored
  · exact o__law_turned
  · exact o__law_board_of
  · exact o__law_stays
  · exact o_law
end NT.K
namespace NT.K
open PySem L2 NT
theorem distance_ok {wf n : Nat} {p q : Int × Int} {S : Sto} : run F wf (n + 1) i_distance [dP p, dP q] S = .ok (.int (cheb p q)) S := by
  rw [run_at h_distance S rfl]
  simp [f_distance, b_distance, dP, cheb, xs_cons, x1_ret]
  omega
theorem apart_ok {wf n : Nat} {p q : Int × Int} {S : Sto} : run F wf (n + 1) i__law_apart [dP p, dP q] S = .ok (.int (cheb p q)) S := by
  rw [run_at h__law_apart S rfl]
  simp [f__law_apart, b__law_apart, dP, cheb, xs_cons, x1_ret, x1_asg]
  omega
theorem draw_tl {cf : Nat → List D → Sto → R D} {wf : Nat} {a b : Option D} {k c m : Int} {e f : Option D} {S : Sto} {Q : Fl → Sto → Prop} (hm : 0 < m) (h : ∀ x, 0 ≤ x → x < m → Q (.rt (.int x)) S) :
    (exs cf wf (tl4 b__law_draw) [a, b, some (.int m), some (.int k), some (.int c), e, f] S).To Q := by
  have hm0 : ¬ m = 0 := by omega
  have hm1 : ∀ {x : Int}, CMul 104729 x := fun {x} => cmulL (by decide) (by decide)
  have hd : ∀ {x : Int}, CDivN x 64 := ⟨by decide, by decide⟩
  have sq : ∀ x : Int, CMul (x.fmod 4294967291) (x.fmod 4294967291) := fun x => by
    have := fmod_rng (a := x) (b := 4294967291) (by decide)
    exact cmulL (by omega) (by omega)
  have hr : ∀ {x : Int}, CMul x 48271 := fun {x} => cmulR (by decide) (by decide)
  have hr2 : ∀ {x : Int}, CMul x 69621 := fun {x} => cmulR (by decide) (by decide)
  have hr3 : ∀ {x : Int}, CMul x 67108864 := fun {x} => cmulR (by decide) (by decide)
  refine to_nm ?_
  simp [hm1]
  refine to_nm ?_
  simp [hr, sq]
  refine to_nm ?_
  simp [hr2, sq]
  refine to_ret ?_
  simp [hd, hr3, hm0]
  exact h _ (Int.fmod_nonneg_of_pos _ hm) (Int.fmod_lt_of_pos _ hm)
/-- a draw -/
theorem draw_ok {wf n : Nat} {ns : List Int} {m : Int} {S : Sto} (hm : 0 < m) (ht : Tn 1 S) : (run F wf (n + 1) i__law_draw [.wl (ns.map .int), .ref 0, .int m] S).To fun d S' => ∃ x, d = .int x ∧ 0 ≤ x ∧ x < m ∧ Go 1 S S' := by
  obtain ⟨zs, h0, hz⟩ := ht
  have hl := (List.getElem?_eq_some_iff.mp h0).1
  have h1 : cellL S 0 = some zs := by simp [cellL, h0]
  have hm0 : ¬ m = 0 := by omega
  have hz1 : zs.length < 16777216 := by omega
  have h2 : (S.set 0 (Cell.lst (zs ++ [D.int 0])))[0]? = some (Cell.lst (zs ++ [D.int 0])) := by simp [hl]
  have hgo : Go 1 S (S.set 0 (Cell.lst (zs ++ [D.int 0]))) := by
    refine ⟨by simp, fun i hi _ => by rw [List.getElem?_set_ne (by omega)], fun k t => ?_⟩
    obtain ⟨zs', e, q⟩ := t
    rw [h0] at e
    cases e
    exact ⟨_, h2, by simp; omega⟩
  refine run_To h__law_draw rfl ?_
  refine to_exp ?_
  simp [f__law_draw, Mth.ok, h1, appendD, hz1]
  refine to_nm ?_
  simp [lenD, asSeq, h2]
  refine to_nm ?_
  simp
  refine to_ite ?_
  simp
  refine ⟨fun hn => ?_, fun hn => ?_⟩
  · obtain ⟨x, hx⟩ := script_at ns hn (zs.length + 1)
    refine to_nm ?_
    simp [hn, hx]
    exact draw_tl hm fun x h1 h2 => ⟨x, rfl, h1, h2, hgo⟩
  · exact draw_tl hm fun x h1 h2 => ⟨x, rfl, h1, h2, hgo⟩
/-- one of some -/
theorem pick_ok {wf n : Nat} {ns : List Int} {xs : List D} {S : Sto} (hx : xs ≠ []) (ht : Tn 1 S) : (run F wf (n + 2) i__law_pick [.wl (ns.map .int), .ref 0, .lst xs] S).To fun d S' => d ∈ xs ∧ Go 1 S S' := by
  have hp : 0 < xs.length := List.length_pos_iff.mpr hx
  obtain ⟨d, S1, e1, x, rfl, h1, h2, g⟩ := draw_ok (wf := wf) (n := n) (ns := ns) (m := xs.length) (S := S) (by omega) ht
  refine run_To h__law_pick rfl (to_ret ?_)
  have e : atI xs x = some xs[x.toNat] := by
    rw [at_in h1 h2, List.getElem?_eq_getElem]
  simp [f__law_pick, e1, e]
  exact g
theorem place_ok {wf n : Nat} {ns : List Int} {S : Sto} (ht : Tn 4 S) : (run F wf (n + 3) i__law_place [.wl (ns.map .int), .ref 0] S).To fun d S' => ∃ p, d = dP p ∧ PlaceOk p ∧ Go 4 S S' := by
  obtain ⟨d, S1, e1, h1, g1⟩ := pick_ok (wf := wf) (n := n) (ns := ns) (xs := [.int 6, .int 30, .int 200]) (S := S) (by simp) (ht.mono (by omega))
  have t1 := g1.town 3 ht
  obtain ⟨top, rfl, ht1⟩ : ∃ top : Int, d = .int top ∧ (top = 6 ∨ top = 30 ∨ top = 200) := by
    simp at h1
    rcases h1 with h | h | h <;> exact ⟨_, h, by omega⟩
  obtain ⟨d, S2, e2, h2, g2⟩ := pick_ok (wf := wf) (n := n) (ns := ns) (xs := [.int 0, .int 0, .int (200 - top)]) (S := S1) (by simp) (t1.mono (by omega))
  have t2 := g2.town 2 t1
  obtain ⟨low, rfl, ht2⟩ : ∃ low : Int, d = .int low ∧ (low = 0 ∨ low = 200 - top) := by
    simp at h2
    rcases h2 with h | h <;> exact ⟨_, h, by omega⟩
  obtain ⟨d, S3, e3, x, rfl, h3, h3', g3⟩ := draw_ok (wf := wf) (n := n + 1) (ns := ns) (m := top) (S := S2) (by omega) (t2.mono (by omega))
  have t3 := g3.town 1 t2
  obtain ⟨d, S4, e4, y, rfl, h4, h4', g4⟩ := draw_ok (wf := wf) (n := n + 1) (ns := ns) (m := top) (S := S3) (by omega) t3
  refine run_To h__law_place rfl (to_nm ?_)
  simp [f__law_place, e1]
  refine to_nm ?_
  simp [e2]
  refine to_ret ?_
  simp [e3, e4]
  exact ⟨low + x, low + y, rfl, by refine ⟨?_, ?_, ?_, ?_⟩ <;> dsimp only <;> omega, (((g1.trans g2).trans g3).trans g4).mono (by omega)⟩
theorem thing_ok {wf n : Nat} {ns : List Int} {k : Int} {S : Sto} (ht : Tn 6 S) : (run F wf (n + 4) i__law_thing [.wl (ns.map .int), .ref 0, .int k] S).To fun d S' => ∃ t : Thing, d = dT t ∧ t.n = k ∧ t.Ok ∧ Go 6 S S' := by
  obtain ⟨d, S1, e1, h1, g1⟩ := pick_ok (wf := wf) (n := n + 1) (ns := ns) (xs := [.non, .non, .non, .int 0, .int 1, .int 9]) (S := S) (by simp) (ht.mono (by omega))
  have t1 := g1.town 5 ht
  obtain ⟨g, rfl, hg⟩ : ∃ g : Option Int, d = dG g ∧ (g = none ∨ g = some 0 ∨ g = some 1 ∨ g = some 9) := by
    simp at h1
    rcases h1 with h | h | h | h
    · exact ⟨none, h, by simp⟩
    · exact ⟨some 0, h, by simp⟩
    · exact ⟨some 1, h, by simp⟩
    · exact ⟨some 9, h, by simp⟩
  obtain ⟨d, S2, e2, p, rfl, hp, g2⟩ := place_ok (wf := wf) (n := n) (ns := ns) (S := S1) (t1.mono (by omega))
  have t2 := g2.town 1 t1
  obtain ⟨d, S3, e3, x, rfl, h3, h3', g3⟩ := draw_ok (wf := wf) (n := n + 2) (ns := ns) (m := 4) (S := S2) (by omega) t2
  refine run_To h__law_thing rfl (to_nm ?_)
  simp [f__law_thing, e1]
  refine to_ret ?_
  simp [e2, e3]
  exact ⟨⟨k, p, x, g⟩, rfl, rfl, ⟨hp, ⟨h3, h3'⟩, hg⟩, ((g1.trans g2).trans g3).mono (by omega)⟩
theorem board_ok {wf n : Nat} {ns : List Int} {most : Int} {S : Sto} (h0 : 0 ≤ most) (h1 : most ≤ 1000) (ht : Tn 8000 S) :
    (run F wf (n + 5) i__law_board [.wl (ns.map .int), .ref 0, .int most] S).To fun d S' => ∃ ts : List Thing, d = dB ts ∧ BoardOk ts ∧ ts.length ≤ most ∧ Go 8000 S S' := by
  have hpos := ht.pos
  have gp : Go 0 S (S ++ [.dK []]) := Go.push _ hpos
  have tp : Tn 8000 (S ++ [.dK []]) := gp.town _ ht
  obtain ⟨d, S1, e1, hd, g1⟩ := pick_ok (wf := wf) (n := n + 2) (ns := ns) (xs := [.int 9, .int 100]) (S := S ++ [.dK []]) (by simp) (tp.mono (by omega))
  have t1 := g1.town 7999 tp
  obtain ⟨top, rfl, htop⟩ : ∃ top : Int, d = .int top ∧ 0 < top := by
    simp at hd
    rcases hd with h | h <;> exact ⟨_, h, by omega⟩
  obtain ⟨d, S2, e2, m, rfl, hm, hm', g2⟩ := draw_ok (wf := wf) (n := n + 3) (ns := ns) (m := most + 1) (S := S1) (by omega) (t1.mono (by omega))
  have t2 := g2.town 7998 t1
  have c2 : S2[S.length]? = some (.dK []) := by
    rw [g2.old _ (by omega) (by have := g1.len; simp at this; omega), g1.old _ (by omega) (by simp)]
    simp
  have l2 : S.length < S2.length := (List.getElem?_eq_some_iff.mp c2).1
  refine run_To h__law_board rfl (to_asg ?_)
  simp [f__law_board, e1]
  have hit : evIt (run F wf (n + 4)) (.range1 (.call i__law_draw (.cons (.var 0) (.cons (.var 1) (.cons (.bin .add (.var 2) (.lit (.int 1))) .nil))))) [some (D.wl (List.map D.int ns)), some (D.ref 0), some (D.int most), some (D.ref S.length), some (D.int top), none, none] S1 = .ok (rngD 0 m.toNat, []) S2 := by
    simp [e2]
    omega
  refine to_for hit (fun ds ρ T => (∃ x y, ρ = [some (D.wl (List.map D.int ns)), some (D.ref 0), some (D.int most), some (D.ref S.length), some (D.int top), x, y]) ∧ ∃ ts : List Thing, T[S.length]? = some (.dK (kv ts)) ∧ (ts.map (·.n)).Nodup ∧ (∀ t ∈ ts, t.Ok) ∧ ts.length + ds.length ≤ m.toNat ∧ Go (2 + 7 * (m.toNat - ds.length)) S T ∧ Tn (7 * ds.length) T) ?_ ?_ ?_ ?_
  · refine ⟨⟨_, _, rfl⟩, [], c2, by simp, by simp, by simp [rngD], ?_, t2.mono (by simp [rngD]; omega)⟩
    exact ((gp.trans g1).trans g2).mono (by omega)
  · exact fun ds ρ S _ => gok_nil
  · rintro d ds ρ T ⟨⟨x, y, rfl⟩, ts, hc, hnd, hok, hlen, hgo, htn⟩
    simp only [List.length_cons] at hlen hgo htn
    obtain ⟨d1, T1, q1, k, rfl, k1, k2, b1⟩ := draw_ok (wf := wf) (n := n + 3) (ns := ns) (m := top) (S := T) htop (htn.mono (by omega))
    have t1 := b1.town (6 + 7 * ds.length) (htn.mono (by omega))
    obtain ⟨d2, T2, q2, t, rfl, rfl, tok, b2⟩ := thing_ok (wf := wf) (n := n) (ns := ns) (k := k) (S := T1) (t1.mono (by omega))
    have t2 := b2.town (7 * ds.length) t1
    have l1 := (List.getElem?_eq_some_iff.mp hc).1
    have hS : S.length ≠ 0 := by omega
    have hc2 : T2[S.length]? = some (.dK (kv ts)) := by
      rw [b2.old _ hS (Nat.lt_of_lt_of_le l1 b1.len), b1.old _ hS l1]
      exact hc
    obtain ⟨ts', p1, p2, p3, p4⟩ := kv_put ts t hnd hok tok
    refine ⟨_, rfl, to_nm ?_⟩
    simp [q1]
    refine to_setI ?_
    have hsz : (kv ts).length < 16777216 := by simp [kv]; omega
    simp [q2, setS, hc2, keyOf, hsz]
    refine to_nil ?_
    have l2 := (List.getElem?_eq_some_iff.mp hc2).1
    refine ⟨⟨_, _, rfl⟩, ts', ?_, p2, p3, by omega, ?_, ?_⟩
    · rw [List.getElem?_set_self l2, p1]
    · refine Go.set _ S ((hgo.trans (b1.trans b2)).mono ?_) (Nat.le_refl _) hS
      omega
    · obtain ⟨zs, z1, z2⟩ := t2
      exact ⟨zs, by rw [List.getElem?_set_ne hS]; exact z1, z2⟩
  · rintro ρ T ⟨⟨x, y, rfl⟩, ts, hc, hnd, hok, hlen, hgo, htn⟩
    obtain ⟨us, u1, u2, u3, u4⟩ := sorted_things ts hnd
    have hs : sortedD T [.ref S.length] = some (.lst ((us.map (·.n)).map .int), T) := by
      have hi : itemsOf T (.ref S.length) = some ((ts.map (·.n)).map .int) := by
        simp [itemsOf, asSeq, hc, dictKeys, kv, keyD, Function.comp_def]
      rw [sortedD_int hi (by simp; simp at hlen; omega), u1]
    refine to_ret ?_
    simp [hs]
    have hidx : ∀ t ∈ us, idxD T [.ref S.length, .int t.n] = some (dT t, T) := fun t ht => by
      simp [idxD, dGet, hc, keyOf, kv_look ts hnd t (u2 t ht)]
    have hu : us.length ≤ 16777216 := by simp at hlen; omega
    rw [if_pos hu, lcD_map (D.int ∘ fun x => x.n) (fun t => some (dT t)) gok_nil us (fun t ht => by simp [hidx t ht])]
    simp
    refine ⟨us, rfl, ⟨fun u hu => hok u (u2 u hu), u4⟩, by simp at hlen; omega, hgo.mono (by simp; omega)⟩
theorem near_ok {wf n : Nat} {ts : List Thing} {p : Int × Int} {S : Sto} {far : Int} (hz : ts.length ≤ 16777216) : run F wf (n + 2) i_near [dB ts, dP p, .int far] S = .ok (.tup ((nearL ts p far).map .int)) S := by
  refine R.of_To (run_To h_near rfl (to_ret ?_))
  simp [f_near, hz]
  rw [lcD_filt dT (fun t => decide (cheb t.p p ≤ far)) (fun t => .int t.n) gok_nil ts (fun t ht => by
    by_cases h : cheb t.p p ≤ far <;> simp [distance_ok, h])]
  simp [nearL, Function.comp_def]
theorem nearest_ok {wf n : Nat} {ts : List Thing} {p : Int × Int} {S : Sto} {most : Int} (hz : ts.length ≤ 16777216) (hm : 0 ≤ most) : run F wf (n + 2) i_nearest [dB ts, dP p, .int most] S = .ok (.tup ((nearestL ts p most).map .int)) S := by
  refine R.of_To (run_To h_nearest rfl (to_ret ?_))
  simp [f_nearest, hz]
  rw [lcD_all dT (fun t => pr (rowOf p t)) gok_nil ts (fun t ht => by
    simp [distance_ok, pr, rowOf])]
  have hs : sortedD S [.lst (ts.map fun t => pr (rowOf p t))] = some (.lst (((ts.map (rowOf p)).mergeSort prLe).map pr), S) := sortedD_pr (by simp [itemsOf, Function.comp_def]) (by simpa using hz)
  have hl : min most.toNat ts.length ≤ 16777216 := by omega
  simp [hs, slcF, cut_to _ _ hm, hl]
  rw [← List.map_take, lcD_all pr (fun q => .int q.2) gok_nil _ (fun t ht => by simp)]
  simp [nearestL, Function.comp_def]
end NT.K
namespace NT.K
open PySem L2 NT
def mir (p : Int × Int) : Int × Int := (199 - p.1, p.2)
def trn (p : Int × Int) : Int × Int := (p.2, 199 - p.1)
theorem cheb_mir (p q : Int × Int) : cheb (mir p) (mir q) = cheb p q := by unfold cheb mir; dsimp only; omega
theorem cheb_trn (p q : Int × Int) : cheb (trn p) (trn q) = cheb p q := by unfold cheb trn; dsimp only; omega
def mvB (f : Int × Int → Int × Int) (ts : List Thing) : List Thing := ts.map fun t => { t with p := f t.p }
theorem mir_ok {wf n : Nat} {p : Int × Int} {S : Sto} : run F wf (n + 1) i__law_mirrored [dP p] S = .ok (dP (mir p)) S := by
  refine R.of_To (run_To h__law_mirrored rfl (to_ret ?_))
  simp [f__law_mirrored]
  rfl
theorem trn_ok {wf n : Nat} {p : Int × Int} {S : Sto} : run F wf (n + 1) i__law_turned [dP p] S = .ok (dP (trn p)) S := by
  refine R.of_To (run_To h__law_turned rfl (to_ret ?_))
  simp [f__law_turned]
  rfl
theorem boardof_ok {wf n fi : Nat} {f : Int × Int → Int × Int} {ts : List Thing} {S : Sto} (hf : ∀ (p : Int × Int), run F wf (n + 1) fi [dP p] S = .ok (dP (f p)) S) (hfi : fi = i__law_mirrored ∨ fi = i__law_turned) (hz : ts.length ≤ 1000) : run F wf (n + 2) i__law_board_of [dB ts, .fn fi] S = .ok (dB (mvB f ts)) S := by
  refine R.of_To (run_To h__law_board_of rfl (to_ret ?_))
  have hm : fi ∈ ([i__law_mirrored, i__law_turned] : List Nat) := by
    rcases hfi with rfl | rfl <;> simp
  have sB : asSeq S (dB ts) = some (false, ts.map dT) := rfl
  have gB : ∀ xs, gOf (dB ts) xs = [] := fun xs => rfl
  simp [f__law_board_of, sB, gB, show ts.length ≤ 16777216 by omega]
  rw [lcD_all dT (fun t => dT { t with p := f t.p }) gok_nil ts fun t ht => by
    rcases hfi with rfl | rfl <;> simp [hf] <;> rfl]
  simp [mvB, dB]
theorem stays_ok {wf n fi : Nat} {f : Int × Int → Int × Int} {ts : List Thing} {p q : Int × Int} {S : Sto} (hf : ∀ (m : Nat) (p : Int × Int), run F wf (m + 1) fi [dP p] S = .ok (dP (f p)) S) (hfi : fi = i__law_mirrored ∨ fi = i__law_turned) (hc : ∀ p q, cheb (f p) (f q) = cheb p q) (hz : ts.length ≤ 1000) :
    run F wf (n + 5) i__law_stays [dB ts, dP p, dP q, .fn fi] S = .ok (.bl true) S := by
  have e1 := boardof_ok (wf := wf) (n := n + 2) (S := S) (hf (n + 2)) hfi hz
  have hl : (mvB f ts).length = ts.length := by simp [mvB]
  have hrow : (mvB f ts).map (rowOf (f p)) = ts.map (rowOf p) := by
    simp [mvB, Function.comp_def, rowOf, hc]
  have n1 : nearestL (mvB f ts) (f p) 99 = nearestL ts p 99 := by unfold nearestL; rw [hrow]
  have n2 : nearL (mvB f ts) (f p) 10 = nearL ts p 10 := by rw [← rows_near, ← rows_near, hrow]
  have d1 : ∀ a b : Int × Int, run F wf (n + 4) i_distance [dP a, dP b] S = .ok (.int (cheb a b)) S := fun a b => distance_ok
  have f1 : ∀ a : Int × Int, run F wf (n + 4) fi [dP a] S = .ok (dP (f a)) S := fun a => hf _ a
  have k1 : run F wf (n + 4) i_nearest [dB (mvB f ts), dP (f p), .int 99] S = .ok (iL (nearestL ts p 99)) S := by
    rw [← n1]
    exact nearest_ok (by omega) (by omega)
  have k2 : run F wf (n + 4) i_nearest [dB ts, dP p, .int 99] S = .ok (iL (nearestL ts p 99)) S := nearest_ok (by omega) (by omega)
  have k3 : run F wf (n + 4) i_near [dB (mvB f ts), dP (f p), .int 10] S = .ok (iL (nearL ts p 10)) S := by
    rw [← n2]
    exact near_ok (by omega)
  have k4 : run F wf (n + 4) i_near [dB ts, dP p, .int 10] S = .ok (iL (nearL ts p 10)) S := near_ok (by omega)
  have s1 : ∀ l, eqD S [iL l, iL l] = some (.bl true, S) := fun l => eq_self (pl_iL l) (by rw [dep_iL]; omega)
  have e1' : run F wf (n + 4) i__law_board_of [dB ts, .fn fi] S = .ok (dB (mvB f ts)) S := e1
  refine R.of_To (run_To h__law_stays rfl (to_nm ?_))
  rcases hfi with rfl | rfl
  · simp [f__law_stays, e1']
    refine to_ite ?_
    simp [f1, d1, hc]
    refine to_ret ?_
    simp [f1, k1, k2, k3, k4, s1]
  · simp [f__law_stays, e1']
    refine to_ite ?_
    simp [f1, d1, hc]
    refine to_ret ?_
    simp [f1, k1, k2, k3, k4, s1]
theorem eq_P {S : Sto} (p q : Int × Int) : eqD S [dP p, dP q] = some (.bl (decide (p = q)), S) := by
  rw [eqD_pq (by rfl) (by rfl) (by rfl) (by simp [dP, dep, depL]) (by simp [dP, dep, depL])]
  by_cases h : p = q
  · subst h; simp
  · have : dP p ≠ dP q := fun z => by
      simp [dP] at z
      exact h (Prod.ext z.1 z.2)
    simp [h, this]
theorem ne_bl (a b : Bool) {S : Sto} : neD S [.bl a, .bl b] = some (.bl (a != b), S) := by cases a <;> cases b <;> rfl
theorem cheb_zero (p q : Int × Int) : cheb p q = 0 ↔ p = q := by
  unfold cheb
  constructor
  · intro h
    exact Prod.ext (by omega) (by omega)
  · rintro rfl
    omega
theorem cheb_tri (p q r : Int × Int) : cheb p q ≤ cheb p r + cheb r q := by unfold cheb; omega
theorem nearest_mem {ts : List Thing} {p : Int × Int} {m k : Int} (h : k ∈ nearestL ts p m) : ∃ t ∈ ts, t.n = k := by
  unfold nearestL at h
  obtain ⟨q, hq, rfl⟩ := List.mem_map.mp h
  have := (List.mergeSort_perm _ _).mem_iff.mp (List.mem_of_mem_take hq)
  obtain ⟨t, ht, rfl⟩ := List.mem_map.mp this
  exact ⟨t, ht, rfl⟩
theorem pl_L (l : List Int) : pl (.lst (l.map .int)) = true := pl_iL l
end NT.K
namespace NT.K
open PySem L2 NT
theorem ne_iL {S : Sto} (l : List Int) : neD S [.tup (l.map .int), .tup (l.map .int)] = some (.bl false, S) := ne_self (pl_iL l) (by rw [show D.tup (l.map .int) = iL l from rfl, dep_iL]; omega)
theorem ne_lL {S : Sto} (l : List Int) : neD S [.lst (l.map .int), .lst (l.map .int)] = some (.bl false, S) := ne_self (pl_iL l) (by simp [dep, depL_int])
theorem ne_pL {S : Sto} (l : List (Int × Int)) : neD S [.lst (l.map pr), .lst (l.map pr)] = some (.bl false, S) := by
  refine ne_self (pl_pL l) ?_
  have := dep_pL l
  exact Nat.le_trans this (by omega)
theorem law_run (ns : List Int) : ∃ wf S, run F wf 30 i_law [.wl (ns.map .int)] [] = .ok (.bl true) S := by
  refine ⟨0, ?_⟩
  have main : (run F 0 30 i_law [.wl (ns.map .int)] []).To fun d S => d = .bl true := by
    refine run_To (n := 29) h_law rfl (to_nm ?_)
    simp [f_law]
    obtain ⟨I, hI⟩ : ∃ I : List D → NT.Env → Sto → Prop, ∀ ds ρ S, I ds ρ S ↔ (∃ x2 x3 x4 x5 x6 x7 x8 x9 x10 x11 x12 x13 x14 x15, ρ = [some (D.wl (ns.map .int)), some (.ref 0), x2, x3, x4, x5, x6, x7, x8, x9, x10, x11, x12, x13, x14, x15] ∧ Tn (9000 * ds.length) S) := ⟨_, fun _ _ _ => Iff.rfl⟩
    refine to_for (items := rngD 0 6) (gs := []) (S1 := [.lst []]) (by simp) I ?_ (fun _ _ _ _ => gok_nil) ?_ ?_
    · exact (hI _ _ _).mpr ⟨_, _, _, _, _, _, _, _, _, _, _, _, _, _, rfl, [], rfl, by simp [rngD]⟩
    · intro d ds ρ S h
      obtain ⟨x2, x3, x4, x5, x6, x7, x8, x9, x10, x11, x12, x13, x14, x15, rfl, htn⟩ := (hI _ _ _).mp h
      simp only [List.length_cons] at htn
      refine ⟨_, rfl, ?_⟩
      obtain ⟨d_b, S_b, e_b, ts, rfl, hb, hbl, g_b⟩ := board_ok (wf := 0) (n := 24) (ns := ns) (most := 12) (S := S) (by decide) (by decide) (htn.mono (by omega))
      have t_b := g_b.town (1000 + 9000 * ds.length) (htn.mono (by omega))
      obtain ⟨d_one, S_one, e_one, one, rfl, h_one, g_one⟩ := place_ok (wf := 0) (n := 26) (ns := ns) (S := S_b) (t_b.mono (by omega))
      have t_one := g_one.town (996 + 9000 * ds.length) (t_b.mono (by omega))
      obtain ⟨d_oth, S_oth, e_oth, oth, rfl, h_oth, g_oth⟩ := place_ok (wf := 0) (n := 26) (ns := ns) (S := S_one) (t_one.mono (by omega))
      have t_oth := g_oth.town (992 + 9000 * ds.length) (t_one.mono (by omega))
      refine to_asg ?_
      simp [e_b, e_one, e_oth]
      obtain ⟨d_thr, S_thr, e_thr, thr, rfl, h_thr, g_thr⟩ := place_ok (wf := 0) (n := 26) (ns := ns) (S := S_oth) (t_oth.mono (by omega))
      have t_thr := g_thr.town (988 + 9000 * ds.length) (t_oth.mono (by omega))
      have dst : ∀ (a b : Int × Int) T, run F 0 29 i_distance [dP a, dP b] T = .ok (.int (cheb a b)) T := fun a b T => distance_ok
      refine to_asg ?_
      simp [e_thr, dst]
      have hz := cheb_zero one oth
      refine to_ite ?_
      simp [dst, cheb_comm oth one, eq_P, ne_bl, hz]
      refine to_ite ?_
      have htri := cheb_tri one oth thr
      simp [dst, show ¬ cheb one thr + cheb thr oth < cheb one oth by omega]
      have hmx : (if cheb one (oth.1, one.2) < cheb one (one.1, oth.2) then cheb one (one.1, oth.2) else cheb one (oth.1, one.2)) = cheb one oth := by unfold cheb; dsimp only; split <;> omega
      have tP : ∀ a b : Int, D.tup [.int a, .int b] = dP (a, b) := fun a b => rfl
      refine to_ite ?_
      simp [tP, dst, hmx]
      have hnd := up_nodup hb.up
      have hup : (ts.map (·.n)).Pairwise (· < ·) := by rw [List.pairwise_map]; exact hb.up
      have sB : ∀ T, asSeq T (dB ts) = some (false, ts.map dT) := fun T => rfl
      have gB : ∀ xs, gOf (dB ts) xs = [] := fun xs => rfl
      refine to_nm ?_
      simp [sB, gB, show ts.length ≤ 16777216 by omega]
      rw [lcD_all dT (fun t => D.tup [.int t.n, dP t.p]) gok_nil ts fun t ht => by simp]
      simp [dict_kvi (S := S_thr) (fun t : Thing => t.n) (fun t => dP t.p) hnd]
      obtain ⟨T, hT⟩ : ∃ T, T = S_thr ++ [Cell.dK (kvi (fun t : Thing => t.n) (fun t => dP t.p) ts)] := ⟨_, rfl⟩
      obtain ⟨P, hP⟩ : ∃ P, P = S_thr.length := ⟨_, rfl⟩
      rw [← hT, ← hP]
      have hc : T[P]? = some (.dK (kvi (fun t : Thing => t.n) (fun t => dP t.p) ts)) := by rw [hT, hP]; simp
      have tT : Tn (900 + 9000 * ds.length) T := by
        rw [hT]
        exact (Go.push _ t_thr.pos).town _ (t_thr.mono (by omega))
      clear hT hP
      have nr : ∀ f : Int, run F 0 29 i_near [dB ts, dP one, .int f] T = .ok (.tup ((nearL ts one f).map .int)) T := fun f => near_ok (by omega)
      have ne : ∀ m : Int, 0 ≤ m → run F 0 29 i_nearest [dB ts, dP one, .int m] T = .ok (.tup ((nearestL ts one m).map .int)) T := fun m h => nearest_ok (by omega) h
      have ix : ∀ t ∈ ts, idxD T [.ref P, .int t.n] = some (dP t.p, T) := fun t ht => idx_kvi hc hnd ht
      have nlen := near_len ts one
      have nsrt : ∀ f, sortedD T [.tup ((nearL ts one f).map .int)] = some (.lst ((nearL ts one f).map .int), T) := fun f => by
        have := sortedD_int (S := T) (d := .tup ((nearL ts one f).map .int)) (ns := nearL ts one f) (by simp [itemsOf]) (by have := nlen f; simp; omega)
        rw [this, near_sorted hb.up]
      refine to_nm ?_
      simp
      obtain ⟨J, hJ⟩ : ∃ J : List D → NT.Env → Sto → Prop, ∀ es ρ U, J es ρ U ↔ (∃ (lf : Int) (rest : List Int) (x7 x10 x11 x12 x13 x14 x15 : Option D), ρ = [some (D.wl (ns.map .int)), some (.ref 0), some d, some (dB ts), some (dP one), some (dP oth), some (dP thr), x7, some (.ref P), some (.tup ((nearL ts one lf).map .int)), x10, x11, x12, x13, x14, x15] ∧ es = rest.map .int ∧ (lf :: rest).Pairwise (· ≤ ·) ∧ (lf :: rest).getLast? = some 199 ∧ U = T) := ⟨_, fun _ _ _ => Iff.rfl⟩
      refine to_for (items := [0, 1, 3, 10, 40, 199].map .int) (gs := []) (S1 := T) (by simp) J ?_ (fun _ _ _ _ => gok_nil) ?_ ?_
      · have : nearL ts one (-1) = [] := by
          unfold nearL
          rw [List.map_eq_nil_iff, List.filter_eq_nil_iff]
          intro t ht
          have := cheb_nn t.p one
          simp
          omega
        have e9 : (some (D.tup []) : Option D) = some (.tup ((nearL ts one (-1)).map .int)) := by rw [this]; rfl
        rw [e9]
        exact (hJ _ _ _).mpr ⟨-1, [0, 1, 3, 10, 40, 199], _, _, _, _, _, _, _, rfl, rfl, by decide, rfl, rfl⟩
      · intro d' es ρ U h
        obtain ⟨lf, rest, x7, x10, x11, x12, x13, x14, x15, rfl, hes, hpw, hlast, rfl⟩ := (hJ _ _ _).mp h
        cases rest with
        | nil => cases hes
        | cons f rest =>
          cases hes
          have hle : lf ≤ f := (List.pairwise_cons.mp hpw).1 f List.mem_cons_self
          have hsub : ∀ x ∈ nearL ts one lf, x ∈ nearL ts one f := fun x hx => by
            obtain ⟨t, ht, h1, h2⟩ := near_mem.mp hx
            exact near_mem.mpr ⟨t, ht, by omega, h2⟩
          refine ⟨_, rfl, to_nm ?_⟩
          simp [nr]
          refine to_ite ?_
          have l1 := nlen lf
          have l2 := nlen f
          simp [show (nearL ts one lf).length ≤ 16777216 by omega]
          rw [lcD_all .int (fun x => .bl (decide (x ∈ nearL ts one f))) gok_nil _ fun x hx => by simp [in_tup]]
          have ha : (nearL ts one lf).all (fun x => decide (x ∈ nearL ts one f)) = true := by
            rw [List.all_eq_true]
            intro x hx
            simpa using hsub x hx
          simp [all_map, ha, nsrt, ne_lL]
          refine to_nm ?_
          simp
          refine to_nm ?_
          simp [ne _ (show (0 : Int) ≤ ((nearL ts one f).length : Int) by omega)]
          have nn := nearest_near (p := one) (far := f) hb.up
          have hss : sortedD U [.tup ((nearestL ts one (nearL ts one f).length).map .int)] = some (.lst ((nearL ts one f).map .int), U) := by
            have hlen : (nearestL ts one (nearL ts one f).length).length ≤ 12 := by
              have := congrArg List.length nn
              rw [List.length_mergeSort] at this
              omega
            have := sortedD_int (S := U) (d := .tup ((nearestL ts one (nearL ts one f).length).map .int)) (ns := nearestL ts one (nearL ts one f).length) (by simp [itemsOf]) (by simp; omega)
            rw [this, nn]
          refine to_ite ?_
          simp [hss, ne_lL]
          refine to_ite ?_
          simp [show (nearL ts one f).length ≤ 16777216 by omega]
          rw [lcD_all .int (fun _ => .bl true) gok_nil _ fun x hx => by
            obtain ⟨t, ht, h1, h2⟩ := near_mem.mp hx
            subst h2
            simp [ix t ht, dst, h1]]
          simp [all_const]
          refine to_nil ?_
          exact (hJ _ _ _).mpr ⟨f, rest, _, _, _, _, _, _, _, rfl, rfl, (List.pairwise_cons.mp hpw).2, by simpa using hlast, rfl⟩
      · intro ρ U h
        obtain ⟨lf, rest, x7, x10, x11, x12, x13, x14, x15, rfl, hes, hpw, hlast, rfl⟩ := (hJ _ _ _).mp h
        cases rest with
        | cons f rest => cases hes
        | nil =>
          simp at hlast
          subst hlast
          have hall : nearL ts one 199 = ts.map (·.n) := by
            unfold nearL
            rw [List.filter_eq_self.mpr]
            intro t ht
            have := (hb.ok t ht).p
            obtain ⟨a1, a2, a3, a4⟩ := this
            obtain ⟨b1, b2, b3, b4⟩ := h_one
            have hle : cheb t.p one ≤ 199 := by unfold cheb; omega
            simpa using hle
          have hsd : sortedD U [.ref P] = some (.lst ((ts.map (·.n)).map .int), U) := by
            have := sortedD_int (S := U) (d := .ref P) (ns := ts.map (·.n)) (keys_kvi hc) (by simp; omega)
            rw [this, sorted_up hup]
          have n0 : nearestL ts one 0 = [] := by simp [nearestL]
          have e0 := ne_iL (S := U) []
          have e1 := ne_iL (S := U) (ts.map (·.n))
          simp at e0 e1 hsd
          refine to_ite ?_
          simp [hall, hsd, e1, ne 0 (by decide), n0, e0]
          obtain ⟨RS, hRS⟩ : ∃ RS, RS = (ts.map (rowOf one)).mergeSort prLe := ⟨_, rfl⟩
          have hRl : RS.length ≤ 12 := by rw [hRS]; simp; omega
          have hRm : ∀ q ∈ RS, ∃ t ∈ ts, rowOf one t = q := fun q hq => by
            rw [hRS] at hq
            obtain ⟨t, ht, e⟩ := List.mem_map.mp ((List.mem_mergeSort).mp hq)
            exact ⟨t, ht, e⟩
          have hRp : RS.mergeSort prLe = RS := by rw [hRS]; exact List.mergeSort_of_pairwise (rows_sorted ts one)
          have nst : ∀ m : Int, nearestL ts one m = (RS.take m.toNat).map (·.2) := fun m => by rw [hRS]; rfl
          have n99 : nearestL ts one 99 = RS.map (·.2) := by
            rw [nst, List.take_of_length_le]
            exact Nat.le_trans hRl (by decide)
          refine to_nm ?_
          simp [ne 99 (by decide), n99]
          refine to_nm ?_
          simp [show RS.length ≤ 16777216 by omega]
          rw [lcD_all (D.int ∘ fun q : Int × Int => q.2) pr gok_nil RS fun q hq => by
            obtain ⟨t, ht, rfl⟩ := hRm q hq
            simp [rowOf, ix t ht, dst]
            rfl]
          have hs2 : sortedD U [.lst (RS.map pr)] = some (.lst (RS.map pr), U) := by
            have := sortedD_pr (S := U) (d := .lst (RS.map pr)) (ns := RS) (by simp [itemsOf]) (by simp; omega)
            rw [this, hRp]
          simp
          refine to_ite ?_
          simp [hs2, ne_pL]
          obtain ⟨G, hG⟩ : ∃ G : List D → NT.Env → Sto → Prop, ∀ es ρ V, G es ρ V ↔ (∃ (ms : List Nat) (x12 : Option D), ρ = [some (D.wl (ns.map .int)), some (.ref 0), some d, some (dB ts), some (dP one), some (dP oth), some (dP thr), x7, some (.ref P), some (.tup (ts.map (D.int ∘ fun x => x.n))), some (.lst (RS.map pr)), some (.tup (RS.map (D.int ∘ fun x => x.2))), x12, x13, x14, x15] ∧ es = ms.map (fun m : Nat => .int (m : Int)) ∧ V = U) := ⟨_, fun _ _ _ => Iff.rfl⟩
          have hrg : ((ts.length : Int) + 2).toNat = ts.length + 2 := by omega
          refine to_for (items := rngD 0 ((ts.length : Int) + 2).toNat) (gs := []) (S1 := U) (rng1 (by simp [dB]) (by omega)) G ?_ (fun _ _ _ _ => gok_nil) ?_ ?_
          · refine (hG _ _ _).mpr ⟨List.range (ts.length + 2), _, rfl, by simp [rngD, hrg], rfl⟩
          · intro d' es ρ V h
            obtain ⟨ms, x12, rfl, hes, rfl⟩ := (hG _ _ _).mp h
            cases ms with
            | nil => cases hes
            | cons m ms =>
              cases hes
              refine ⟨_, rfl, to_ite ?_⟩
              have e2 : neD V [.tup ((RS.take m).map fun x => D.int x.2), .tup ((RS.take m).map fun x => D.int x.2)] = some (.bl false, V) := by
                have := ne_iL (S := V) ((RS.take m).map (·.2))
                rw [List.map_map] at this
                exact this
              simp [ne (m : Int) (by omega), nst, slcF, cut_to, e2, ← List.map_take, Function.comp_def]
              refine to_nil ?_
              exact (hG _ _ _).mpr ⟨ms, _, rfl, rfl, rfl⟩
          · intro ρ V h
            obtain ⟨ms, x12, rfl, hes, rfl⟩ := (hG _ _ _).mp h
            have st1 : run F 0 29 i__law_stays [dB ts, dP one, dP oth, .fn i__law_mirrored] V = .ok (.bl true) V := stays_ok (f := mir) (fun m p => mir_ok) (.inl rfl) cheb_mir (by omega)
            have st2 : run F 0 29 i__law_stays [dB ts, dP one, dP oth, .fn i__law_turned] V = .ok (.bl true) V := stays_ok (f := trn) (fun m p => trn_ok) (.inr rfl) cheb_trn (by omega)
            refine to_ite ?_
            simp
            rw [lcD_cons, if_pos gok_nil]
            simp [st1]
            rw [lcD_cons, if_pos gok_nil]
            simp [st2]
            rw [lcD_nil, if_pos gok_nil]
            have al : ∀ T, allD T [.lst [.bl true, .bl true]] = some (.bl true, T) := fun T => rfl
            simp [al]
            refine to_nil ?_
            exact (hI _ _ _).mpr ⟨_, _, _, _, _, _, _, _, _, _, _, _, _, _, rfl, tT.mono (by omega)⟩
    · intro ρ S h
      refine to_ret ?_
      simp
  obtain ⟨d, S, e, rfl⟩ := main
  exact ⟨S, e⟩
end NT.K
namespace NT.K
open PySem L2 NT
abbrev RR : PySem.W.OpenRow := PySem.W.OpenLaw.row PySem.Challenge.rw_neartold_k16_whole_distances
abbrev hk : PySem.W.Hook := hookN 4 Pr
def ob (s : PySem.W.SharedT) : He.AlD := obsNG 4 Pr (HandSHeadRun.getT s)
theorem ob_eq (s : PySem.W.SharedT) : ob s = hk.obs s.abs := obsNG_eq (HandSHeadRun.getT_eq s)
def loose0 : List PySem.Str := ["distance", "near", "nearest", "_law_draw", "_law_pick", "_law_place", "_law_thing", "_law_board", "_law_apart", "_law_mirrored", "_law_turned", "_law_board_of", "_law_stays"]
def loose : List PySem.Str := loose0
theorem top_run (w : World) : HandSHeadRun.RunEq RR (PySem.W.view RR.prog [15]) hk ob 4000 loose w := by
  intro os
  kernel_rfl
end NT.K
open PySem PySem.W PySem.Calls PyProof.Rows
theorem PySem.Challenge.cw_neartold_k16_whole_distances_holds : PySem.Challenge.rw_neartold_k16_whole_distances.Holds := by
  w_on; o_law
  refine HandSHeadRun.head_any (r := OpenLaw.row PySem.Challenge.rw_neartold_k16_whole_distances) (q := view (OpenLaw.row PySem.Challenge.rw_neartold_k16_whole_distances).prog [15]) (H := NT.K.hk) (ob := NT.K.ob) (M := 4000) (loose := NT.K.loose) (d := HandSHeadRun.topDef (OpenLaw.row PySem.Challenge.rw_neartold_k16_whole_distances).prog 15) (kwd := []) NT.K.ob_eq
    (by kernel_rfl) (fun s => by kernel_rfl) NT.K.top_run (by kernel_rfl) (by kernel_rfl) (by kernel_rfl) (by rfl) (by first | assumption | decide +kernel) (by decide +kernel) ⟨rfl, rfl, rfl, rfl, rfl, by decide +kernel⟩ ?hw ?hc
  case hw => w_witness2
  case hc => exact NT.law_of (l := PySem.Challenge.rw_neartold_k16_whole_distances) (n := 30) (li := NT.K.i_law) (lf := NT.K.f_law) (x := "_law_script") rfl (by kernel_rfl) ⟨rfl, by decide, by decide⟩ NT.K.o_F rfl rfl (by kernel_rfl) (fun ns _ => NT.K.law_run ns)
