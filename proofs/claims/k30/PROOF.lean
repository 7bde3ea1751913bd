import PyProof.Rows.All
import Wide.All
import OpenK.AllK
import Wide.FinOn
import HandS.ForMost
import HandS.Exc
import HandS.ExcOwn
import HandS.WordsExc
import HandS.CallSlots
import HandS.Walk
import HandS.Lambda
import HandS.IsInst
import HandS.TupAny
import HandS.Style
import HandS.Wide
import HandS.Deep
import HandS.ExcInit
import KE.KExcSuper
import KE.KFromBytes
import KE.DataEq
import KE.DataIsa
import KE.SortData
import HandS.More
import HandS.ExcField
import HandS.Small
import KE.KExcIs
import HandS.Comp
import HandS.Words
import HandS.Ends
import HandS.EndTab
import HandS.Nested
import HandS.Zip
import HandS.TupSets
import HandS.SetFor
import HandS.Strs
import KE.KNestM
import KE.RegKIsAll
import KE.RegKSuper
import KE.KExcLine
import PySem.Challenge.RW_piledtrees_k30_exceptions_of_the_first_p
set_option Elab.async false
set_option linter.all false
set_option maxRecDepth 100000
set_option maxHeartbeats 4000000
/-! Sm0: values D, abstract heaps, how they lie in the hand layer's heap, outcomes, the two judgements -/
namespace Sm
open PySem PySem.Spec PyProof.Rows L2

abbrev St := L2.St
/-- a value, told as data; objects that change stand in the abstract heap -/
inductive D where
  | non | bl (b : Bool) | int (i : Int) | str (x : Str)
  | tup (ds : List D) | lst (ds : List D)
  | dct (ks : List Key) (ds : List D)
  | ref (a : Nat) | cls (c : Nat) | fn (f : Nat)
  | exc (c : Nat) (ds : List D)
  | ty (n : String)
  | lam (j : Nat) (caps : List D)
  deriving Inhabited

inductive AO where
  | lst (ds : List D)
  | dct (lk : Bool) (kvs : List (D × D))
  | dtt (lk : Bool) (kvs : List (D × D))
  | ins (c : Nat) (fs : List (Str × D))
  deriving Inhabited

abbrev HA := List AO
abbrev SA := List (Option D)

/-- a lambda of the text: its name, its words, the names that it captures -/
structure LamRec where
  q : Str
  params : Arguments
  body : Expr
  scope : Scope
  ps : List Str
  fr : List Str

/-- what is fixed for a law -/
structure G where
  prog : Program
  w : World
  K : PySem.W.Frag
  mg : Str → Option Value
  base : Heap
  fa : Nat → Addr
  ca : Nat → Addr
  ef : Nat → List Str
  isa : String ⊕ Nat → String ⊕ Nat → Option Bool
  lm : Nat → LamRec
  tabs : List (Addr × Str)

def KTup (K : PySem.W.Frag) (a : Addr) (xs : List V) : Prop :=
  ∃ (o : Obj) (its : Array Value) (n : Nat), K.lookup a = some o ∧ o.cls = .type "tuple" ∧ o.data = .seq its n ∧ its.size ≤ sizeLine ∧ Vals xs its.toList
def KLst (K : PySem.W.Frag) (a : Addr) (xs : List V) : Prop :=
  ∃ (o : Obj) (its : Array Value) (n : Nat), K.lookup a = some o ∧ o.cls = .type "list" ∧ o.dict = none ∧ o.data = .seq its n ∧ its.size ≤ sizeLine ∧ Vals xs its.toList
/-- an exception's object: its class, its dict -/
def XO (C dd a : Addr) : HO := .ext fun h => ∃ (oe : Obj) (vs : Array Value), h.get? a = some oe ∧ Zc (.ref C) (some dd) oe ∧ oe.data = .fields vs

/-- a function object made of a lambda; a cell, its object told -/
def LamO (L : LamRec) (cl : List (Str × Addr)) (c f : Addr) : HO := .ext fun h => ∃ (pm ctv : Value), h.get? f = some (PySem.W.kla_obj "<lambda>" L.q L.params L.body L.scope cl pm c ctv)
def CellX (c : Addr) (o : Obj) : HO := .ext fun h => h.get? c = some o
/-- the cells of captured names -/
inductive CellsV (H : Hp) (m : List Addr) (cl : List (Str × Addr)) : List Str → List V → Prop
  | nil : CellsV H m cl [] []
  | cons {x : Str} {c : Addr} {o : Obj} {u : Value} {v : V} {xs : List Str} {vs : List V} : cl.lookup x = some c → H c = some (CellX c o) → c ∉ m → o.data = .cell (some u) → RelV v u → CellsV H m cl xs vs → CellsV H m cl (x :: xs) (v :: vs)

/-- a closure's names are the captured ones, its cells differ -/
structure ClOk (cl : List (Str × Addr)) (fr : List Str) : Prop where
  sub : ∀ y c, cl.lookup y = some c → y ∈ fr
  inj : ∀ x y c, cl.lookup x = some c → cl.lookup y = some c → x = y
structure CellsQ (H : Hp) (m : List Addr) (cl : List (Str × Addr)) (fr : List Str) (vs : List V) : Prop where
  ok : ClOk cl fr
  v : CellsV H m cl fr vs

mutual
inductive DV (g : G) (H : Hp) (m : List Addr) : D → V → Prop
  | non : DV g H m .non .non
  | bl (b : Bool) : DV g H m (.bl b) (.bl b)
  | int (i : Int) : DV g H m (.int i) (.int i)
  | str (x : Str) : DV g H m (.str x) (.str x)
  | ty (n : String) : DV g H m (.ty n) (.ty n)
  | tup {ds : List D} {vs : List V} {p : Addr} : ((H p = some (.tup vs) ∧ p ∉ m) ∨ KTup g.K p vs) → DVs g H m ds vs → DV g H m (.tup ds) (.ref p)
  | lst {ds : List D} {vs : List V} {p : Addr} : ((∃ o, H p = some (.frz o (.lst vs)) ∧ p ∉ m) ∨ KLst g.K p vs) → DVs g H m ds vs → DV g H m (.lst ds) (.ref p)
  | dct {ks : List Key} {ds : List D} {vs : List V} {p : Addr} : (∃ o, H p = some (.frz o (.dK (ks.zip vs))) ∧ p ∉ m) → ks.length = ds.length → DVs g H m ds vs → DV g H m (.dct ks ds) (.ref p)
  | ref {a : Nat} {p : Addr} : m[a]? = some p → DV g H m (.ref a) (.ref p)
  | cls (c : Nat) : DV g H m (.cls c) (.ref (g.ca c))
  | fn (f : Nat) : DV g H m (.fn f) (.ref (g.fa f))
  | exc {c : Nat} {ds : List D} {vs : List V} {p q : Addr} : H p = some (XO (g.ca c) q p) → p ∉ m → H q = some (.xd ((g.ef c).zip vs)) → q ∉ m → (g.ef c).length = ds.length → DVs g H m ds vs → DV g H m (.exc c ds) (.ref p)
  | lam {j : Nat} {ds : List D} {vs : List V} {p c : Addr} {cl : List (Str × Addr)} : H p = some (LamO (g.lm j) cl c p) → p ∉ m → H c = some (LamX.CodeO c (g.lm j).q) → c ∉ m → CellsQ H m cl (g.lm j).fr vs → DVs g H m ds vs → DV g H m (.lam j ds) (.ref p)
inductive DVs (g : G) (H : Hp) (m : List Addr) : List D → List V → Prop
  | nil : DVs g H m [] []
  | cons {d : D} {v : V} {ds : List D} {vs : List V} : DV g H m d v → DVs g H m ds vs → DVs g H m (d :: ds) (v :: vs)
end

/-- what a step may do: new objects, changes at the abstract heap's addresses alone -/
structure Gr (m m' : List Addr) (H H' : Hp) : Prop where
  ext : ∃ n, m' = m ++ n ∧ ∀ p ∈ n, H p = none
  keepN : ∀ p o, H p = some o → p ∉ m → (∀ ps, o ≠ .tbl ps) → H' p = some o
  tbl : ∀ p ps, H p = some (.tbl ps) → ∃ more, H' p = some (.tbl (ps ++ more))
  non : ∀ p, H' p = none → H p = none
theorem Gr.keep {m m' : List Addr} {H H' : Hp} (a : Gr m m' H H') (p : Addr) (o : HO) (h : H p = some o) (hm : p ∉ m) (ht : ∀ ps, o ≠ .tbl ps := by intro _ z; cases z) : H' p = some o := a.keepN p o h hm ht
/-- nothing that stands is changed -/
theorem Gr.mk' {m m' : List Addr} {H H' : Hp} (e : ∃ n, m' = m ++ n ∧ ∀ p ∈ n, H p = none) (k : ∀ p o, H p = some o → (p ∉ m ∨ ∃ ps, o = .tbl ps) → H' p = some o) (n : ∀ p, H' p = none → H p = none) : Gr m m' H H' :=
  ⟨e, fun p o h hm _ => k p o h (.inl hm), fun p ps h => ⟨#[], by rw [k p _ h (.inr ⟨ps, rfl⟩)]; simp⟩, n⟩

theorem Gr.refl (m : List Addr) (H : Hp) : Gr m m H H := Gr.mk' ⟨[], by simp, by simp⟩ (fun _ _ h _ => h) fun _ h => h
theorem Gr.trans {m m1 m2 : List Addr} {H H1 H2 : Hp} (a : Gr m m1 H H1) (b : Gr m1 m2 H1 H2) : Gr m m2 H H2 := by
  obtain ⟨n1, rfl, f1⟩ := a.ext
  obtain ⟨n2, rfl, f2⟩ := b.ext
  refine ⟨⟨n1 ++ n2, by simp, fun p hp => ?_⟩, fun p o h hm ht => ?_, fun p ps h => ?_, fun p h => a.non p (b.non p h)⟩
  · rcases List.mem_append.mp hp with h | h
    · exact f1 p h
    · exact a.non p (f2 p h)
  · refine b.keep p o (a.keep p o h hm ht) (fun hp => ?_) ht
    rcases List.mem_append.mp hp with h1 | h1
    · exact hm h1
    · rw [f1 p h1] at h; cases h
  · obtain ⟨m1, e1⟩ := a.tbl p ps h
    obtain ⟨m2, e2⟩ := b.tbl p _ e1
    exact ⟨m1 ++ m2, by rw [e2, Array.append_assoc]⟩
theorem Gr.get {m m' : List Addr} {H H' : Hp} (a : Gr m m' H H') {i : Nat} {p : Addr} (h : m[i]? = some p) : m'[i]? = some p := by
  obtain ⟨n, rfl, _⟩ := a.ext
  rw [List.getElem?_append_left (by exact (List.getElem?_eq_some_iff.mp h).1)]
  exact h
theorem Gr.notin {m m' : List Addr} {H H' : Hp} (a : Gr m m' H H') {p : Addr} {o : HO} (h : H p = some o) (hm : p ∉ m) : p ∉ m' := by
  obtain ⟨n, rfl, f⟩ := a.ext
  intro hp
  rcases List.mem_append.mp hp with h1 | h1
  · exact hm h1
  · rw [f p h1] at h; cases h
theorem Gr.new {m : List Addr} {H : Hp} {p : Addr} {o : HO} (h : H p = none) : Gr m m H (upd H p o) := by
  refine Gr.mk' ⟨[], by simp, by simp⟩ (fun q u hq _ => ?_) fun q hq => ?_
  · rw [upd_ne (fun e => by rw [e, h] at hq; cases hq)]; exact hq
  · by_cases e : q = p
    · subst e; exact h
    · rw [upd_ne e] at hq; exact hq

/-- as Gr, but lists outside may change -/
structure GrW (m m' : List Addr) (H H' : Hp) : Prop where
  ext : ∃ n, m' = m ++ n ∧ ∀ p ∈ n, H p = none
  keepN : ∀ p o, H p = some o → p ∉ m → (∀ ps, o ≠ .tbl ps) → (∀ xs, o ≠ .lst xs) → H' p = some o
  non : ∀ p, H' p = none → H p = none
theorem GrW.keep {m m' : List Addr} {H H' : Hp} (a : GrW m m' H H') (p : Addr) (o : HO) (h : H p = some o) (hm : p ∉ m) (ht : ∀ ps, o ≠ .tbl ps := by intro _ z; cases z) (hl : ∀ ps, o ≠ .lst ps := by intro _ z; cases z) : H' p = some o := a.keepN p o h hm ht hl
theorem Gr.w {m m' : List Addr} {H H' : Hp} (a : Gr m m' H H') : GrW m m' H H' := ⟨a.ext, fun p o h hm ht _ => a.keepN p o h hm ht, a.non⟩
theorem GrW.trans {m m1 m2 : List Addr} {H H1 H2 : Hp} (a : GrW m m1 H H1) (b : GrW m1 m2 H1 H2) : GrW m m2 H H2 := by
  obtain ⟨n1, rfl, f1⟩ := a.ext
  obtain ⟨n2, rfl, f2⟩ := b.ext
  refine ⟨⟨n1 ++ n2, by simp, fun p hp => ?_⟩, fun p o h hm ht hl => ?_, fun p h => a.non p (b.non p h)⟩
  · rcases List.mem_append.mp hp with h | h
    · exact f1 p h
    · exact a.non p (f2 p h)
  · refine b.keep p o (a.keep p o h hm ht hl) (fun hp => ?_) ht hl
    rcases List.mem_append.mp hp with h1 | h1
    · exact hm h1
    · rw [f1 p h1] at h; cases h
theorem GrW.get {m m' : List Addr} {H H' : Hp} (a : GrW m m' H H') {i : Nat} {p : Addr} (h : m[i]? = some p) : m'[i]? = some p := by
  obtain ⟨n, rfl, _⟩ := a.ext
  rw [List.getElem?_append_left (by exact (List.getElem?_eq_some_iff.mp h).1)]
  exact h
theorem GrW.notin {m m' : List Addr} {H H' : Hp} (a : GrW m m' H H') {p : Addr} {o : HO} (h : H p = some o) (hm : p ∉ m) : p ∉ m' := by
  obtain ⟨n, rfl, f⟩ := a.ext
  intro hp
  rcases List.mem_append.mp hp with h1 | h1
  · exact hm h1
  · rw [f p h1] at h; cases h
section
variable {g : G} {H H' : Hp} {m m' : List Addr}
theorem CellsV.mono (a : Gr m m' H H') {cl : List (Str × Addr)} : ∀ {xs : List Str} {vs : List V}, CellsV H m cl xs vs → CellsV H' m' cl xs vs
  | _, _, .nil => .nil
  | _, _, .cons h1 h2 h3 h4 h5 h6 => .cons h1 (a.keep _ _ h2 h3) (a.notin h2 h3) h4 h5 (CellsV.mono a h6)
theorem CellsQ.mono (a : Gr m m' H H') {cl : List (Str × Addr)} {xs : List Str} {vs : List V} (h : CellsQ H m cl xs vs) : CellsQ H' m' cl xs vs := ⟨h.ok, h.v.mono a⟩
mutual
theorem DV.mono (a : Gr m m' H H') : ∀ {d : D} {v : V}, DV g H m d v → DV g H' m' d v
  | _, _, .non => .non
  | _, _, .bl b => .bl b
  | _, _, .int i => .int i
  | _, _, .str x => .str x
  | _, _, .ty n => .ty n
  | _, _, .tup h hs => .tup (h.imp (fun h => ⟨a.keep _ _ h.1 h.2, a.notin h.1 h.2⟩) id) (DVs.mono a hs)
  | _, _, .lst h hs => .lst (h.imp (fun h => let ⟨o, h1, h2⟩ := h; ⟨o, a.keep _ _ h1 h2, a.notin h1 h2⟩) id) (DVs.mono a hs)
  | _, _, .dct h hl hs => .dct (let ⟨o, h1, h2⟩ := h; ⟨o, a.keep _ _ h1 h2, a.notin h1 h2⟩) hl (DVs.mono a hs)
  | _, _, .ref h => .ref (a.get h)
  | _, _, .cls c => .cls c
  | _, _, .fn f => .fn f
  | _, _, .exc h1 h2 h3 h4 h6 h5 => .exc (a.keep _ _ h1 h2) (a.notin h1 h2) (a.keep _ _ h3 h4) (a.notin h3 h4) h6 (DVs.mono a h5)
  | _, _, .lam h1 h2 h3 h4 h5 h6 => .lam (a.keep _ _ h1 h2) (a.notin h1 h2) (a.keep _ _ h3 h4) (a.notin h3 h4) (h5.mono a) (DVs.mono a h6)
theorem DVs.mono (a : Gr m m' H H') : ∀ {ds : List D} {vs : List V}, DVs g H m ds vs → DVs g H' m' ds vs
  | _, _, .nil => .nil
  | _, _, .cons h hs => .cons (DV.mono a h) (DVs.mono a hs)
end
theorem CellsV.monoW (a : GrW m m' H H') {cl : List (Str × Addr)} : ∀ {xs : List Str} {vs : List V}, CellsV H m cl xs vs → CellsV H' m' cl xs vs
  | _, _, .nil => .nil
  | _, _, .cons h1 h2 h3 h4 h5 h6 => .cons h1 (a.keep _ _ h2 h3) (a.notin h2 h3) h4 h5 (CellsV.monoW a h6)
theorem CellsQ.monoW (a : GrW m m' H H') {cl : List (Str × Addr)} {xs : List Str} {vs : List V} (h : CellsQ H m cl xs vs) : CellsQ H' m' cl xs vs := ⟨h.ok, h.v.monoW a⟩
mutual
theorem DV.monoW (a : GrW m m' H H') : ∀ {d : D} {v : V}, DV g H m d v → DV g H' m' d v
  | _, _, .non => .non
  | _, _, .bl b => .bl b
  | _, _, .int i => .int i
  | _, _, .str x => .str x
  | _, _, .ty n => .ty n
  | _, _, .tup h hs => .tup (h.imp (fun h => ⟨a.keep _ _ h.1 h.2, a.notin h.1 h.2⟩) id) (DVs.monoW a hs)
  | _, _, .lst h hs => .lst (h.imp (fun h => let ⟨o, h1, h2⟩ := h; ⟨o, a.keep _ _ h1 h2, a.notin h1 h2⟩) id) (DVs.monoW a hs)
  | _, _, .dct h hl hs => .dct (let ⟨o, h1, h2⟩ := h; ⟨o, a.keep _ _ h1 h2, a.notin h1 h2⟩) hl (DVs.monoW a hs)
  | _, _, .ref h => .ref (a.get h)
  | _, _, .cls c => .cls c
  | _, _, .fn f => .fn f
  | _, _, .exc h1 h2 h3 h4 h6 h5 => .exc (a.keep _ _ h1 h2) (a.notin h1 h2) (a.keep _ _ h3 h4) (a.notin h3 h4) h6 (DVs.monoW a h5)
  | _, _, .lam h1 h2 h3 h4 h5 h6 => .lam (a.keep _ _ h1 h2) (a.notin h1 h2) (a.keep _ _ h3 h4) (a.notin h3 h4) (h5.monoW a) (DVs.monoW a h6)
theorem DVs.monoW (a : GrW m m' H H') : ∀ {ds : List D} {vs : List V}, DVs g H m ds vs → DVs g H' m' ds vs
  | _, _, .nil => .nil
  | _, _, .cons h hs => .cons (DV.monoW a h) (DVs.monoW a hs)
end
theorem DVs.length : ∀ {ds : List D} {vs : List V}, DVs g H m ds vs → ds.length = vs.length
  | _, _, .nil => rfl
  | _, _, .cons _ hs => by simp [DVs.length hs]
theorem DVs.get : ∀ {ds : List D} {vs : List V} {i : Nat} {d : D}, DVs g H m ds vs → ds[i]? = some d → ∃ v, vs[i]? = some v ∧ DV g H m d v
  | _, _, _, _, .nil, e => by simp at e
  | _, _, 0, _, .cons h _, e => by simp at e; subst e; exact ⟨_, rfl, h⟩
  | _, _, i + 1, _, .cons _ hs, e => by
    obtain ⟨v, h1, h2⟩ := DVs.get (i := i) hs (by simpa using e)
    exact ⟨v, by simpa using h1, h2⟩
theorem DVs.set {d : D} {v : V} (h : DV g H m d v) : ∀ {ds : List D} {vs : List V} (i : Nat), DVs g H m ds vs → DVs g H m (ds.set i d) (vs.set i v)
  | _, _, _, .nil => .nil
  | _, _, 0, .cons _ hs => .cons h hs
  | _, _, i + 1, .cons q hs => .cons q (DVs.set h i hs)
theorem DVs.append : ∀ {ds es : List D} {vs ws : List V}, DVs g H m ds vs → DVs g H m es ws → DVs g H m (ds ++ es) (vs ++ ws)
  | _, _, _, _, .nil, k => k
  | _, _, _, _, .cons h hs, k => .cons h (DVs.append hs k)
theorem DVs.take : ∀ {ds : List D} {vs : List V} (n : Nat), DVs g H m ds vs → DVs g H m (ds.take n) (vs.take n)
  | _, _, 0, _ => .nil
  | _, _, _ + 1, .nil => .nil
  | _, _, n + 1, .cons h hs => .cons h (DVs.take n hs)
theorem DVs.drop : ∀ {ds : List D} {vs : List V} (n : Nat), DVs g H m ds vs → DVs g H m (ds.drop n) (vs.drop n)
  | _, _, 0, h => h
  | _, _, _ + 1, .nil => .nil
  | _, _, n + 1, .cons _ hs => DVs.drop n hs
end

/-! ### the abstract heap -/
def toKey : D → Option Key
  | .int i => some (.inl i)
  | .str x => some (.inr x)
  | _ => none
def toKeys : List D → Option (List Key)
  | [] => some []
  | d :: ds => match toKey d, toKeys ds with
    | some k, some ks => some (k :: ks)
    | _, _ => none
def toKeyT : D → Option (List Key)
  | .tup ds => toKeys ds
  | _ => none
section
variable (g : G) (H : Hp) (m : List Addr)
def KVR (kvs : List (D × D)) (ks : List (Key × V)) : Prop := Paired (fun p q => toKey p.1 = some q.1 ∧ DV g H m p.2 q.2) kvs ks
def KTR (kvs : List (D × D)) (ks : List (List Key × V)) : Prop := Paired (fun p q => toKeyT p.1 = some q.1 ∧ DV g H m p.2 q.2) kvs ks
def FVR (fs : List (Str × D)) (us : List (Str × V)) : Prop := Paired (fun p q => p.1 = q.1 ∧ DV g H m p.2 q.2) fs us
def AOR : AO → Addr → Prop
  | .lst ds, p => ∃ vs, H p = some (.lst vs) ∧ DVs g H m ds vs
  | .dct false kvs, p => ∃ ks, H p = some (.dK ks) ∧ KVR g H m kvs ks
  | .dct true kvs, p => ∃ o ks, H p = some (.frz o (.dK ks)) ∧ KVR g H m kvs ks
  | .dtt false kvs, p => ∃ ks, H p = some (.dT ks) ∧ KTR g H m kvs ks
  | .dtt true kvs, p => ∃ o ks, H p = some (.frz o (.dT ks)) ∧ KTR g H m kvs ks
  | .ins c fs, p => ∃ dx us, H p = some (.ins (g.ca c) dx us) ∧ FVR g H m fs us
structure RH (A : HA) : Prop where
  nd : m.Nodup
  at_ : Paired (fun p o => AOR g H m o p) m A
  tb : LamX.Tabs g.tabs H
  tbm : ∀ p ∈ g.tabs, p.1 ∉ m
structure RS (E : SA) (σ : St) : Prop where
  len : E.length = σ.length
  at_ : ∀ (i : Nat) (d : D), E[i]? = some (some d) → ∃ v, σ[i]? = some (some v) ∧ DV g H m d v
end
section
variable {g : G} {H H' : Hp} {m m' : List Addr} {A : HA} {E : SA} {σ : St}
theorem Paired.mapR {α β : Type} {F F' : α → β → Prop} : ∀ {l₁ : List α} {l₂ : List β}, Paired F l₁ l₂ → (∀ a b, F a b → F' a b) → Paired F' l₁ l₂
  | _, _, .nil, _ => .nil
  | _, _, .cons r t, f => .cons (f _ _ r) (Paired.mapR t f)
theorem Paired.getR {α β : Type} {F : α → β → Prop} : ∀ {l₁ : List α} {l₂ : List β} {i : Nat} {b : β}, Paired F l₁ l₂ → l₂[i]? = some b → ∃ a, l₁[i]? = some a ∧ F a b
  | _, _, _, _, .nil, e => by simp at e
  | _, _, 0, _, .cons r _, e => by simp at e; subst e; exact ⟨_, rfl, r⟩
  | _, _, i + 1, _, .cons _ t, e => by
    obtain ⟨a, h1, h2⟩ := Paired.getR (i := i) t (by simpa using e)
    exact ⟨a, by simpa using h1, h2⟩
theorem Paired.memL {α β : Type} {F : α → β → Prop} : ∀ {l₁ : List α} {l₂ : List β} {a : α}, Paired F l₁ l₂ → a ∈ l₁ → ∃ b, F a b
  | _, _, _, .cons r t, e => by
    rcases List.mem_cons.mp e with rfl | e
    · exact ⟨_, r⟩
    · exact Paired.memL t e
theorem RS.mono (a : Gr m m' H H') (h : RS g H m E σ) : RS g H' m' E σ := ⟨h.len, fun i d e => let ⟨v, h1, h2⟩ := h.at_ i d e; ⟨v, h1, h2.mono a⟩⟩
theorem RS.set {d : D} {v : V} (h : RS g H m E σ) (i : Nat) (r : DV g H m d v) : RS g H m (E.set i (some d)) (σ.set i (some v)) := by
  refine ⟨by simp [h.len], fun j e hj => ?_⟩
  by_cases hij : i = j
  · subst hij
    by_cases hl : i < E.length
    · rw [List.getElem?_set_self hl] at hj
      simp at hj; subst hj
      exact ⟨v, by rw [List.getElem?_set_self (by rw [← h.len]; exact hl)], r⟩
    · rw [List.getElem?_eq_none (by simp; omega)] at hj; cases hj
  · rw [List.getElem?_set_ne hij] at hj
    obtain ⟨w, h1, h2⟩ := h.at_ j e hj
    exact ⟨w, by rw [List.getElem?_set_ne hij]; exact h1, h2⟩
theorem AOR.there {o : AO} {p : Addr} (h : AOR g H m o p) : ∃ u, H p = some u := by
  cases o with
  | lst ds => obtain ⟨_, h, _⟩ := h; exact ⟨_, h⟩
  | dct lk kvs =>
    cases lk with
    | false => obtain ⟨_, h, _⟩ := h; exact ⟨_, h⟩
    | true => obtain ⟨_, _, h, _⟩ := h; exact ⟨_, h⟩
  | dtt lk kvs =>
    cases lk with
    | false => obtain ⟨_, h, _⟩ := h; exact ⟨_, h⟩
    | true => obtain ⟨_, _, h, _⟩ := h; exact ⟨_, h⟩
  | ins c fs => obtain ⟨_, _, h, _⟩ := h; exact ⟨_, h⟩
theorem RH.there (h : RH g H m A) {p : Addr} (hp : p ∈ m) : ∃ u, H p = some u := by
  obtain ⟨o, h⟩ := Paired.memL h.at_ hp
  exact AOR.there h
theorem RH.new (h : RH g H m A) {p : Addr} (hp : H p = none) : p ∉ m := fun e => by
  obtain ⟨u, h⟩ := h.there e
  rw [hp] at h; cases h
/-- the object's own description stays, its values may be carried over -/
theorem AOR.mono {o : AO} {p : Addr} (a : Gr m m' H H') (e : H' p = H p) (h : AOR g H m o p) : AOR g H' m' o p := by
  cases o with
  | lst ds => obtain ⟨vs, h1, h2⟩ := h; exact ⟨vs, e.trans h1, h2.mono a⟩
  | dct lk kvs =>
    have k1 : ∀ ks, KVR g H m kvs ks → KVR g H' m' kvs ks := fun ks r => Paired.mapR r fun _ _ z => ⟨z.1, z.2.mono a⟩
    cases lk with
    | false => obtain ⟨ks, h1, h2⟩ := h; exact ⟨ks, e.trans h1, k1 _ h2⟩
    | true => obtain ⟨o, ks, h1, h2⟩ := h; exact ⟨o, ks, e.trans h1, k1 _ h2⟩
  | dtt lk kvs =>
    have k2 : ∀ ks, KTR g H m kvs ks → KTR g H' m' kvs ks := fun ks r => Paired.mapR r fun _ _ z => ⟨z.1, z.2.mono a⟩
    cases lk with
    | false => obtain ⟨ks, h1, h2⟩ := h; exact ⟨ks, e.trans h1, k2 _ h2⟩
    | true => obtain ⟨o, ks, h1, h2⟩ := h; exact ⟨o, ks, e.trans h1, k2 _ h2⟩
  | ins c fs => obtain ⟨dx, us, h1, h2⟩ := h; exact ⟨dx, us, e.trans h1, Paired.mapR h2 fun _ _ z => ⟨z.1, z.2.mono a⟩⟩
/-- all that is tracked stays -/
theorem RH.grow (h : RH g H m A) (a : Gr m m H H') (k : ∀ p o, H p = some o → H' p = some o) : RH g H' m A :=
  ⟨h.nd, Paired.mapR h.at_ fun p o r => r.mono a (by obtain ⟨u, hu⟩ := r.there; rw [k p u hu, hu]), h.tb.ext k, h.tbm⟩
theorem RH.upd (h : RH g H m A) {p : Addr} {o : HO} (hp : H p = none) : RH g (upd H p o) m A :=
  h.grow (Gr.new hp) fun q u hq => by rw [upd_ne (fun e => by rw [e, hp] at hq; cases hq)]; exact hq
/-- a change of what is no table and no code object -/
theorem tabs_chg {T : List (Addr × Str)} {p : Addr} {u o : HO} (t : LamX.Tabs T H) (hp : H p = some u) (h1 : ∀ ps, u ≠ .tbl ps) (h2 : ∀ φ, u ≠ .ext φ) : LamX.Tabs T (L2.upd H p o) := fun q hq => by
  obtain ⟨ps, e1, e2, e3⟩ := t q hq
  refine ⟨ps, by rw [upd_ne (fun z => by rw [z, hp] at e1; cases e1; exact h1 _ rfl)]; exact e1, e2, fun pos cv hc => ?_⟩
  obtain ⟨c, k1, k2⟩ := e3 pos cv hc
  refine ⟨c, k1, ?_⟩
  rw [upd_ne (fun z => by rw [z, hp] at k2; cases k2; exact h2 _ rfl)]
  exact k2
theorem AOR.kinds {o : AO} {p : Addr} (h : AOR g H m o p) : ∃ u, H p = some u ∧ (∀ ps, u ≠ .tbl ps) ∧ ∀ φ, u ≠ .ext φ := by
  cases o with
  | lst ds => obtain ⟨_, h, _⟩ := h; exact ⟨_, h, by simp, by simp⟩
  | dct lk kvs =>
    cases lk with
    | false => obtain ⟨_, h, _⟩ := h; exact ⟨_, h, by simp, by simp⟩
    | true => obtain ⟨_, _, h, _⟩ := h; exact ⟨_, h, by simp, by simp⟩
  | dtt lk kvs =>
    cases lk with
    | false => obtain ⟨_, h, _⟩ := h; exact ⟨_, h, by simp, by simp⟩
    | true => obtain ⟨_, _, h, _⟩ := h; exact ⟨_, h, by simp, by simp⟩
  | ins c fs => obtain ⟨_, _, h, _⟩ := h; exact ⟨_, h, by simp, by simp⟩
theorem RH.kinds (h : RH g H m A) {p : Addr} (hp : p ∈ m) : ∃ u, H p = some u ∧ (∀ ps, u ≠ .tbl ps) ∧ ∀ φ, u ≠ .ext φ := by
  obtain ⟨o, r⟩ := Paired.memL h.at_ hp
  exact r.kinds
theorem RH.get (h : RH g H m A) {i : Nat} {o : AO} (e : A[i]? = some o) : ∃ p, m[i]? = some p ∧ AOR g H m o p := Paired.getR (F := fun p o => AOR g H m o p) h.at_ e
/-- a change at the i-th object -/
theorem Gr.chg {i : Nat} {p : Addr} {u : HO} (hi : m[i]? = some p) (hp : ∃ o, H p = some o ∧ ∀ ps, o ≠ .tbl ps) : Gr m m H (L2.upd H p u) := by
  refine Gr.mk' ⟨[], by simp, by simp⟩ (fun q o hq hm => ?_) fun q hq => ?_
  · rw [upd_ne (fun e => hm.elim (fun hm => hm (by rw [e]; exact List.mem_of_getElem? hi)) fun ⟨ps, z⟩ => by
      obtain ⟨o', h1, h2⟩ := hp
      rw [e, h1] at hq
      cases hq
      exact h2 ps z)]
    exact hq
  · by_cases e : q = p
    · subst e; rw [upd_same] at hq; cases hq
    · rw [upd_ne e] at hq; exact hq
theorem Paired.setR {α β : Type} {F F' : α → β → Prop} : ∀ {l₁ : List α} {l₂ : List β} {i : Nat} {a : α} {b : β}, Paired F l₁ l₂ → l₁[i]? = some a → l₁.Nodup → F' a b → (∀ x y, x ≠ a → F x y → F' x y) → Paired F' l₁ (l₂.set i b)
  | _, _, _, _, _, .nil, e, _, _, _ => by simp at e
  | x :: l₁, y :: l₂, 0, a, b, .cons r t, e, nd, n, k => by
    simp at e; subst e
    rw [List.nodup_cons] at nd
    refine .cons n ?_
    have q : ∀ {u₁ : List α} {u₂ : List β}, x ∉ u₁ → Paired F u₁ u₂ → Paired F' u₁ u₂ := by
      intro u₁ u₂ hu h
      induction h with
      | nil => exact .nil
      | cons r _ ih =>
        rw [List.mem_cons, not_or] at hu
        exact .cons (k _ _ (Ne.symm hu.1) r) (ih hu.2)
    exact q nd.1 t
  | x :: l₁, y :: l₂, i + 1, a, b, .cons r t, e, nd, n, k => by
    rw [List.nodup_cons] at nd
    have e' : l₁[i]? = some a := by simpa using e
    refine .cons (k _ _ (fun z => nd.1 (z ▸ List.mem_of_getElem? e')) r) ?_
    exact Paired.setR t e' nd.2 n k
theorem RH.set (h : RH g H m A) {i : Nat} {p : Addr} {u : HO} {o : AO} (hi : m[i]? = some p) (hp : ∃ o, H p = some o) (n : AOR g (L2.upd H p u) m o p) : RH g (L2.upd H p u) m (A.set i o) := by
  obtain ⟨w, k1, k2, k3⟩ := h.kinds (List.mem_of_getElem? hi)
  refine ⟨h.nd, Paired.setR h.at_ hi h.nd n fun q o' hq r => ?_, tabs_chg h.tb k1 k2 k3, h.tbm⟩
  exact r.mono (Gr.chg hi ⟨w, k1, k2⟩) (upd_ne hq)
theorem Paired.snocR {α β : Type} {F : α → β → Prop} {a : α} {b : β} : ∀ {l₁ : List α} {l₂ : List β}, Paired F l₁ l₂ → F a b → Paired F (l₁ ++ [a]) (l₂ ++ [b])
  | _, _, .nil, h => .cons h .nil
  | _, _, .cons h t, k => .cons h (Paired.snocR t k)
/-- a new object -/
theorem Gr.push {p : Addr} {u : HO} (hp : H p = none) : Gr m (m ++ [p]) H (L2.upd H p u) := by
  refine Gr.mk' ⟨[p], rfl, fun q hq => by simp at hq; subst hq; exact hp⟩ (fun q o hq _ => ?_) fun q hq => ?_
  · rw [upd_ne (fun e => by rw [e, hp] at hq; cases hq)]; exact hq
  · by_cases e : q = p
    · subst e; exact hp
    · rw [upd_ne e] at hq; exact hq
theorem RH.push (h : RH g H m A) {p : Addr} {u : HO} {o : AO} (hp : H p = none) (n : AOR g (L2.upd H p u) (m ++ [p]) o p) : RH g (L2.upd H p u) (m ++ [p]) (A ++ [o]) := by
  refine ⟨?_, Paired.snocR (Paired.mapR h.at_ fun q o' r => ?_) n, h.tb.ext (fun q w hq => by rw [upd_ne (fun e => by rw [e, hp] at hq; cases hq)]; exact hq), fun q hq => ?_⟩
  · rw [List.nodup_append]
    refine ⟨h.nd, by simp, fun a ha b hb e => ?_⟩
    simp at hb
    exact h.new hp (by rw [← hb, ← e]; exact ha)
  · refine r.mono (Gr.push hp) (upd_ne fun e => ?_)
    obtain ⟨w, hw⟩ := r.there
    rw [e, hp] at hw; cases hw
  · rw [List.mem_append, not_or]
    refine ⟨h.tbm q hq, fun z => ?_⟩
    simp at z
    obtain ⟨ps, e1, _⟩ := h.tb q hq
    rw [z, hp] at e1; cases e1
end

/-! ### outcomes -/
inductive R (α : Type) where
  | ok (a : α) (h : HA)
  | exc (c : Nat) (ds : List D) (h : HA)
  | no
  deriving Inhabited
inductive RSt where
  | nx (E : SA) (h : HA)
  | rt (d : D) (h : HA)
  | bk (E : SA) (h : HA)
  | ct (E : SA) (h : HA)
  | exc (c : Nat) (ds : List D) (E : SA) (h : HA)
  | no
  deriving Inhabited
abbrev CE := SA → HA → R D
abbrev CA := SA → HA → R (List D)
abbrev CB := SA → HA → R Bool
abbrev CS := SA → HA → RSt
def R.bind {α β : Type} (r : R α) (f : α → HA → R β) : R β := match r with
  | .ok a h => f a h
  | .exc c ds h => .exc c ds h
  | .no => .no

/-- how an exception lies: class, dict -/
def EXR (g : G) (H : Hp) (m : List Addr) (c : Nat) (ds : List D) (cls : Value) (d : Option Addr) : Prop :=
  cls = .ref (g.ca c) ∧ ∃ q vs, d = some q ∧ H q = some (.xd ((g.ef c).zip vs)) ∧ q ∉ m ∧ (g.ef c).length = ds.length ∧ DVs g H m ds vs

/-- a def's (or block's) fixed data -/
structure F where
  g : G
  N : List Str
  scope : Scope
  k : Nat
  cl : List Str := []
  deep : Bool := false
  ltb : List (Addr × Str) := []
/-- the contexts that a derivation serves -/
structure Ok (F : F) (W : WX) (X : Cx) : Prop where
  prog : X.prog = F.g.prog
  w : X.w = F.g.w
  K : X.K = F.g.K
  mg : X.mg = F.g.mg
  base : X.base = F.g.base
  N : X.N = F.N
  sc : X.env.scope = F.scope
  nd : F.N.Nodup
  room : Room F.k X.A
  calm : X.calm = true
  gd : X.A.guards = some []
  tk : Takes X W
  fnb : F.deep = false → ∀ x, X.fn x = true
  tabB : ∀ t ∈ F.ltb, ∃ c, X.env.code = .ref c ∧ LamX.TabB X.base X.mg c t.1 ∧ X.env.qual ++ "<lambda>" = t.2

/-- how what is told lies to what is -/
abbrev Rl (α β : Type) := Hp → List Addr → α → β → Prop
abbrev rE (g : G) : Rl D V := fun H m d v => DV g H m d v
abbrev rA (g : G) : Rl (List D) (List V) := fun H m d v => DVs g H m d v
abbrev rB : Rl Bool Bool := fun _ _ a b => a = b
def Po {α β : Type} (ρ : Rl α β) (g : G) (m : List Addr) (H : Hp) (W : WX) (σ : St) (r : R α) (Q : β → Hp → Prop) : Prop := match r with
  | .ok a h => ∀ m' b H', Gr m m' H H' → RH g H' m' h → ρ H' m' a b → Q b H'
  | .exc c ds h => ∀ m' H' cls d, Gr m m' H H' → RH g H' m' h → EXR g H' m' c ds cls d → W cls d σ H'
  | .no => False
def Tx {α β : Type} (ρ : Rl α β) (g : G) (W : WX) (c : SA → HA → R α) : St → Hp → (β → Hp → Prop) → Prop := fun σ H Q => ∃ m E A, RH g H m A ∧ RS g H m E σ ∧ Po ρ g m H W σ (c E A) Q
abbrev TEx (g : G) (W : WX) (c : CE) : TE := Tx (rE g) g W c
abbrev TAx (g : G) (W : WX) (c : CA) : TA := Tx (rA g) g W c
abbrev TBx (g : G) (W : WX) (c : CB) : TT := Tx rB g W c
def PoS (g : G) (m : List Addr) (H : Hp) (W : WX) (r : RSt) (D : Ends) : Prop := match r with
  | .nx E h => ∀ m' σ' H', Gr m m' H H' → RH g H' m' h → RS g H' m' E σ' → D.nx σ' H'
  | .rt d h => ∀ m' v H', Gr m m' H H' → RH g H' m' h → DV g H' m' d v → D.rt v H'
  | .bk E h => ∀ m' σ' H', Gr m m' H H' → RH g H' m' h → RS g H' m' E σ' → D.bk σ' H'
  | .ct E h => ∀ m' σ' H', Gr m m' H H' → RH g H' m' h → RS g H' m' E σ' → D.ct σ' H'
  | .exc c ds E h => ∀ m' σ' H' cls d, Gr m m' H H' → RH g H' m' h → RS g H' m' E σ' → EXR g H' m' c ds cls d → W cls d σ' H'
  | .no => False
def TSx (g : G) (W : WX) (c : CS) : TS := fun D σ H => ∃ m E A, RH g H m A ∧ RS g H m E σ ∧ PoS g m H W (c E A) D

def JE (F : F) (e : Expr) (c : CE) : Prop := ∀ W X, Ok F W X → PE X e (TEx F.g W c)
def JA (F : F) (es : List Expr) (c : CA) : Prop := ∀ W X, Ok F W X → PA X es (TAx F.g W c)
def JB (F : F) (e : Expr) (c : CB) : Prop := ∀ W X, Ok F W X → PT X e (TBx F.g W c)
def JS (F : F) (s : Stmt) (c : CS) : Prop := ∀ W X, Ok F W X → PS X s (TSx F.g W c)
def JSs (F : F) (s : List Stmt) (c : CS) : Prop := ∀ W X, Ok F W X → PSs X s (TSx F.g W c)

theorem PE.imp {X : Cx} {e : Expr} {t t' : TE} (h : PE X e t) (k : ∀ σ H Q, t' σ H Q → t σ H Q) : PE X e t' := ⟨fun pins s σ H Q I q => h.run pins s σ H Q I (k σ H Q q)⟩
theorem PA.imp {X : Cx} {e : List Expr} {t t' : TA} (h : PA X e t) (k : ∀ σ H Q, t' σ H Q → t σ H Q) : PA X e t' := ⟨fun pos pins s σ H Q I q => h.run pos pins s σ H Q I (k σ H Q q)⟩
theorem PT.imp {X : Cx} {e : Expr} {t t' : TT} (h : PT X e t) (k : ∀ σ H Q, t' σ H Q → t σ H Q) : PT X e t' := ⟨fun pins s σ H Q I q => h.run pins s σ H Q I (k σ H Q q)⟩
theorem PS.imp {X : Cx} {e : Stmt} {t t' : TS} (h : PS X e t) (k : ∀ D σ H, t' D σ H → t D σ H) : PS X e t' := ⟨fun pins s σ H D I q => h.run pins s σ H D I (k D σ H q)⟩
theorem PSs.imp {X : Cx} {e : List Stmt} {t t' : TS} (h : PSs X e t) (k : ∀ D σ H, t' D σ H → t D σ H) : PSs X e t' := ⟨fun pins s σ H D I q => h.run pins s σ H D I (k D σ H q)⟩

section
variable {g : G} {W : WX} {σ : St} {H H1 : Hp} {m m1 : List Addr} {E : SA}
theorem Po.from {α β : Type} {ρ : Rl α β} {r : R α} {Q : β → Hp → Prop} (a : Gr m m1 H H1) (h : Po ρ g m H W σ r Q) : Po ρ g m1 H1 W σ r Q := by
  cases r with
  | ok d h' => exact fun m' v H' b => h m' v H' (a.trans b)
  | exc c ds h' => exact fun m' H' cls d b => h m' H' cls d (a.trans b)
  | no => exact h
theorem PoS.from {r : RSt} {D : Ends} (a : Gr m m1 H H1) (h : PoS g m H W r D) : PoS g m1 H1 W r D := by
  cases r with
  | nx => exact fun m' σ' H' b => h m' σ' H' (a.trans b)
  | rt => exact fun m' σ' H' b => h m' σ' H' (a.trans b)
  | bk => exact fun m' σ' H' b => h m' σ' H' (a.trans b)
  | ct => exact fun m' σ' H' b => h m' σ' H' (a.trans b)
  | exc => exact fun m' σ' H' cls d b => h m' σ' H' cls d (a.trans b)
  | no => exact h
/-- a part, then the rest -/
theorem Tx.bindT {α β α' β' : Type} {ρ : Rl α β} {ρ' : Rl α' β'} {c : SA → HA → R α} {k : α → SA → HA → R α'} {Q : β' → Hp → Prop} {P : β → Hp → Prop} (h : Tx ρ' g W (fun E A => (c E A).bind fun d A1 => k d E A1) σ H Q)
    (n : ∀ m E A a b H, RH g H m A → RS g H m E σ → ρ H m a b → Po ρ' g m H W σ (k a E A) Q → P b H) : Tx ρ g W c σ H P := by
  obtain ⟨m, E, A, rh, rs, q⟩ := h
  refine ⟨m, E, A, rh, rs, ?_⟩
  cases hc : c E A with
  | ok d A1 =>
    simp only [hc, R.bind] at q
    exact fun m' v H' a r x => n m' E A1 d v H' r (rs.mono a) x (Po.from a q)
  | exc c' ds A1 => simp only [hc, R.bind] at q; exact q
  | no => simp only [hc, R.bind] at q; exact q
/-- .. into a statement -/
def RSt.of {α : Type} (r : R α) (E : SA) (f : α → HA → RSt) : RSt := match r with
  | .ok a h => f a h
  | .exc c ds h => .exc c ds E h
  | .no => .no
theorem TSx.bindT {α β : Type} {ρ : Rl α β} {c : SA → HA → R α} {k : α → SA → HA → RSt} {D : Ends} {P : β → Hp → Prop} (h : TSx g W (fun E A => RSt.of (c E A) E fun d A1 => k d E A1) D σ H)
    (n : ∀ m E A a b H, RH g H m A → RS g H m E σ → ρ H m a b → PoS g m H W (k a E A) D → P b H) : Tx ρ g W c σ H P := by
  obtain ⟨m, E, A, rh, rs, q⟩ := h
  refine ⟨m, E, A, rh, rs, ?_⟩
  cases hc : c E A with
  | ok d A1 =>
    simp only [hc, RSt.of] at q
    exact fun m' v H' a r x => n m' E A1 d v H' r (rs.mono a) x (PoS.from a q)
  | exc c' ds A1 =>
    simp only [hc, RSt.of] at q
    exact fun m' H' cls d a r x => q m' σ H' cls d a r (rs.mono a) x
  | no => simp only [hc, RSt.of] at q; exact q
end
end Sm

/-! Sm1: expressions -/
namespace Sm
open PySem PySem.Spec PyProof.Rows L2

theorem Po.bind {α β α' β' : Type} {ρ : Rl α β} {ρ' : Rl α' β'} {g : G} {m : List Addr} {H : Hp} {W : WX} {σ : St} {r : R α} {k : α → HA → R α'} {Q : β' → Hp → Prop} {P : β → Hp → Prop} (h : Po ρ' g m H W σ (r.bind k) Q)
    (n : ∀ m1 H1 a b A1, Gr m m1 H H1 → RH g H1 m1 A1 → ρ H1 m1 a b → Po ρ' g m1 H1 W σ (k a A1) Q → P b H1) : Po ρ g m H W σ r P := by
  cases r with
  | ok d A1 => exact fun m' v H' a r x => n m' H' d v A1 a r x (Po.from a h)
  | exc c' ds A1 => exact h
  | no => exact h
theorem PoS.bind {α β : Type} {ρ : Rl α β} {g : G} {m : List Addr} {H : Hp} {W : WX} {σ : St} {E : SA} {r : R α} {k : α → HA → RSt} {D : Ends} {P : β → Hp → Prop} (rs : RS g H m E σ) (h : PoS g m H W (RSt.of r E k) D)
    (n : ∀ m1 H1 a b A1, Gr m m1 H H1 → RH g H1 m1 A1 → ρ H1 m1 a b → PoS g m1 H1 W (k a A1) D → P b H1) : Po ρ g m H W σ r P := by
  cases r with
  | ok d A1 => exact fun m' v H' a r x => n m' H' d v A1 a r x (PoS.from a h)
  | exc c' ds A1 => exact fun m' H' cls d a r x => h m' σ H' cls d a r (rs.mono a) x
  | no => exact h
/-- the end of a part: a value at the heap as it is -/
theorem Po.ok {α β : Type} {ρ : Rl α β} {g : G} {m : List Addr} {H : Hp} {W : WX} {σ : St} {a : α} {b : β} {A : HA} {Q : β → Hp → Prop} (h : Po ρ g m H W σ (.ok a A) Q) (rh : RH g H m A) (r : ρ H m a b) : Q b H := h m b H (Gr.refl _ _) rh r
/-- .. at a grown heap -/
theorem Po.ok' {α β : Type} {ρ : Rl α β} {g : G} {m m' : List Addr} {H H' : Hp} {W : WX} {σ : St} {a : α} {b : β} {A : HA} {Q : β → Hp → Prop} (h : Po ρ g m H W σ (.ok a A) Q) (gr : Gr m m' H H') (rh : RH g H' m' A) (r : ρ H' m' a b) : Q b H' := h m' b H' gr rh r

variable {F : F} {pos : Pos}
/-! ### names, constants -/
def cVar (i : Nat) : CE := fun E A => match E[i]? with
  | some (some d) => .ok d A
  | _ => .no
def cC (d : D) : CE := fun _ A => .ok d A
theorem je_var {i : Nat} {x : Str} (hN : F.N[i]? = some x) (hv : Vis F.scope x) (hd : (x == ("__debug__" : Str)) = false := by decide) (hcd : (x == ("__classdict__" : Str)) = false := by decide) : JE F (.Name x pos) (cVar i) := by
  intro W X ok
  refine PE.imp (pe_var (i := i) (by rw [ok.N]; exact hN) (by rw [ok.sc]; exact hv) hd hcd) ?_
  rintro σ H Q ⟨m, E, A, rh, rs, q⟩
  unfold cVar at q
  split at q
  · rename_i d e
    obtain ⟨v, h1, h2⟩ := rs.at_ i d e
    exact ⟨v, h1, q.ok rh h2⟩
  · exact q.elim
theorem je_c {e : Expr} {v : V} {d : D} (h : ∀ X : Cx, PE X e (tC v)) (r : ∀ H m, DV F.g H m d v) : JE F e (cC d) := by
  intro W X ok
  refine PE.imp (h X) ?_
  rintro σ H Q ⟨m, E, A, rh, rs, q⟩
  exact Po.ok q rh (r H m)
theorem je_int {i : Int} {j : Nat} : JE F (.Constant (.int i) j pos) (cC (.int i)) := je_c (fun _ => pe_int) fun _ _ => .int i
theorem je_str {x : Str} {j : Nat} : JE F (.Constant (.str x) j pos) (cC (.str x)) := je_c (fun _ => pe_str) fun _ _ => .str x
theorem je_bl {b : Bool} {j : Nat} : JE F (.Constant (.bool b) j pos) (cC (.bl b)) := je_c (fun _ => pe_bl) fun _ _ => .bl b
theorem je_non {j : Nat} : JE F (.Constant .none j pos) (cC .non) := je_c (fun _ => pe_non) fun _ _ => .non
def Gls (sc : Scope) (x : Str) : Prop := sc.names.lookup x = some .globalImplicit
theorem Ok.gl {W : WX} {X : Cx} (ok : Ok F W X) {x : Str} (h : Gls F.scope x) : Gl X x := by
  show X.env.scope.names.lookup x = _
  rw [ok.sc]; exact h
/-- a module's constant, a class, a def -/
theorem je_glob {x : Str} {v : V} {u : Value} {d : D} (hg : Gls F.scope x) (hm : F.g.mg x = some u) (r : RelV v u) (dv : ∀ H m, DV F.g H m d v) (hd : (x == ("__debug__" : Str)) = false := by decide) : JE F (.Name x pos) (cC d) := by
  intro W X ok
  refine PE.imp (pe_glob (ok.gl hg) (by rw [ok.mg]; exact hm) r hd) ?_
  rintro σ H Q ⟨m, E, A, rh, rs, q⟩
  exact Po.ok q rh (dv H m)
/-- a built-in type as a value -/
theorem je_bty {x : Str} {n : String} (hg : Gls F.scope x) (hm : F.g.mg x = none) (hv : bootBuiltins x = some (.type n)) (hn : x ≠ "__name__" := by decide) (hd : (x == ("__debug__" : Str)) = false := by decide) : JE F (.Name x pos) (cC (.ty n)) := by
  intro W X ok
  refine PE.imp (pe_bltn (v := .ty n) (ok.gl hg) (by rw [ok.mg]; exact hm) hv rfl hn hd) ?_
  rintro σ H Q ⟨m, E, A, rh, rs, q⟩
  exact Po.ok q rh (.ty n)
/-! ### operations on two values -/
abbrev P2 := D → D → HA → R D
def Op2 (g : G) (r : R2) (p : P2) : Prop := ∀ (W : WX) (σ : St) (m : List Addr) (H : Hp) (A : HA) (d e : D) (x y : V) (Q : VK), RH g H m A → DV g H m d x → DV g H m e y → Po (rE g) g m H W σ (p d e A) Q → r x y H Q
def c2 (p : P2) (ca cb : CE) : CE := fun E A => (ca E A).bind fun d A1 => (cb E A1).bind fun e A2 => p d e A2
section
variable {a b c : Expr} {ca cb cc : CE} {p p' : P2} {r r' : R2}
theorem two {g : G} {W : WX} {σ : St} {H : Hp} {Q : VK} (hp : Op2 g r p) (h : TEx g W (c2 p ca cb) σ H Q) : TEx g W ca σ H fun x H1 => TEx g W cb σ H1 fun y H2 => r x y H2 Q := by
  obtain ⟨m, E, A, rh, rs, q⟩ := h
  refine ⟨m, E, A, rh, rs, Po.bind q fun m1 H1 d x A1 g1 rh1 dx q1 => ⟨m1, E, A1, rh1, rs.mono g1, Po.bind q1 fun m2 H2 e y A2 g2 rh2 dy q2 => hp W σ m2 H2 A2 d e x y Q rh2 (dx.mono g2) dy q2⟩⟩
theorem je_op {op : Operator} (ho : ∀ X : Cx, X.K = F.g.K → X.calm = true → Room F.k X.A → OpR X (binaryOp op) r) (hp : Op2 F.g r p) (ja : JE F a ca) (jb : JE F b cb) : JE F (.BinOp a op b pos) (c2 p ca cb) := by
  intro W X ok
  exact PE.imp (pe_op (ho X ok.K ok.calm ok.room) (ja W X ok) (jb W X ok)) fun σ H Q h => two hp h
theorem je_cmp {op : CmpOp} (ho : ∀ X : Cx, X.K = F.g.K → X.calm = true → Room F.k X.A → OpR X (compareOp op) r) (hp : Op2 F.g r p) (ja : JE F a ca) (jb : JE F b cb) (hm : behindInMarks op b = false) : JE F (.Compare a [op] [b] pos) (c2 p ca cb) := by
  intro W X ok
  exact PE.imp (pe_cmpR (ho X ok.K ok.calm ok.room) (ja W X ok) (jb W X ok) hm) fun σ H Q h => two hp h
def cChain (p p' : P2) (ca cb cc : CE) : CE := fun E A => (ca E A).bind fun d A1 => (cb E A1).bind fun e A2 => (p d e A2).bind fun t A3 => match t with
  | .bl true => (cc E A3).bind fun f A4 => p' e f A4
  | .bl false => .ok (.bl false) A3
  | _ => .no
theorem DV.bl_inv {g : G} {H : Hp} {m : List Addr} {b : Bool} {v : V} (h : DV g H m (.bl b) v) : v = .bl b := by cases h; rfl
theorem DV.int_inv {g : G} {H : Hp} {m : List Addr} {i : Int} {v : V} (h : DV g H m (.int i) v) : v = .int i := by cases h; rfl
theorem DV.str_inv {g : G} {H : Hp} {m : List Addr} {x : Str} {v : V} (h : DV g H m (.str x) v) : v = .str x := by cases h; rfl
theorem je_chain {op op' : CmpOp} (ho : ∀ X : Cx, X.K = F.g.K → X.calm = true → Room F.k X.A → OpR X (compareOp op) r) (ho' : ∀ X : Cx, X.K = F.g.K → X.calm = true → Room F.k X.A → OpR X (compareOp op') r') (hp : Op2 F.g r p) (hp' : Op2 F.g r' p')
    (ja : JE F a ca) (jb : JE F b cb) (jc : JE F c cc) (hm : lastMarks [op, op'] [b, c] = false := by with_unfolding_all rfl) : JE F (.Compare a [op, op'] [b, c] pos) (cChain p p' ca cb cc) := by
  intro W X ok
  refine PE.imp (pe_chain (ho X ok.K ok.calm ok.room) (ho' X ok.K ok.calm ok.room) (ja W X ok) (jb W X ok) (jc W X ok) hm) ?_
  rintro σ H Q ⟨m, E, A, rh, rs, q⟩
  refine ⟨m, E, A, rh, rs, Po.bind q fun m1 H1 d x A1 g1 rh1 dx q1 => ⟨m1, E, A1, rh1, rs.mono g1, Po.bind q1 fun m2 H2 e y A2 g2 rh2 dy q2 => ?_⟩⟩
  refine hp W σ m2 H2 A2 d e x y _ rh2 (dx.mono g2) dy (Po.bind q2 fun m3 H3 t z A3 g3 rh3 dz q3 => ?_)
  split at q3
  · have e3 := dz.bl_inv
    subst e3
    refine ⟨true, rfl, iteT ⟨m3, E, A3, rh3, rs.mono (g1.trans (g2.trans g3)), Po.bind q3 fun m4 H4 f w A4 g4 rh4 dw q4 => hp' W σ m4 H4 A4 e f y w _ rh4 (dy.mono (g3.trans g4)) dw q4⟩⟩
  · have e3 := dz.bl_inv
    subst e3
    exact ⟨false, rfl, iteF (Po.ok q3 rh3 (.bl false))⟩
  · exact q3.elim
end
/-! ### tests -/
def cB (c : CE) : CB := fun E A => (c E A).bind fun d A1 => match d with
  | .bl b => .ok b A1
  | _ => .no
section
variable {a b c e : Expr} {ca cb : CE} {ta tb tc : CB} {rest : List Expr}
theorem jb_val (h : JE F e ca) (he : ∀ (X : Cx) whole, isTrue e X.env whole = (do let v ← whole; standAt e.pos; holding [v] (truthy v)) := by intro _ _; rfl) : JB F e (cB ca) := by
  intro W X ok
  refine PT.imp (pt_val (h W X ok) (he X)) ?_
  rintro σ H Q ⟨m, E, A, rh, rs, q⟩
  refine ⟨m, E, A, rh, rs, Po.bind q fun m1 H1 d x A1 g1 rh1 dx q1 => ?_⟩
  split at q1
  · have e3 := DV.bl_inv dx
    subst e3
    exact ⟨_, rfl, Po.ok q1 rh1 rfl⟩
  · exact q1.elim
def JW (F : Sm.F) (e : Expr) (c : CB) : Prop := ∀ W X, Ok F W X → PW X e (TBx F.g W c)
theorem PW.imp {X : Cx} {e : Expr} {t t' : TT} (h : PW X e t) (k : ∀ σ H Q, t' σ H Q → t σ H Q) : PW X e t' := ⟨fun wh pins s σ H Q I q => h.run wh pins s σ H Q I (k σ H Q q)⟩
theorem jw_and1 (h : JB F a ta) : JW F (.BoolOp .And [a] pos) ta := fun W X ok => pw_and1 (h W X ok)
theorem jw_or1 (h : JB F a ta) : JW F (.BoolOp .Or [a] pos) ta := fun W X ok => pw_or1 (h W X ok)
def cAnd (ta tb : CB) : CB := fun E A => (ta E A).bind fun b A1 => if b = true then tb E A1 else .ok false A1
def cOr (ta tb : CB) : CB := fun E A => (ta E A).bind fun b A1 => if b = true then .ok true A1 else tb E A1
def cNot (ta : CB) : CB := fun E A => (ta E A).bind fun b A1 => .ok (!b) A1
theorem jw_and (ha : JB F a ta) (hb : JW F (.BoolOp .And (b :: rest) pos) tb) : JW F (.BoolOp .And (a :: b :: rest) pos) (cAnd ta tb) := by
  intro W X ok
  refine PW.imp (pw_and (ha W X ok) (hb W X ok)) ?_
  rintro σ H Q ⟨m, E, A, rh, rs, q⟩
  refine ⟨m, E, A, rh, rs, Po.bind q fun m1 H1 d x A1 g1 rh1 dx q1 => ?_⟩
  cases dx
  cases d
  · exact iteF (Po.ok q1 rh1 rfl)
  · exact iteT ⟨m1, E, A1, rh1, rs.mono g1, q1⟩
theorem jw_or (ha : JB F a ta) (hb : JW F (.BoolOp .Or (b :: rest) pos) tb) : JW F (.BoolOp .Or (a :: b :: rest) pos) (cOr ta tb) := by
  intro W X ok
  refine PW.imp (pw_or (ha W X ok) (hb W X ok)) ?_
  rintro σ H Q ⟨m, E, A, rh, rs, q⟩
  refine ⟨m, E, A, rh, rs, Po.bind q fun m1 H1 d x A1 g1 rh1 dx q1 => ?_⟩
  cases dx
  cases d
  · exact iteF ⟨m1, E, A1, rh1, rs.mono g1, q1⟩
  · exact iteT (Po.ok q1 rh1 rfl)
theorem jb_w (h : JW F e ta) : JB F e ta := fun W X ok => (h W X ok).pt
theorem jb_not (ha : JB F a ta) : JB F (.UnaryOp .Not a pos) (cNot ta) := by
  intro W X ok
  refine PT.imp (pt_not (ha W X ok)) ?_
  rintro σ H Q ⟨m, E, A, rh, rs, q⟩
  refine ⟨m, E, A, rh, rs, Po.bind q fun m1 H1 d x A1 g1 rh1 dx q1 => ?_⟩
  cases dx
  exact Po.ok q1 rh1 rfl
/-- .. as values: all but the last True or False -/
def cAndV (ca cb : CE) : CE := fun E A => (ca E A).bind fun d A1 => match d with
  | .bl true => cb E A1
  | .bl false => .ok (.bl false) A1
  | _ => .no
def cOrV (ca cb : CE) : CE := fun E A => (ca E A).bind fun d A1 => match d with
  | .bl true => .ok (.bl true) A1
  | .bl false => cb E A1
  | _ => .no
def cNotV (ca : CE) : CE := fun E A => (ca E A).bind fun d A1 => match d with
  | .bl b => .ok (.bl (!b)) A1
  | _ => .no
theorem je_one {op : BoolOp} (h : JE F a ca) : JE F (.BoolOp op [a] pos) ca := fun W X ok => pe_one (h W X ok)
theorem je_and (ha : JE F a ca) (hb : JE F (.BoolOp .And (b :: rest) pos) cb) : JE F (.BoolOp .And (a :: b :: rest) pos) (cAndV ca cb) := by
  intro W X ok
  refine PE.imp (pe_and (ha W X ok) (hb W X ok)) ?_
  rintro σ H Q ⟨m, E, A, rh, rs, q⟩
  refine ⟨m, E, A, rh, rs, Po.bind q fun m1 H1 d x A1 g1 rh1 dx q1 => ?_⟩
  split at q1
  · have e3 := DV.bl_inv dx
    subst e3
    exact ⟨_, rfl, iteT ⟨m1, E, A1, rh1, rs.mono g1, q1⟩⟩
  · have e3 := DV.bl_inv dx
    subst e3
    exact ⟨_, rfl, iteF (Po.ok q1 rh1 (.bl false))⟩
  · exact q1.elim
theorem je_or (ha : JE F a ca) (hb : JE F (.BoolOp .Or (b :: rest) pos) cb) : JE F (.BoolOp .Or (a :: b :: rest) pos) (cOrV ca cb) := by
  intro W X ok
  refine PE.imp (pe_or (ha W X ok) (hb W X ok)) ?_
  rintro σ H Q ⟨m, E, A, rh, rs, q⟩
  refine ⟨m, E, A, rh, rs, Po.bind q fun m1 H1 d x A1 g1 rh1 dx q1 => ?_⟩
  split at q1
  · have e3 := DV.bl_inv dx
    subst e3
    exact ⟨_, rfl, iteT (Po.ok q1 rh1 (.bl true))⟩
  · have e3 := DV.bl_inv dx
    subst e3
    exact ⟨_, rfl, iteF ⟨m1, E, A1, rh1, rs.mono g1, q1⟩⟩
  · exact q1.elim
theorem je_not (ha : JE F a ca) : JE F (.UnaryOp .Not a pos) (cNotV ca) := by
  intro W X ok
  refine PE.imp (pe_not (ha W X ok)) ?_
  rintro σ H Q ⟨m, E, A, rh, rs, q⟩
  refine ⟨m, E, A, rh, rs, Po.bind q fun m1 H1 d x A1 g1 rh1 dx q1 => ?_⟩
  split at q1
  · have e3 := DV.bl_inv dx
    subst e3
    exact ⟨_, rfl, Po.ok q1 rh1 (.bl _)⟩
  · exact q1.elim
def cIf (tc : CB) (ca cb : CE) : CE := fun E A => (tc E A).bind fun b A1 => if b = true then ca E A1 else cb E A1
theorem je_if (hc : JB F c tc) (ha : JE F a ca) (hb : JE F b cb) : JE F (.IfExp c a b pos) (cIf tc ca cb) := by
  intro W X ok
  refine PE.imp (pe_ifExp (hc W X ok) (ha W X ok) (hb W X ok)) ?_
  rintro σ H Q ⟨m, E, A, rh, rs, q⟩
  refine ⟨m, E, A, rh, rs, Po.bind q fun m1 H1 d x A1 g1 rh1 dx q1 => ?_⟩
  cases dx
  cases d
  · exact iteF ⟨m1, E, A1, rh1, rs.mono g1, q1⟩
  · exact iteT ⟨m1, E, A1, rh1, rs.mono g1, q1⟩
end
/-! ### argument lists, displays -/
def cNil : CA := fun _ A => .ok [] A
def cCons (ca : CE) (cr : CA) : CA := fun E A => (ca E A).bind fun d A1 => (cr E A1).bind fun ds A2 => .ok (d :: ds) A2
section
variable {e : Expr} {es : List Expr} {ca : CE} {cr : CA}
theorem ja_nil : JA F [] cNil := by
  intro W X ok
  refine PA.imp pa_nil ?_
  rintro σ H Q ⟨m, E, A, rh, rs, q⟩
  exact Po.ok q rh .nil
theorem ja_cons (ha : JE F e ca) (hr : JA F es cr) (hs : ∀ X : Cx, starEach (e :: es) X.env = (false, eval e X.env) :: starEach es X.env := by intro _; rfl) : JA F (e :: es) (cCons ca cr) := by
  intro W X ok
  refine PA.imp (pa_cons (ha W X ok) (hr W X ok) (hs X)) ?_
  rintro σ H Q ⟨m, E, A, rh, rs, q⟩
  refine ⟨m, E, A, rh, rs, Po.bind q fun m1 H1 d x A1 g1 rh1 dx q1 => ⟨m1, E, A1, rh1, rs.mono g1, Po.bind q1 fun m2 H2 ds xs A2 g2 rh2 dxs q2 => Po.ok q2 rh2 (.cons (dx.mono g2) dxs)⟩⟩
/-- the written length -/
def Len (cr : CA) (n : Nat) : Prop := ∀ E A ds h, cr E A = .ok ds h → ds.length = n
theorem len_nil : Len cNil 0 := by
  intro E A ds h e
  cases e; rfl
theorem len_cons {n : Nat} (h : Len cr n) : Len (cCons ca cr) (n + 1) := by
  intro E A ds h' e
  unfold cCons at e
  cases h1 : ca E A with
  | ok d A1 =>
    rw [h1] at e
    simp only [R.bind] at e
    cases h2 : cr E A1 with
    | ok ds' A2 =>
      rw [h2] at e
      simp only [R.ok.injEq] at e
      rw [← e.1, List.length_cons, h E A1 ds' A2 h2]
    | exc => rw [h2] at e; cases e
    | no => rw [h2] at e; cases e
  | exc => rw [h1] at e; cases e
  | no => rw [h1] at e; cases e
def cTup (cr : CA) : CE := fun E A => (cr E A).bind fun ds A1 => .ok (.tup ds) A1
def cLst (cr : CA) : CE := fun E A => (cr E A).bind fun ds A1 => .ok (.lst ds) A1
/-- a new list in the abstract heap -/
def cNewL (cr : CA) : CE := fun E A => (cr E A).bind fun ds A1 => .ok (.ref A1.length) (A1 ++ [.lst ds])
theorem Po.bindL {α' β' : Type} {ρ' : Rl α' β'} {g : G} {m : List Addr} {H : Hp} {W : WX} {σ : St} {E : SA} {A : HA} {n : Nat} {k : List D → HA → R α'} {Q : β' → Hp → Prop} {P : List V → Hp → Prop} (hn : Len cr n) (h : Po ρ' g m H W σ ((cr E A).bind k) Q)
    (nn : ∀ m1 H1 a b A1, Gr m m1 H H1 → RH g H1 m1 A1 → DVs g H1 m1 a b → b.length = n → Po ρ' g m1 H1 W σ (k a A1) Q → P b H1) : Po (rA g) g m H W σ (cr E A) P := by
  cases hc : cr E A with
  | ok d A1 =>
    rw [hc] at h
    exact fun m' v H' a r x => nn m' H' d v A1 a r x (by rw [← DVs.length x]; exact hn E A d A1 hc) (Po.from a h)
  | exc c' ds A1 => rw [hc] at h; exact h
  | no => rw [hc] at h; exact h
theorem je_tup {n : Nat} {x1 : Nat} (ha : JA F es cr) (hn : Len cr n) (hz : n ≤ sizeLine := by decide) : JE F (.Tuple es x1 pos) (cTup cr) := by
  intro W X ok
  refine PE.imp (pe_tup (ha W X ok)) ?_
  rintro σ H Q ⟨m, E, A, rh, rs, q⟩
  refine ⟨m, E, A, rh, rs, Po.bindL hn q fun m1 H1 ds xs A1 g1 rh1 dxs hl q1 => ⟨by rw [hl]; exact hz, fun p hp => ?_⟩⟩
  exact Po.ok' q1 (Gr.new hp) (rh1.upd hp) (.tup (.inl ⟨upd_same, rh1.new hp⟩) (dxs.mono (Gr.new hp)))
/-- a list is let stand as it is -/
theorem PE.frz {X : Cx} {t : TE} (h : PE X e t) : PE X e (fun σ H Q => t σ H fun v H' => ∃ p xs, v = .ref p ∧ H' p = some (.lst xs) ∧ ∀ o, Q v (upd H' p (.frz o (.lst xs)))) := by
  refine ⟨fun pins s σ H Q I q => thn (h.run pins s σ H _ I q) fun u s' ⟨v, H', I', r, p, xs, e1, e2, k⟩ => ?_⟩
  obtain ⟨od, I2⟩ := I'.lock e2 trivial
  exact ⟨v, _, I2, r, k od⟩
theorem Gr.frz {m : List Addr} {H : Hp} {p : Addr} {o : Obj} {u u' : HO} (h : H p = none) : upd (upd H p u) p u' = upd H p u' := upd_upd
theorem je_lst {n : Nat} (ha : JA F es cr) (hn : Len cr n) (hz : n ≤ sizeLine := by decide) : JE F (.List es pos) (cLst cr) := by
  intro W X ok
  refine PE.imp (PE.frz (pe_lst (ha W X ok))) ?_
  rintro σ H Q ⟨m, E, A, rh, rs, q⟩
  refine ⟨m, E, A, rh, rs, Po.bindL hn q fun m1 H1 ds xs A1 g1 rh1 dxs hl q1 => ⟨by rw [hl]; exact hz, fun p hp => ⟨p, xs, rfl, upd_same, fun o => ?_⟩⟩⟩
  rw [upd_upd]
  exact Po.ok' q1 (Gr.new hp) (rh1.upd hp) (.lst (.inl ⟨o, upd_same, rh1.new hp⟩) (dxs.mono (Gr.new hp)))
theorem RH.len {g : G} {H : Hp} {m : List Addr} {A : HA} (h : RH g H m A) : m.length = A.length := PySem.Paired.length h.at_
theorem je_newL {n : Nat} (ha : JA F es cr) (hn : Len cr n) (hz : n ≤ sizeLine := by decide) : JE F (.List es pos) (cNewL cr) := by
  intro W X ok
  refine PE.imp (pe_lst (ha W X ok)) ?_
  rintro σ H Q ⟨m, E, A, rh, rs, q⟩
  refine ⟨m, E, A, rh, rs, Po.bindL hn q fun m1 H1 ds xs A1 g1 rh1 dxs hl q1 => ⟨by rw [hl]; exact hz, fun p hp => ?_⟩⟩
  refine Po.ok' q1 (Gr.push hp) (rh1.push hp ⟨xs, upd_same, dxs.mono (Gr.push hp)⟩) (.ref ?_)
  rw [← rh1.len]; simp
end
/-! ### what may be read as a sequence -/
def seqOf (A : HA) : D → Option (List D)
  | .tup ds => some ds
  | .lst ds => some ds
  | .ref a => match A[a]? with
    | some (.lst ds) => some ds
    | _ => none
  | _ => none
theorem KTup.sq {K : PySem.W.Frag} {H : Hp} {p : Addr} {vs : List V} (h : KTup K p vs) : SqT K H p vs := .inr h
theorem KLst.sq {K : PySem.W.Frag} {H : Hp} {p : Addr} {vs : List V} (h : KLst K p vs) : SqL K H p vs := .inr h
theorem DV.tup_inv {g : G} {H : Hp} {m : List Addr} {ds : List D} {v : V} (h : DV g H m (.tup ds) v) : ∃ p vs, v = .ref p ∧ SqT g.K H p vs ∧ DVs g H m ds vs := by
  cases h with
  | tup h hs => exact ⟨_, _, rfl, h.elim (fun h => SqT.of h.1) (fun h => h.sq), hs⟩
theorem DV.lst_inv {g : G} {H : Hp} {m : List Addr} {ds : List D} {v : V} (h : DV g H m (.lst ds) v) : ∃ p vs, v = .ref p ∧ SqL g.K H p vs ∧ DVs g H m ds vs := by
  cases h with
  | lst h hs => exact ⟨_, _, rfl, h.elim (fun ⟨o, h, _⟩ => .inl (.inr ⟨o, h⟩)) (fun h => h.sq), hs⟩
theorem DV.ref_inv {g : G} {H : Hp} {m : List Addr} {a : Nat} {v : V} (h : DV g H m (.ref a) v) : ∃ p, v = .ref p ∧ m[a]? = some p := by
  cases h with
  | ref h => exact ⟨_, rfl, h⟩
theorem seq_rel {g : G} {H : Hp} {m : List Addr} {A : HA} {d : D} {x : V} {ds : List D} (rh : RH g H m A) (dx : DV g H m d x) (h : seqOf A d = some ds) :
    ∃ p vs, x = .ref p ∧ (SqL g.K H p vs ∨ SqT g.K H p vs) ∧ DVs g H m ds vs := by
  cases d with
  | tup es => cases h; obtain ⟨p, vs, e, s, r⟩ := dx.tup_inv; exact ⟨p, vs, e, .inr s, r⟩
  | lst es => cases h; obtain ⟨p, vs, e, s, r⟩ := dx.lst_inv; exact ⟨p, vs, e, .inl s, r⟩
  | ref a =>
    obtain ⟨p, e, hp⟩ := dx.ref_inv
    have h : (match A[a]? with | some (.lst ds) => some ds | _ => none : Option (List D)) = some ds := h
    split at h
    · rename_i es he
      cases h
      obtain ⟨q, hq, vs, h1, h2⟩ := rh.get he
      rw [hp] at hq; cases hq
      exact ⟨p, vs, e, .inl (SqL.of h1), h2⟩
    · cases h
  | _ => cases h
theorem DVs.atI {g : G} {H : Hp} {m : List Addr} {ds : List D} {vs : List V} {i : Int} {d : D} (r : DVs g H m ds vs) (h : atI ds i = some d) : ∃ v, atI vs i = some v ∧ DV g H m d v := by
  unfold L2.atI at h ⊢
  rw [← r.length]
  cases e : ixN ds.length i with
  | none => rw [e] at h; cases h
  | some j =>
    rw [e] at h
    exact r.get h
/-- xs[i] of a list or tuple -/
def pIx : P2 := fun d e A => match seqOf A d, e with
  | some ds, .int i => match atI ds i with
    | some x => .ok x A
    | none => .no
  | _, _ => .no
theorem op2_ix {g : G} : Op2 g (rIx g.K) pIx := by
  intro W σ m H A d e x y Q rh dx dy q
  unfold pIx at q
  split at q
  · rename_i ds i hs
    split at q
    · rename_i z hz
      obtain ⟨p, vs, rfl, s, r⟩ := seq_rel rh dx hs
      obtain ⟨v, hv, rv⟩ := r.atI hz
      have ey := dy.int_inv
      subst ey
      rcases s with s | s
      · exact .inl ⟨p, vs, i, v, rfl, rfl, s, hv, Po.ok q rh rv⟩
      · exact .inr (.inl ⟨p, vs, i, v, rfl, rfl, s, hv, Po.ok q rh rv⟩)
    · exact q.elim
  · exact q.elim
theorem je_ix {a b : Expr} {ca cb : CE} (ja : JE F a ca) (jb : JE F b cb) (hs : PlainIx b := by intro _ _; rfl) : JE F (.Subscript a b pos) (c2 pIx ca cb) := by
  intro W X ok
  have h := pe_ix (pos := pos) ix_seq (ja W X ok) (jb W X ok) hs
  rw [ok.K] at h
  exact PE.imp h fun σ H Q q => two op2_ix q
/-! ### ints -/
def pI (f : Int → Int → Int) (ok : Int → Int → Bool) : P2 := fun d e A => match d, e with
  | .int i, .int j => if ok i j = true then .ok (.int (f i j)) A else .no
  | _, _ => .no
def pIB (f : Int → Int → Bool) : P2 := fun d e A => match d, e with
  | .int i, .int j => .ok (.bl (f i j)) A
  | _, _ => .no
theorem op2_I {g : G} {C : Int → Int → Prop} {f : Int → Int → Int} {ok : Int → Int → Bool} (h : ∀ i j, ok i j = true → C i j) : Op2 g (rI C fun i j => .int (f i j)) (pI f ok) := by
  intro W σ m H A d e x y Q rh dx dy q
  unfold pI at q
  split at q
  · rename_i i j
    split at q
    · rename_i hk
      exact ⟨i, j, dx.int_inv, dy.int_inv, h i j hk, Po.ok q rh (.int _)⟩
    · exact q.elim
  · exact q.elim
theorem op2_I0 {g : G} {f : Int → Int → Int} : Op2 g (rI0 fun i j => .int (f i j)) (pI f fun _ _ => true) := by
  intro W σ m H A d e x y Q rh dx dy q
  unfold pI at q
  split at q
  · rename_i i j
    exact ⟨i, j, dx.int_inv, dy.int_inv, Po.ok q rh (.int _)⟩
  · exact q.elim
theorem op2_IB {g : G} {f : Int → Int → Bool} : Op2 g (rI0 fun i j => .bl (f i j)) (pIB f) := by
  intro W σ m H A d e x y Q rh dx dy q
  unfold pIB at q
  split at q
  · rename_i i j
    exact ⟨i, j, dx.int_inv, dy.int_inv, Po.ok q rh (.bl _)⟩
  · exact q.elim
end Sm

/-! Sm2: statements, targets, loops, comprehensions -/
namespace Sm
open PySem PySem.Spec PyProof.Rows L2

/-- a context of a def's own statements -/
structure OkS (F : F) (W : WX) (X : Cx) : Prop extends Ok F W X where
  fn : X.fn = fun _ => true
  hs : X.stack = X.env :: X.outer
  hf : X.env.frame = some X.env.locals
  ex : X.ex = []
  pass : PassesOwn (model X.prog X.w) X.A X.env X.xe
abbrev JS' (F : F) (s : Stmt) (c : CS) : Prop := ∀ W X, OkS F W X → PS X s (TSx F.g W c)
abbrev JL (F : F) (s : List Stmt) (c : CS) : Prop := ∀ W X, OkS F W X → PSs X s (TSx F.g W c)

variable {F : F} {pos : Pos}
theorem PoS.nx {g : G} {m : List Addr} {H : Hp} {W : WX} {E : SA} {A : HA} {D : Ends} {σ : St} (h : PoS g m H W (.nx E A) D) (rh : RH g H m A) (rs : RS g H m E σ) : D.nx σ H := h m σ H (Gr.refl _ _) rh rs
theorem PoS.rt {g : G} {m : List Addr} {H : Hp} {W : WX} {d : D} {A : HA} {D : Ends} {v : V} (h : PoS g m H W (.rt d A) D) (rh : RH g H m A) (rd : DV g H m d v) : D.rt v H := h m v H (Gr.refl _ _) rh rd
def cSkip : CS := fun E A => .nx E A
def cSeq (c c' : CS) : CS := fun E A => match c E A with
  | .nx E' A' => c' E' A'
  | r => r
def cBreak : CS := fun E A => .bk E A
def cCont : CS := fun E A => .ct E A
def cExpr (ce : CE) : CS := fun E A => RSt.of (ce E A) E fun _ A1 => .nx E A1
def cRet (ce : CE) : CS := fun E A => RSt.of (ce E A) E fun d A1 => .rt d A1
def cRetN : CS := fun _ A => .rt .non A
def cIfS (tb : CB) (c c' : CS) : CS := fun E A => RSt.of (tb E A) E fun b A1 => if b = true then c E A1 else c' E A1
def cSet (i : Nat) (ce : CE) : CS := fun E A => RSt.of (ce E A) E fun d A1 => .nx (E.set i (some d)) A1
section
variable {st : Stmt} {rest : List Stmt} {c c' : CS} {e : Expr} {ce : CE}
theorem jl_nil : JL F [] cSkip := by
  intro W X ok
  refine PSs.imp pss_nil ?_
  rintro D σ H ⟨m, E, A, rh, rs, q⟩
  exact q.nx rh rs
theorem jl_one (h : JS' F st c) : JL F [st] c := fun W X ok => pss_one (h W X ok)
theorem jl_cons (h : JS' F st c) (hr : JL F rest c') : JL F (st :: rest) (cSeq c c') := by
  intro W X ok
  refine PSs.imp (pss_cons (h W X ok) (hr W X ok)) ?_
  rintro D σ H ⟨m, E, A, rh, rs, q⟩
  refine ⟨m, E, A, rh, rs, ?_⟩
  unfold cSeq at q
  cases hc : c E A with
  | nx E' A' =>
    rw [hc] at q
    exact fun m' σ' H' a r r' => ⟨m', E', A', r, r', PoS.from a q⟩
  | rt => rw [hc] at q; exact q
  | bk => rw [hc] at q; exact q
  | ct => rw [hc] at q; exact q
  | exc => rw [hc] at q; exact q
  | no => rw [hc] at q; exact q
theorem js_pass : JS' F (.Pass pos) cSkip := by
  intro W X ok
  refine PS.imp ps_pass ?_
  rintro D σ H ⟨m, E, A, rh, rs, q⟩
  exact q.nx rh rs
theorem js_break : JS' F (.Break pos) cBreak := by
  intro W X ok
  refine PS.imp ps_break ?_
  rintro D σ H ⟨m, E, A, rh, rs, q⟩
  exact q m σ H (Gr.refl _ _) rh rs
theorem js_cont : JS' F (.Continue pos) cCont := by
  intro W X ok
  refine PS.imp ps_continue ?_
  rintro D σ H ⟨m, E, A, rh, rs, q⟩
  exact q m σ H (Gr.refl _ _) rh rs
theorem js_expr (he : JE F e ce) (hs : ∀ X : Cx, swapsWith e none pos.line X.env = pure false := by intro _; rfl) : JS' F (.Expr e pos) (cExpr ce) := by
  intro W X ok
  refine PS.imp (ps_expr (he W X ok.toOk) (hs X)) ?_
  rintro D σ H ⟨m, E, A, rh, rs, q⟩
  exact ⟨m, E, A, rh, rs, PoS.bind rs q fun m1 H1 d x A1 g1 rh1 dx q1 => q1.nx rh1 (rs.mono g1)⟩
theorem js_ret (he : JE F e ce) : JS' F (.Return (some e) pos) (cRet ce) := by
  intro W X ok
  refine PS.imp (ps_ret (he W X ok.toOk)) ?_
  rintro D σ H ⟨m, E, A, rh, rs, q⟩
  exact ⟨m, E, A, rh, rs, PoS.bind rs q fun m1 H1 d x A1 g1 rh1 dx q1 => q1.rt rh1 dx⟩
theorem js_retN : JS' F (.Return none pos) cRetN := by
  intro W X ok
  refine PS.imp ps_retN ?_
  rintro D σ H ⟨m, E, A, rh, rs, q⟩
  exact q.rt rh .non
theorem js_if {a b : List Stmt} {tb : CB} (hc : JB F e tb) (ha : JL F a c) (hb : JL F b c') : JS' F (.If e a b pos) (cIfS tb c c') := by
  intro W X ok
  refine PS.imp (ps_if (hc W X ok.toOk) (ha W X ok) (hb W X ok)) ?_
  rintro D σ H ⟨m, E, A, rh, rs, q⟩
  refine ⟨m, E, A, rh, rs, PoS.bind rs q fun m1 H1 d x A1 g1 rh1 dx q1 => ?_⟩
  cases dx
  cases d
  · exact iteF ⟨m1, E, A1, rh1, rs.mono g1, q1⟩
  · exact iteT ⟨m1, E, A1, rh1, rs.mono g1, q1⟩
theorem js_set {i : Nat} {x : Str} {pos' : Pos} (hi : F.N[i]? = some x) (hx : Loc F.scope x) (he : JE F e ce) (hs : ∀ X : Cx, swapsWith e (some (.Name x pos')) pos.line X.env = pure false := by intro _; rfl) : JS' F (.Assign [.Name x pos'] e pos) (cSet i ce) := by
  intro W X ok
  refine PS.imp (ps_set (i := i) (by rw [ok.N]; exact ok.nd) (by rw [ok.N]; exact hi) (by rw [ok.sc]; exact hx) (he W X ok.toOk) (hs X) (.inl (by rw [ok.fn]))) ?_
  rintro D σ H ⟨m, E, A, rh, rs, q⟩
  exact ⟨m, E, A, rh, rs, PoS.bind rs q fun m1 H1 d x A1 g1 rh1 dx q1 => q1.nx rh1 ((rs.mono g1).set i dx)⟩
end
/-! ### targets -/
abbrev CG := D → SA → HA → RSt
abbrev CGs := List D → SA → HA → RSt
/-- vs: the slots that it may store -/
def PoG (g : G) (m : List Addr) (H : Hp) (vs : List Nat) (σ : St) (r : RSt) (Q : St → Hp → Prop) : Prop := match r with
  | .nx E h => ∀ m' σ' H', Gr m m' H H' → RH g H' m' h → RS g H' m' E σ' → wipe σ' vs = wipe σ vs → Q σ' H'
  | _ => False
def TGx (g : G) (vs : List Nat) (c : CG) : TG := fun v σ H Q => ∃ m E A d, RH g H m A ∧ RS g H m E σ ∧ DV g H m d v ∧ PoG g m H vs σ (c d E A) Q
def TGsx (g : G) (vs : List Nat) (c : CGs) : TGs := fun us σ H Q => ∃ m E A ds, RH g H m A ∧ RS g H m E σ ∧ DVs g H m ds us ∧ PoG g m H vs σ (c ds E A) Q
/-- names that are cells may be stored -/
def FnC (F : Sm.F) (X : Cx) : Prop := (∀ x, X.fn x = true) ∨ ∀ x ∈ F.cl, X.fn x = true
def JG (F : Sm.F) (vs : List Nat) (tg : Expr) (c : CG) : Prop := ∀ W X, Ok F W X → FnC F X → PG X tg (TGx F.g vs c)
def JGs (F : Sm.F) (vs : List Nat) (tg : List Expr) (c : CGs) : Prop := ∀ W X, Ok F W X → FnC F X → PGs X tg (TGsx F.g vs c)
theorem PG.imp {X : Cx} {e : Expr} {t t' : TG} (h : PG X e t) (k : ∀ v σ H Q, t' v σ H Q → t v σ H Q) : PG X e t' := ⟨fun pins s σ H v u Q I r q => h.run pins s σ H v u Q I r (k v σ H Q q)⟩
theorem PGs.imp {X : Cx} {e : List Expr} {t t' : TGs} (h : PGs X e t) (k : ∀ v σ H Q, t' v σ H Q → t v σ H Q) : PGs X e t' := ⟨fun pins s σ H v u Q I r q => h.run pins s σ H v u Q I r (k v σ H Q q)⟩
theorem set_out {α : Type} {l : List α} {i j : Nat} {x : α} (h : i ≠ j) : (l.set i x)[j]? = l[j]? := List.getElem?_set_ne h
theorem wipe_set : ∀ {vs : List Nat} {σ : St} {i : Nat} {o : Option V}, i ∈ vs → wipe (σ.set i o) vs = wipe σ vs
  | v :: vs, σ, i, o, h => by
    show (wipe (σ.set i o) vs).set v none = (wipe σ vs).set v none
    by_cases hi : i ∈ vs
    · rw [wipe_set hi]
    · have e : i = v := (List.mem_cons.mp h).resolve_right hi
      subst e
      have q : ∀ (us : List Nat) (τ : St), i ∉ us → wipe (τ.set i o) us = (wipe τ us).set i o := by
        intro us
        induction us with
        | nil => intro τ _; rfl
        | cons u us ih =>
          intro τ hu
          rw [List.mem_cons, not_or] at hu
          show (wipe (τ.set i o) us).set u none = ((wipe τ us).set u none).set i o
          rw [ih τ hu.2, List.set_comm _ _ hu.1]
      rw [q vs σ hi, List.set_set]
def gSetN (i : Nat) : CG := fun d E A => .nx (E.set i (some d)) A
theorem jg_name {i : Nat} {x : Str} {vs : List Nat} (hi : F.N[i]? = some x) (hx : F.scope.names.lookup x = some .local ∨ (F.scope.names.lookup x = some .cell ∧ x ∈ F.cl)) (hv : i ∈ vs := by decide) : JG F vs (.Name x pos) (gSetN i) := by
  intro W X ok fc
  refine PG.imp (pg_name (i := i) (by rw [ok.N]; exact ok.nd) (by rw [ok.N]; exact hi) (by rw [ok.sc]; exact hx.imp id (·.1)) ?_) ?_
  · rcases hx with h | h
    · exact .inr (by rw [ok.sc]; exact h)
    · exact .inl (fc.elim (fun f => f x) fun f => f x h.2)
  · rintro v σ H Q ⟨m, E, A, d, rh, rs, dx, q⟩
    exact q m _ H (Gr.refl _ _) rh (rs.set i dx) (wipe_set hv)
def gsNil : CGs := fun ds E A => match ds with
  | [] => .nx E A
  | _ => .no
def gsCons (c : CG) (cs : CGs) : CGs := fun ds E A => match ds with
  | d :: r => match c d E A with
    | .nx E1 A1 => cs r E1 A1
    | _ => .no
  | _ => .no
theorem jgs_nil {vs : List Nat} : JGs F vs [] gsNil := by
  intro W X ok fc
  refine PGs.imp pgs_nil ?_
  rintro us σ H Q ⟨m, E, A, ds, rh, rs, dx, q⟩
  cases dx with
  | nil => exact ⟨rfl, q m σ H (Gr.refl _ _) rh rs rfl⟩
  | cons => exact q.elim
theorem jgs_cons {e : Expr} {es : List Expr} {c : CG} {cs : CGs} {vs : List Nat} (h : JG F vs e c) (hr : JGs F vs es cs)
    (hs : ∀ X : Cx, (assignEach (e :: es) X.env).map (·.2) = assign e X.env :: (assignEach es X.env).map (·.2) := by intro _; rfl) : JGs F vs (e :: es) (gsCons c cs) := by
  intro W X ok fc
  refine PGs.imp (pgs_cons (h W X ok fc) (hr W X ok fc) (hs X)) ?_
  rintro us σ H Q ⟨m, E, A, ds, rh, rs, dx, q⟩
  cases dx with
  | nil => exact q.elim
  | cons d1 d2 =>
    rename_i d v ds' us'
    refine ⟨v, us', rfl, m, E, A, d, rh, rs, d1, ?_⟩
    have q : PoG F.g m H vs σ (match c d E A with | .nx E1 A1 => cs ds' E1 A1 | _ => .no) Q := q
    cases hc : c d E A with
    | nx E1 A1 =>
      rw [hc] at q
      refine fun m1 σ1 H1 a r r' hw => ⟨m1, E1, A1, ds', r, r', d2.mono a, ?_⟩
      have q : PoG F.g m H vs σ (cs ds' E1 A1) Q := q
      cases hq : cs ds' E1 A1 with
      | nx E2 A2 =>
        rw [hq] at q
        exact fun m2 σ2 H2 a' r2 r2' hw' => q m2 σ2 H2 (a.trans a') r2 r2' (hw'.trans hw)
      | _ => rw [hq] at q; exact q.elim
    | _ => rw [hc] at q; exact q.elim
/-- (a, b, ..) = a tuple of that length -/
def gTupN (n : Nat) (cs : CGs) : CG := fun d E A => match d with
  | .tup ds => if ds.length = n then cs ds E A else .no
  | _ => .no
theorem jg_tup {es : List Expr} {k n : Nat} {cs : CGs} {vs : List Nat} (h : JGs F vs es cs)
    (hn : ∀ X : Cx, (assignEach es X.env).length = n := by intro _; rfl) (hst : ∀ X : Cx, (assignEach es X.env).findIdx? (·.1) = none := by intro _; rfl) : JG F vs (.Tuple es k pos) (gTupN n cs) := by
  intro W X ok fc
  have h0 := pg_tup (pos := pos) (k := k) ok.calm (h W X ok fc) (hn X) (hst X)
  rw [ok.K] at h0
  refine PG.imp h0 ?_
  rintro v σ H Q ⟨m, E, A, d, rh, rs, dx, q⟩
  unfold gTupN at q
  split at q
  · split at q
    · rename_i ds hl
      obtain ⟨p, us, rfl, s, r⟩ := dx.tup_inv
      exact ⟨p, us, rfl, s, by rw [← r.length]; exact hl, m, E, A, ds, rh, rs, r, q⟩
    · exact q.elim
  · exact q.elim
/-- target = value -/
def RSt.nxOnly (r : RSt) : RSt := match r with
  | .nx E A => .nx E A
  | _ => .no
def cAsg (ce : CE) (cg : CG) : CS := fun E A => RSt.of (ce E A) E fun d A1 => (cg d E A1).nxOnly
theorem OkS.fc {W : WX} {X : Cx} (ok : OkS F W X) : FnC F X := .inl fun x => by rw [ok.fn]
/-- a name that a def's own statements store -/
theorem jg_own {i : Nat} {x : Str} {vs : List Nat} (hi : F.N[i]? = some x) (hx : Loc F.scope x) (hv : i ∈ vs := by decide) : ∀ W X, Ok F W X → (∀ x, X.fn x = true) → PG X (.Name x pos) (TGx F.g vs (gSetN i)) := by
  intro W X ok fc
  refine PG.imp (pg_name (i := i) (by rw [ok.N]; exact ok.nd) (by rw [ok.N]; exact hi) (by rw [ok.sc]; exact hx) (.inl (fc x))) ?_
  rintro v σ H Q ⟨m, E, A, d, rh, rs, dx, q⟩
  exact q m _ H (Gr.refl _ _) rh (rs.set i dx) (wipe_set hv)
theorem js_asg {tg e : Expr} {ce : CE} {cg : CG} {vs : List Nat} (he : JE F e ce) (hg : JG F vs tg cg) (hs : ∀ X : Cx, swapsWithSole [tg] e pos.line X.env = pure false := by intro _; rfl) (hw : ∀ X : Cx, swappedStores [tg] e X.env = pure none := by intro _; rfl)
    (h1 : ∀ X : Cx, (assignEach [tg] X.env).map (·.2) = [assign tg X.env] := by intro _; rfl) : JS' F (.Assign [tg] e pos) (cAsg ce cg) := by
  intro W X ok
  refine PS.imp (ps_asg (he W X ok.toOk) (hg W X ok.toOk ok.fc) (hs X) (hw X) (h1 X)) ?_
  rintro D σ H ⟨m, E, A, rh, rs, q⟩
  refine ⟨m, E, A, rh, rs, PoS.bind rs q fun m1 H1 d x A1 g1 rh1 dx q1 => ⟨m1, E, A1, d, rh1, rs.mono g1, dx, ?_⟩⟩
  cases hc : cg d E A1 with
  | nx E2 A2 =>
    rw [hc] at q1
    exact fun m2 σ2 H2 a r r' _ => q1 m2 σ2 H2 a r r'
  | _ => rw [hc] at q1; exact q1.elim
end Sm

/-! Sm3: what is walked, for, while, list comprehensions -/
namespace Sm
open PySem PySem.Spec PyProof.Rows L2
variable {F : F} {pos : Pos}

/-- what is walked: items, or a list of the abstract heap that keeps its length -/
inductive IT where
  | fix (ds : List D)
  | live (a n : Nat)
  deriving Inhabited
def itemAt (it : IT) (i : Nat) (A : HA) : Option (Option D) := match it with
  | .fix ds => some ds[i]?
  | .live a n => match A[a]? with
    | some (.lst ds) => if ds.length = n then some ds[i]? else none
    | _ => none
def IT.size : IT → Nat
  | .fix ds => ds.length
  | .live _ n => n
abbrev CI := SA → HA → R IT
def WkR (g : G) : Rl IT It := fun H0 m0 it J => ∀ i m H A, GrW m0 m H0 H → RH g H m A → ∀ o, itemAt it i A = some o → match o with
  | some d => J.go i H ∧ ∀ x H', J.yld i H x H' → (∀ p u, H p = some u → H' p = some u) ∧ Gr m m H H' ∧ DV g H' m d x
  | none => J.stop i H
def SzOk (K : PySem.W.Frag) (H : Hp) : Prop := ∀ a xs, (SqT K H a xs ∨ SqL K H a xs) → xs.length ≤ sizeLine
abbrev rI (g : G) : Rl IT It := fun H m it J => WkR g H m it J ∧ (SzOk g.K H → it.size ≤ sizeLine)
abbrev TIx (g : G) (W : WX) (c : CI) : TI := Tx (rI g) g W c
def JI (F : Sm.F) (tg e : Expr) (c : CI) : Prop := ∀ W X, Ok F W X → PI X tg e (TIx F.g W c)
theorem PI.imp {X : Cx} {tg e : Expr} {t t' : TI} (h : PI X tg e t) (k : ∀ σ H Q, t' σ H Q → t σ H Q) : PI X tg e t' := ⟨fun pins s σ H Q I q => h.run pins s σ H Q I (k σ H Q q)⟩
theorem PI.or {X : Cx} {tg e : Expr} {t t' : TI} (h : PI X tg e t) (h' : PI X tg e t') : PI X tg e (fun σ H R => t σ H R ∨ t' σ H R) :=
  ⟨fun pins s σ H Q I q => q.elim (fun q => h.run pins s σ H Q I q) (fun q => h'.run pins s σ H Q I q)⟩
/-- what is read as a list or tuple has its largest length -/
theorem Inv.szOk {X : Cx} {pins : List (Addr × Obj)} {σ : St} {H : Hp} {s : Shared} (I : Inv X pins σ H s) : SzOk X.K H := fun a xs h => h.elim (fun h => (I.tuple h).choose_spec.2.2) (fun h => (I.list h).choose_spec.2.2)
theorem PI.sz {X : Cx} {tg e : Expr} {t : TI} (h : PI X tg e t) : PI X tg e (fun σ H R => t σ H fun J H' => SzOk X.K H' → R J H') :=
  ⟨fun pins s σ H Q I q => thn (h.run pins s σ H _ I q) fun v s1 h1 => thn h1 fun itv s2 ⟨it, fp, tn, J, H', e, I', T, t0, f, r⟩ => ⟨it, fp, tn, J, H', e, I', T, t0, f, r (Inv.szOk I')⟩⟩
theorem SqT.gr {g : G} {H H' : Hp} {m m' : List Addr} {p : Addr} {vs : List V} (a : GrW m m' H H') (h : (H p = some (.tup vs) ∧ p ∉ m) ∨ KTup g.K p vs) : SqT g.K H' p vs := h.elim (fun h => SqT.of (a.keep _ _ h.1 h.2)) fun h => h.sq
theorem SqL.gr {g : G} {H H' : Hp} {m m' : List Addr} {p : Addr} {vs : List V} (a : GrW m m' H H') (h : (∃ o, H p = some (.frz o (.lst vs)) ∧ p ∉ m) ∨ KLst g.K p vs) : SqL g.K H' p vs := h.elim (fun ⟨o, h1, h2⟩ => .inl (.inr ⟨o, a.keep _ _ h1 h2⟩)) fun h => h.sq
theorem wk_tup {g : G} {H : Hp} {m : List Addr} {ds : List D} {vs : List V} {p : Addr} (h : (H p = some (.tup vs) ∧ p ∉ m) ∨ KTup g.K p vs) (r : DVs g H m ds vs) : rI g H m (.fix ds) (Itt g.K p) := by
  refine ⟨?_, fun z => by rw [show (IT.fix ds).size = ds.length from rfl, r.length]; exact z p vs (.inl (SqT.gr (Gr.refl _ _).w h))⟩
  intro i m1 H1 A a rh o e
  have e : some ds[i]? = some o := e
  cases e
  have s := SqT.gr a h
  have r1 := r.monoW a
  cases hd : ds[i]? with
  | none => exact ⟨vs, s, by rw [← r.length]; exact List.getElem?_eq_none_iff.mp hd⟩
  | some d =>
    obtain ⟨v, hv, dv⟩ := r1.get hd
    refine ⟨⟨vs, v, s, hv⟩, fun x H' y => ?_⟩
    obtain ⟨rfl, y⟩ := y
    have := y vs s
    rw [hv] at this; cases this
    exact ⟨fun _ _ h => h, Gr.refl _ _, dv⟩
theorem wk_lst {g : G} {H : Hp} {m : List Addr} {ds : List D} {vs : List V} {p : Addr} (h : (∃ o, H p = some (.frz o (.lst vs)) ∧ p ∉ m) ∨ KLst g.K p vs) (r : DVs g H m ds vs) : rI g H m (.fix ds) (Itl g.K p) := by
  refine ⟨?_, fun z => by rw [show (IT.fix ds).size = ds.length from rfl, r.length]; exact z p vs (.inr (SqL.gr (Gr.refl _ _).w h))⟩
  intro i m1 H1 A a rh o e
  have e : some ds[i]? = some o := e
  cases e
  have s := SqL.gr a h
  have r1 := r.monoW a
  cases hd : ds[i]? with
  | none => exact ⟨vs, s, by rw [← r.length]; exact List.getElem?_eq_none_iff.mp hd⟩
  | some d =>
    obtain ⟨v, hv, dv⟩ := r1.get hd
    refine ⟨⟨vs, v, s, hv⟩, fun x H' y => ?_⟩
    obtain ⟨rfl, y⟩ := y
    have := y vs s
    rw [hv] at this; cases this
    exact ⟨fun _ _ h => h, Gr.refl _ _, dv⟩
theorem wk_ref {g : G} {H : Hp} {m : List Addr} {a n : Nat} {p : Addr} (h : m[a]? = some p) (hz : SzOk g.K H → n ≤ sizeLine) : rI g H m (.live a n) (Itl g.K p) := by
  refine ⟨?_, hz⟩
  intro i m1 H1 A gr rh o e
  unfold itemAt at e
  split at e
  · cases ‹IT.live a n = _›
  · rename_i a' n' ei
    cases ei
    split at e
    · rename_i ds hd
      split at e
      · cases e
        obtain ⟨q, hq, vs, h1, h2⟩ := rh.get hd
        rw [gr.get h] at hq; cases hq
        have s : SqL g.K H1 p vs := SqL.of h1
        cases hi : ds[i]? with
        | none => exact ⟨vs, s, by rw [← h2.length]; exact List.getElem?_eq_none_iff.mp hi⟩
        | some d =>
          obtain ⟨v, hv, dv⟩ := h2.get hi
          refine ⟨⟨vs, v, s, hv⟩, fun x H' y => ?_⟩
          obtain ⟨rfl, y⟩ := y
          have := y vs s
          rw [hv] at this; cases this
          exact ⟨fun _ _ h => h, Gr.refl _ _, dv⟩
      · cases e
    · cases e
def iSeq (ce : CE) : CI := fun E A => (ce E A).bind fun d A1 => match d with
  | .tup ds => .ok (.fix ds) A1
  | .lst ds => .ok (.fix ds) A1
  | .ref a => match A1[a]? with
    | some (.lst ds) => .ok (.live a ds.length) A1
    | _ => .no
  | _ => .no
theorem ji_seq {tg e : Expr} {ce : CE} (he : JE F e ce) : JI F tg e (iSeq ce) := by
  intro W X ok
  have h := PI.or (pi_list (tg := tg) (he W X ok)) (pi_tup (tg := tg) (he W X ok))
  rw [ok.K] at h
  refine PI.imp h ?_
  rintro σ H Q ⟨m, E, A, rh, rs, q⟩
  unfold iSeq at q
  cases hc : ce E A with
  | ok d A1 =>
    simp only [hc, R.bind] at q
    split at q
    · refine .inr ⟨m, E, A, rh, rs, ?_⟩
      rw [hc]
      intro m1 v H1 a r dv
      cases dv with
      | tup h hs => exact ⟨_, rfl, ⟨_, SqT.gr (Gr.refl _ _).w h⟩, q m1 _ H1 a r (wk_tup h hs)⟩
    · refine .inl ⟨m, E, A, rh, rs, ?_⟩
      rw [hc]
      intro m1 v H1 a r dv
      cases dv with
      | lst h hs => exact ⟨_, rfl, ⟨_, SqL.gr (Gr.refl _ _).w h⟩, q m1 _ H1 a r (wk_lst h hs)⟩
    · split at q
      · rename_i a ds hd
        refine .inl ⟨m, E, A, rh, rs, ?_⟩
        rw [hc]
        intro m1 v H1 gr r dv
        obtain ⟨p, rfl, hp⟩ := dv.ref_inv
        obtain ⟨p', hp', vs, h1, h2⟩ := r.get hd
        rw [hp] at hp'; cases hp'
        exact ⟨p, rfl, ⟨vs, SqL.of h1⟩, q m1 _ H1 gr r (wk_ref hp fun z => by rw [h2.length]; exact z p vs (.inr (SqL.of h1)))⟩
      · exact q.elim
    · exact q.elim
  | exc => rw [hc] at q; exact .inl ⟨m, E, A, rh, rs, by rw [hc]; exact q⟩
  | no => rw [hc] at q; exact q.elim
/-! ### ranges -/
def intsD (lo : Int) (n : Nat) : List D := (List.range n).map fun i => .int (lo + (i : Nat))
theorem wk_rng {g : G} {H : Hp} {m : List Addr} {lo : Int} {n : Nat} (hn : n ≤ sizeLine) : rI g H m (.fix (intsD lo n)) (Itr lo n) := by
  refine ⟨?_, fun _ => by show (intsD lo n).length ≤ sizeLine; unfold intsD; simpa using hn⟩
  intro i m1 H1 A a rh o e
  have e : some (intsD lo n)[i]? = some o := e
  cases e
  unfold intsD
  rw [List.getElem?_map]
  by_cases hi : i < n
  · rw [List.getElem?_range hi]
    refine ⟨hi, fun x H' y => ?_⟩
    obtain ⟨rfl, rfl⟩ := y
    exact ⟨fun _ _ h => h, Gr.refl _ _, .int _⟩
  · rw [List.getElem?_eq_none (by simpa using hi)]
    exact Nat.le_of_not_lt hi
def iRng1 (ca : CA) : CI := fun E A => (ca E A).bind fun ds A1 => match ds with
  | [.int j] => if -(2 ^ 62) ≤ j ∧ j < 2 ^ 62 ∧ j.toNat ≤ sizeLine then .ok (.fix (intsD 0 j.toNat)) A1 else .no
  | _ => .no
def iRng2 (ca : CA) : CI := fun E A => (ca E A).bind fun ds A1 => match ds with
  | [.int i, .int j] => if -(2 ^ 62) ≤ i ∧ i < 2 ^ 62 ∧ -(2 ^ 62) ≤ j ∧ j < 2 ^ 62 ∧ (j - i).toNat ≤ sizeLine then .ok (.fix (intsD i (j - i).toNat)) A1 else .no
  | _ => .no
theorem DVs.one {g : G} {H : Hp} {m : List Addr} {d : D} {vs : List V} (h : DVs g H m [d] vs) : ∃ v, vs = [v] ∧ DV g H m d v := by
  cases h with
  | cons h hs => cases hs; exact ⟨_, rfl, h⟩
theorem DVs.two {g : G} {H : Hp} {m : List Addr} {d e : D} {vs : List V} (h : DVs g H m [d, e] vs) : ∃ v w, vs = [v, w] ∧ DV g H m d v ∧ DV g H m e w := by
  cases h with
  | cons h hs =>
    obtain ⟨w, rfl, k⟩ := hs.one
    exact ⟨_, w, rfl, h, k⟩
theorem ji_rng1 {tg a : Expr} {ca : CA} {p : Pos} (hg : Gls F.scope "range") (hm : F.g.mg "range" = none) (ha : JA F [a] ca) (hs : ∀ X : Cx, starEach [a] X.env = [(false, eval a X.env)] := by intro _; rfl) : JI F tg (.Call (.Name "range" p) [a] [] pos) (iRng1 ca) := by
  intro W X ok
  refine PI.imp (pi_range1 (ok.gl hg) (by rw [ok.mg]; exact hm) (ha W X ok) (hs X)) ?_
  rintro σ H Q ⟨m, E, A, rh, rs, q⟩
  refine ⟨m, E, A, rh, rs, Po.bind q fun m1 H1 ds vs A1 g1 rh1 dx q1 => ?_⟩
  split at q1
  · split at q1
    · rename_i j hj
      obtain ⟨v, rfl, dv⟩ := DVs.one dx
      have := dv.int_inv
      subst this
      exact ⟨j, rfl, hj.1, hj.2.1, Po.ok q1 rh1 (wk_rng hj.2.2)⟩
    · exact q1.elim
  · exact q1.elim
theorem ji_rng2 {tg a b : Expr} {ca : CA} {p : Pos} (hg : Gls F.scope "range") (hm : F.g.mg "range" = none) (ha : JA F [a, b] ca) (hs : ∀ X : Cx, starEach [a, b] X.env = [(false, eval a X.env), (false, eval b X.env)] := by intro _; rfl)
    (hs2 : ∀ X : Cx, starEach [b] X.env = [(false, eval b X.env)] := by intro _; rfl) : JI F tg (.Call (.Name "range" p) [a, b] [] pos) (iRng2 ca) := by
  intro W X ok
  refine PI.imp (pi_range2 (ok.gl hg) (by rw [ok.mg]; exact hm) (ha W X ok) (hs X) (hs2 X)) ?_
  rintro σ H Q ⟨m, E, A, rh, rs, q⟩
  refine ⟨m, E, A, rh, rs, Po.bind q fun m1 H1 ds vs A1 g1 rh1 dx q1 => ?_⟩
  split at q1
  · split at q1
    · rename_i i j hj
      obtain ⟨v, w, rfl, dv, dw⟩ := DVs.two dx
      have := dv.int_inv
      subst this
      have := dw.int_inv
      subst this
      exact ⟨i, j, rfl, ⟨hj.1, hj.2.1, hj.2.2.1, hj.2.2.2.1⟩, Po.ok q1 rh1 (wk_rng hj.2.2.2.2)⟩
    · exact q1.elim
  · exact q1.elim
/-! ### for -/
def forN (it : IT) (cg : CG) (body : CS) : Nat → Nat → SA → HA → RSt
  | 0, _, _, _ => .no
  | k + 1, i, E, A => match itemAt it i A with
    | none => .no
    | some none => .nx E A
    | some (some d) => match cg d E A with
      | .nx E1 A1 => match body E1 A1 with
        | .nx E2 A2 => forN it cg body k (i + 1) E2 A2
        | .ct E2 A2 => forN it cg body k (i + 1) E2 A2
        | .bk E2 A2 => .nx E2 A2
        | r => r
      | _ => .no
def forL (cg : CG) (body : CS) : List D → SA → HA → RSt
  | [], E, A => .nx E A
  | d :: ds, E, A => match cg d E A with
      | .nx E1 A1 => match body E1 A1 with
        | .nx E2 A2 => forL cg body ds E2 A2
        | .ct E2 A2 => forL cg body ds E2 A2
        | .bk E2 A2 => .nx E2 A2
        | r => r
      | _ => .no
theorem forN_fix {cg : CG} {body : CS} {ds : List D} : ∀ (k i : Nat) (E : SA) (A : HA), k + i = ds.length → forN (.fix ds) cg body (k + 1) i E A = forL cg body (ds.drop i) E A
  | 0, i, E, A, h => by
    have e : ds[i]? = none := List.getElem?_eq_none (by omega)
    rw [List.drop_eq_nil_of_le (by omega)]
    unfold forN forL itemAt
    simp only [e]
  | k + 1, i, E, A, h => by
    have hi : i < ds.length := by omega
    have e : ds[i]? = some ds[i] := List.getElem?_eq_getElem hi
    rw [List.drop_eq_getElem_cons hi]
    have ih := fun E A => forN_fix (cg := cg) (body := body) (ds := ds) k (i + 1) E A (by omega)
    rw [show forN (.fix ds) cg body (k + 1 + 1) i E A = (match cg ds[i] E A with
      | .nx E1 A1 => match body E1 A1 with
        | .nx E2 A2 => forN (.fix ds) cg body (k + 1) (i + 1) E2 A2
        | .ct E2 A2 => forN (.fix ds) cg body (k + 1) (i + 1) E2 A2
        | .bk E2 A2 => .nx E2 A2
        | r => r
      | _ => .no) from by rw [forN]; unfold itemAt; simp only [e]]
    simp only [ih]
    rfl
def cFor (ci : CI) (cg : CG) (body : CS) : CS := fun E A => RSt.of (ci E A) E fun it A1 => match it with
  | .fix ds => forL cg body ds E A1
  | it => forN it cg body (it.size + 1) 0 E A1
theorem cFor_eq (ci : CI) (cg : CG) (body : CS) (E : SA) (A : HA) : cFor ci cg body E A = RSt.of (ci E A) E fun it A1 => forN it cg body (it.size + 1) 0 E A1 := by
  unfold cFor
  congr 1
  funext it A1
  cases it with
  | fix ds => exact (forN_fix ds.length 0 E A1 (by omega)).symm
  | live a n => rfl
theorem js_for {tg iter : Expr} {body : List Stmt} {ci : CI} {cg : CG} {cb : CS} {vs : List Nat} (hi : JI F tg iter ci) (hg : JG F vs tg cg) (hb : JL F body cb) (hs : ∀ (X : Cx) x, foldedSetIterable iter X.env x = pure x := by intro _ _; rfl) :
    JS' F (.For tg iter body [] pos) (cFor ci cg cb) := by
  intro W X ok
  refine PS.imp (ps_for ok.pass ok.calm (hi W X ok.toOk) (hg W X ok.toOk ok.fc) (hb W X ok) (hs X)) ?_
  rintro D σ H ⟨m, E, A, rh, rs, q⟩
  rw [cFor_eq] at q
  refine ⟨m, E, A, rh, rs, PoS.bind rs q fun m1 H1 it J A1 g1 rh1 wk q1 => ?_⟩
  refine ⟨fun i k σ H => ∃ m E A, Gr m1 m H1 H ∧ RH F.g H m A ∧ RS F.g H m E σ ∧ PoS F.g m H W (forN it cg cb k i E A) D, ⟨it.size + 1, m1, E, A1, Gr.refl _ _, rh1, rs.mono g1, q1⟩, ?_⟩
  rintro i k σ2 H2 ⟨m2, E2, A2, g2, rh2, rs2, q2⟩
  cases k with
  | zero => exact q2.elim
  | succ k =>
    unfold forN at q2
    cases hit : itemAt it i A2 with
    | none => simp only [hit] at q2; exact q2.elim
    | some o =>
      have wk2 := wk.1 i m2 H2 A2 g2.w rh2 o hit
      cases o with
      | none =>
        simp only [hit] at q2
        exact .inl ⟨wk2, q2.nx rh2 rs2⟩
      | some d =>
        simp only [hit] at q2
        obtain ⟨go, yl⟩ := wk2
        refine .inr ⟨go, fun σ' H' => ∃ m E A, Gr m1 m H1 H' ∧ RH F.g H' m A ∧ RS F.g H' m E σ' ∧ PoS F.g m H' W (forN it cg cb k (i + 1) E A) D, fun σ' H' n => ⟨k, Nat.lt_succ_self _, n⟩, fun x H3 y => ?_⟩
        obtain ⟨k3, g3, dv⟩ := yl x H3 y
        refine ⟨m2, E2, A2, d, rh2.grow g3 k3, rs2.mono g3, dv, ?_⟩
        cases hcg : cg d E2 A2 with
        | nx E4 A4 =>
          simp only [hcg] at q2
          refine fun m4 σ4 H4 g4 rh4 rs4 _ => ⟨m4, E4, A4, rh4, rs4, ?_⟩
          have q4 := PoS.from (g3.trans g4) q2
          cases hb4 : cb E4 A4 with
          | nx E5 A5 =>
            simp only [hb4] at q4
            exact fun m5 σ5 H5 g5 rh5 rs5 => ⟨m5, E5, A5, g2.trans (g3.trans (g4.trans g5)), rh5, rs5, PoS.from g5 q4⟩
          | ct E5 A5 =>
            simp only [hb4] at q4
            exact fun m5 σ5 H5 g5 rh5 rs5 => ⟨m5, E5, A5, g2.trans (g3.trans (g4.trans g5)), rh5, rs5, PoS.from g5 q4⟩
          | bk E5 A5 =>
            simp only [hb4] at q4
            exact fun m5 σ5 H5 g5 rh5 rs5 => q4 m5 σ5 H5 g5 rh5 rs5
          | rt => simp only [hb4] at q4; exact q4
          | exc => simp only [hb4] at q4; exact q4
          | no => simp only [hb4] at q4; exact q4
        | _ => simp only [hcg] at q2; exact q2.elim
/-! ### list comprehensions -/
def wipeA (E : SA) : List Nat → SA
  | [] => E
  | v :: vs => (wipeA E vs).set v none
theorem RS.unset {g : G} {H : Hp} {m : List Addr} {E : SA} {σ : St} (h : RS g H m E σ) (i : Nat) : RS g H m (E.set i none) (σ.set i none) := by
  refine ⟨by simp [h.len], fun j e hj => ?_⟩
  by_cases hij : i = j
  · subst hij
    by_cases hl : i < E.length
    · rw [List.getElem?_set_self hl] at hj; cases hj
    · rw [List.getElem?_eq_none (by simp; omega)] at hj; cases hj
  · rw [List.getElem?_set_ne hij] at hj
    obtain ⟨w, h1, h2⟩ := h.at_ j e hj
    exact ⟨w, by rw [List.getElem?_set_ne hij]; exact h1, h2⟩
theorem RS.wipe {g : G} {H : Hp} {m : List Addr} {E : SA} {σ : St} (h : RS g H m E σ) : ∀ vs : List Nat, RS g H m (wipeA E vs) (wipe σ vs)
  | [] => h
  | v :: vs => (RS.wipe h vs).unset v
/-- within a comprehension nothing may be raised -/
def R.nox {α : Type} (r : R α) : R α := match r with
  | .ok a h => .ok a h
  | _ => .no
def lcN (it : IT) (cg : CG) (ct : CB) (ce : CE) (E : SA) : Nat → Nat → HA → R (List D)
  | 0, _, _ => .no
  | k + 1, i, A => match itemAt it i A with
    | none => .no
    | some none => .ok [] A
    | some (some d) => match cg d E A with
      | .nx E1 A1 => (ct E1 A1).nox.bind fun b A2 => if b = true then (ce E1 A2).nox.bind fun x A3 => (lcN it cg ct ce E k (i + 1) A3).bind fun xs A4 => .ok (x :: xs) A4 else lcN it cg ct ce E k (i + 1) A2
      | _ => .no
def lcL (cg : CG) (ct : CB) (ce : CE) (E : SA) : List D → HA → R (List D)
  | [], A => .ok [] A
  | d :: ds, A => match cg d E A with
      | .nx E1 A1 => (ct E1 A1).nox.bind fun b A2 => if b = true then (ce E1 A2).nox.bind fun x A3 => (lcL cg ct ce E ds A3).bind fun xs A4 => .ok (x :: xs) A4 else lcL cg ct ce E ds A2
      | _ => .no
theorem lcN_fix {cg : CG} {ct : CB} {ce : CE} {E : SA} {ds : List D} : ∀ (k i : Nat) (A : HA), k + i = ds.length → lcN (.fix ds) cg ct ce E (k + 1) i A = lcL cg ct ce E (ds.drop i) A
  | 0, i, A, h => by
    have e : ds[i]? = none := List.getElem?_eq_none (by omega)
    rw [List.drop_eq_nil_of_le (by omega)]
    unfold lcN lcL itemAt
    simp only [e]
  | k + 1, i, A, h => by
    have hi : i < ds.length := by omega
    have e : ds[i]? = some ds[i] := List.getElem?_eq_getElem hi
    rw [List.drop_eq_getElem_cons hi]
    have ih := fun A => lcN_fix (cg := cg) (ct := ct) (ce := ce) (E := E) (ds := ds) k (i + 1) A (by omega)
    rw [show lcN (.fix ds) cg ct ce E (k + 1 + 1) i A = (match cg ds[i] E A with
      | .nx E1 A1 => (ct E1 A1).nox.bind fun b A2 => if b = true then (ce E1 A2).nox.bind fun x A3 => (lcN (.fix ds) cg ct ce E (k + 1) (i + 1) A3).bind fun xs A4 => .ok (x :: xs) A4 else lcN (.fix ds) cg ct ce E (k + 1) (i + 1) A2
      | _ => .no) from by rw [lcN]; unfold itemAt; simp only [e]]
    simp only [ih]
    rfl
/-- the items as a plain list -/
def cLcI (vs : List Nat) (ci : CI) (cg : CG) (ct : CB) (ce : CE) : CA := fun E A => (ci E A).bind fun it A1 => match it with
  | .fix ds => (lcL cg ct ce (wipeA E vs) ds A1).nox
  | it => (lcN it cg ct ce (wipeA E vs) (it.size + 1) 0 A1).nox
theorem cLcI_eq (vs : List Nat) (ci : CI) (cg : CG) (ct : CB) (ce : CE) (E : SA) (A : HA) : cLcI vs ci cg ct ce E A = (ci E A).bind fun it A1 => (lcN it cg ct ce (wipeA E vs) (it.size + 1) 0 A1).nox := by
  unfold cLcI
  congr 1
  funext it A1
  cases it with
  | fix ds => exact (congrArg R.nox (lcN_fix ds.length 0 A1 (by omega))).symm
  | live a n => rfl
end Sm

/-! Sm4: list comprehensions' rule, calls of defs -/
namespace Sm
open PySem PySem.Spec PyProof.Rows L2
variable {F : F} {pos : Pos}
section
variable {g : G} {H H' : Hp} {m m' : List Addr} {p : Addr} {o : HO}
theorem CellsV.chg (h0 : ∃ xs, H p = some (.lst xs)) {cl : List (Str × Addr)} : ∀ {xs : List Str} {vs : List V}, CellsV H m cl xs vs → CellsV (upd H p o) m cl xs vs
  | _, _, .nil => .nil
  | _, _, .cons h1 h2 h3 h4 h5 h6 => .cons h1 (by rw [upd_ne (fun e => by obtain ⟨xs, h0⟩ := h0; rw [← e, h2] at h0; cases h0)]; exact h2) h3 h4 h5 (CellsV.chg h0 h6)
theorem CellsQ.chg (h0 : ∃ xs, H p = some (.lst xs)) {cl : List (Str × Addr)} {xs : List Str} {vs : List V} (h : CellsQ H m cl xs vs) : CellsQ (upd H p o) m cl xs vs := ⟨h.ok, h.v.chg h0⟩
mutual
theorem DV.chg (h0 : ∃ xs, H p = some (.lst xs)) : ∀ {d : D} {v : V}, DV g H m d v → DV g (upd H p o) m d v
  | _, _, .non => .non
  | _, _, .bl b => .bl b
  | _, _, .int i => .int i
  | _, _, .str x => .str x
  | _, _, .ty n => .ty n
  | _, _, .tup h hs => .tup (h.imp (fun h => ⟨by rw [upd_ne (fun e => by obtain ⟨xs, h0⟩ := h0; rw [← e, h.1] at h0; cases h0)]; exact h.1, h.2⟩) id) (DVs.chg h0 hs)
  | _, _, .lst h hs => .lst (h.imp (fun h => let ⟨o', h1, h2⟩ := h; ⟨o', by rw [upd_ne (fun e => by obtain ⟨xs, h0⟩ := h0; rw [← e, h1] at h0; cases h0)]; exact h1, h2⟩) id) (DVs.chg h0 hs)
  | _, _, .dct h hl hs => .dct (let ⟨o', h1, h2⟩ := h; ⟨o', by rw [upd_ne (fun e => by obtain ⟨xs, h0⟩ := h0; rw [← e, h1] at h0; cases h0)]; exact h1, h2⟩) hl (DVs.chg h0 hs)
  | _, _, .ref h => .ref h
  | _, _, .cls c => .cls c
  | _, _, .fn f => .fn f
  | _, _, .exc h1 h2 h3 h4 h6 h5 => .exc (by rw [upd_ne (fun e => by obtain ⟨xs, h0⟩ := h0; rw [← e, h1] at h0; cases h0)]; exact h1) h2 (by rw [upd_ne (fun e => by obtain ⟨xs, h0⟩ := h0; rw [← e, h3] at h0; cases h0)]; exact h3) h4 h6 (DVs.chg h0 h5)
  | _, _, .lam h1 h2 h3 h4 h5 h6 => .lam (by rw [upd_ne (fun e => by obtain ⟨xs, h0⟩ := h0; rw [← e, h1] at h0; cases h0)]; exact h1) h2 (by rw [upd_ne (fun e => by obtain ⟨xs, h0⟩ := h0; rw [← e, h3] at h0; cases h0)]; exact h3) h4 (h5.chg h0) (DVs.chg h0 h6)
theorem DVs.chg (h0 : ∃ xs, H p = some (.lst xs)) : ∀ {ds : List D} {vs : List V}, DVs g H m ds vs → DVs g (upd H p o) m ds vs
  | _, _, .nil => .nil
  | _, _, .cons h hs => .cons (DV.chg h0 h) (DVs.chg h0 hs)
end
theorem AOR.chg (h0 : ∃ xs, H p = some (.lst xs)) {a : AO} {q : Addr} (hq : q ≠ p) (h : AOR g H m a q) : AOR g (upd H p o) m a q := by
  have e : upd H p o q = H q := upd_ne hq
  cases a with
  | lst ds => obtain ⟨vs, h1, h2⟩ := h; exact ⟨vs, e.trans h1, h2.chg h0⟩
  | dct lk kvs =>
    have k1 : ∀ ks, KVR g H m kvs ks → KVR g (upd H p o) m kvs ks := fun ks r => Paired.mapR r fun _ _ z => ⟨z.1, z.2.chg h0⟩
    cases lk with
    | false => obtain ⟨ks, h1, h2⟩ := h; exact ⟨ks, e.trans h1, k1 _ h2⟩
    | true => obtain ⟨o, ks, h1, h2⟩ := h; exact ⟨o, ks, e.trans h1, k1 _ h2⟩
  | dtt lk kvs =>
    have k2 : ∀ ks, KTR g H m kvs ks → KTR g (upd H p o) m kvs ks := fun ks r => Paired.mapR r fun _ _ z => ⟨z.1, z.2.chg h0⟩
    cases lk with
    | false => obtain ⟨ks, h1, h2⟩ := h; exact ⟨ks, e.trans h1, k2 _ h2⟩
    | true => obtain ⟨o, ks, h1, h2⟩ := h; exact ⟨o, ks, e.trans h1, k2 _ h2⟩
  | ins c fs => obtain ⟨dx, us, h1, h2⟩ := h; exact ⟨dx, us, e.trans h1, Paired.mapR h2 fun _ _ z => ⟨z.1, z.2.chg h0⟩⟩
theorem Paired.mapM {α β : Type} {R R' : α → β → Prop} : ∀ {l₁ : List α} {l₂ : List β}, Paired R l₁ l₂ → (∀ a b, a ∈ l₁ → R a b → R' a b) → Paired R' l₁ l₂
  | _, _, .nil, _ => .nil
  | _, _, .cons r t, f => .cons (f _ _ List.mem_cons_self r) (Paired.mapM t fun a b h => f a b (List.mem_cons_of_mem _ h))
theorem RH.chgOut (h0 : ∃ xs, H p = some (.lst xs)) (hp : p ∉ m) {A : HA} (h : RH g H m A) : RH g (L2.upd H p o) m A :=
  ⟨h.nd, Paired.mapM h.at_ fun q a hq r => r.chg h0 fun e => hp (e ▸ hq), (h0.elim fun xs e => tabs_chg h.tb e (by simp) (by simp)), h.tbm⟩
theorem Gr.chgOut (a : Gr m m' H H') (hp : H p = none) : Gr m m' H (upd H' p o) := by
  refine ⟨a.ext, fun q u hq hm ht => ?_, fun q ps hq => ?_, fun q hq => ?_⟩
  · rw [upd_ne (fun e => by rw [e, hp] at hq; cases hq)]; exact a.keep q u hq hm ht
  · rw [upd_ne (fun e => by rw [e, hp] at hq; cases hq)]; exact a.tbl q ps hq
  · by_cases e : q = p
    · subst e; exact hp
    · rw [upd_ne e] at hq; exact a.non q hq
theorem Gr.out (a : Gr m m' H H') {q : Addr} (hq : H q = none) (hq' : ∀ n, m' = m ++ n → q ∉ n) (hm : q ∉ m) : q ∉ m' := by
  obtain ⟨n, rfl, _⟩ := a.ext
  exact fun h => (List.mem_append.mp h).elim hm (hq' n rfl)
end
def JTs (F : Sm.F) (es : List Expr) (c : CB) : Prop := ∀ W X, Ok F W X → PTs X es (TBx F.g W c)
theorem PTs.imp {X : Cx} {es : List Expr} {t t' : TT} (h : PTs X es t) (k : ∀ σ H Q, t' σ H Q → t σ H Q) : PTs X es t' := ⟨fun pins s σ H Q I q => h.run pins s σ H Q I (k σ H Q q)⟩
def cYes : CB := fun _ A => .ok true A
theorem jt_nil : JTs F [] cYes := by
  intro W X ok
  refine PTs.imp pts_nil ?_
  rintro σ H Q ⟨m, E, A, rh, rs, q⟩
  exact Po.ok q rh rfl
theorem jt_one {e : Expr} {c : CB} (h : JB F e c) : JTs F [e] c := fun W X ok => pts_one (h W X ok)
/-- the fixed data within a comprehension's block -/
abbrev F.blk (f : Sm.F) (scope : Scope) (cl : List Str) : Sm.F := { f with scope := relS scope f.scope, cl := cl, deep := true, ltb := [] }
abbrev W0 : WX := fun _ _ _ _ => False
theorem Ok.blk {W : WX} {X : Cx} (ok : Ok F W X) {scope : Scope} {cl : List Str} {s : Shared} {H : Hp} {C : Addr} {cs : List (Str × Addr)} {fp : List Addr} : Ok (F.blk scope cl) W0 (X.blk s H scope (compEnvC scope cs C X.env) fp) where
  prog := ok.prog
  w := ok.w
  K := ok.K
  mg := ok.mg
  base := ok.base
  N := ok.N
  sc := by
    show relS scope X.env.scope = relS scope F.scope
    rw [ok.sc]
  nd := ok.nd
  room := ok.room
  calm := ok.calm
  gd := ok.gd
  tk := takes0
  fnb := fun z => by cases z
  tabB := fun t z => by cases z
theorem item_lt {it : IT} {i : Nat} {A : HA} {d : D} (h : itemAt it i A = some (some d)) : i < it.size := by
  unfold itemAt at h
  cases it with
  | fix ds =>
    have h : ds[i]? = some d := by simpa using h
    exact (List.getElem?_eq_some_iff.mp h).1
  | live a n =>
    simp only at h
    split at h
    · split at h
      · rename_i ds _ hl
        have h : ds[i]? = some d := by simpa using h
        rw [← hl]
        exact (List.getElem?_eq_some_iff.mp h).1
      · cases h
    · cases h
theorem R.nox_ok {α : Type} {r : R α} {a : α} {h : HA} (e : r.nox = .ok a h) : r = .ok a h := by
  cases r with
  | ok => exact e
  | exc => cases e
  | no => cases e
def cLc (vs : List Nat) (ci : CI) (cg : CG) (ct : CB) (ce : CE) : CE := fun E A => (cLcI vs ci cg ct ce E A).bind fun ds A1 => .ok (.lst ds) A1
/-- what a comprehension's reading comes to, whatever is done with the new list -/
theorem lc_read {W : WX} {σ : St} {H : Hp} {ci : CI} {cg : CG} {ct : CB} {ce : CE} {vs : List Nat} {Q : VK} {α β : Type} {ρ : Rl α β} {k : List D → HA → R α} {Q' : β → Hp → Prop} {K : PySem.W.Frag} (hK : K = F.g.K)
    (h : Tx ρ F.g W (fun E A => (cLcI vs ci cg ct ce E A).bind k) σ H Q')
    (hQ : ∀ (m m1 : List Addr) (H H1 : Hp) (ds : List D) (A1 : HA) (D : Addr) (acc : List V), Gr m m1 H H1 → H D = none → RH F.g H1 m1 A1 → H1 D = some (.lst acc) → D ∉ m1 → DVs F.g H1 m1 ds acc → Po ρ F.g m H W σ (k ds A1) Q' → Q (.ref D) H1) :
    (fun σ H R => TIx F.g W ci σ H fun J H' => SzOk K H' → R J H') σ H fun J H1 => ∀ D, H1 D = none → ∃ W' : Nat → Nat → Hp → Prop, (∃ m, W' 0 m (upd H1 D (.lst []))) ∧ ∀ i m H, W' i m H →
      (J.stop i H ∧ Q (.ref D) H) ∨ (J.go i H ∧ ∃ Nx : Hp → Prop, (∀ H', Nx H' → ∃ m', m' < m ∧ W' (i + 1) m' H') ∧ ∀ x H', J.yld i H x H' → TGx F.g vs cg x (wipe σ vs) H' fun σ2 H2 => wipe σ2 vs = wipe σ vs ∧ TBx F.g W0 ct σ2 H2 fun b H3 =>
        if b = true then TEx F.g W0 ce σ2 H3 fun y H4 => ∃ acc, H4 D = some (.lst acc) ∧ acc.length < sizeLine ∧ Nx (upd H4 D (.lst (acc ++ [y]))) else Nx H3) := by
  obtain ⟨m, E, A, rh, rs, q⟩ := h
  have q : Po ρ F.g m H W σ ((cLcI vs ci cg ct ce E A).bind k) Q' := q
  rw [cLcI_eq] at q
  have hb : ∀ (r : R IT) (f : IT → HA → R (List D)), (r.bind f).bind k = r.bind fun it A1 => (f it A1).bind k := by
    intro r f; cases r <;> rfl
  rw [hb] at q
  refine ⟨m, E, A, rh, rs, Po.bind q fun m1 H1 it J A1 g1 rh1 wk q1 => fun sz D hD => ?_⟩
  have hsz : it.size ≤ sizeLine := wk.2 (by rw [← hK]; exact sz)
  have wk := wk.1
  cases hlc : (lcN it cg ct ce (wipeA E vs) (it.size + 1) 0 A1).nox with
  | exc => rw [hlc] at q1; cases h9 : lcN it cg ct ce (wipeA E vs) (it.size + 1) 0 A1 <;> rw [h9] at hlc <;> cases hlc
  | no => rw [hlc] at q1; exact q1.elim
  | ok total Af =>
  rw [hlc] at q1
  have q1 : Po ρ F.g m1 H1 W σ (k total Af) Q' := q1
  have hD1 : D ∉ m1 := rh1.new hD
  have rs1 : ∀ m H, Gr m1 m H1 H → RS F.g H m (wipeA E vs) (wipe σ vs) := fun m H a => ((rs.mono g1).mono a).wipe vs
  refine ⟨fun i kk H => ∃ m A dn acc xs, Gr m1 m H1 H ∧ RH F.g H m A ∧ H D = some (.lst acc) ∧ D ∉ m ∧ DVs F.g H m dn acc ∧ dn.length ≤ i ∧ kk + i = it.size + 1 ∧ lcN it cg ct ce (wipeA E vs) kk i A = .ok xs Af ∧ dn ++ xs = total,
    ⟨it.size + 1, m1, A1, [], [], total, Gr.new hD, rh1.upd hD, upd_same, hD1, .nil, Nat.le_refl _, rfl, R.nox_ok hlc, rfl⟩, ?_⟩
  rintro i kk H2 ⟨m2, A2, dn, acc, xs, g2, rh2, hD2, hm2, dv2, hl2, hk2, e2, et⟩
  cases kk with
  | zero => cases e2
  | succ kk =>
    unfold lcN at e2
    cases hit : itemAt it i A2 with
    | none => simp only [hit] at e2; cases e2
    | some o =>
      have wk2 := wk i m2 H2 A2 g2.w rh2 o hit
      cases o with
      | none =>
        simp only [hit] at e2
        cases e2
        rw [List.append_nil] at et
        subst et
        exact .inl ⟨wk2, hQ m1 m2 H1 H2 dn Af D acc g2 hD rh2 hD2 hm2 dv2 q1⟩
      | some d =>
        simp only [hit] at e2
        obtain ⟨go, yl⟩ := wk2
        have hlen : acc.length < sizeLine := by
          have := item_lt hit
          rw [← dv2.length]; omega
        refine .inr ⟨go, fun H => ∃ m A dn acc xs, Gr m1 m H1 H ∧ RH F.g H m A ∧ H D = some (.lst acc) ∧ D ∉ m ∧ DVs F.g H m dn acc ∧ dn.length ≤ i + 1 ∧ kk + (i + 1) = it.size + 1 ∧ lcN it cg ct ce (wipeA E vs) kk (i + 1) A = .ok xs Af ∧ dn ++ xs = total,
          fun H' n => ⟨kk, Nat.lt_succ_self _, n⟩, fun x H3 y => ?_⟩
        obtain ⟨k3, g3, dvx⟩ := yl x H3 y
        have hD3 : H3 D = some (.lst acc) := k3 D _ hD2
        refine ⟨m2, wipeA E vs, A2, d, rh2.grow g3 k3, rs1 m2 H3 (g2.trans g3), dvx, ?_⟩
        cases hcg : cg d (wipeA E vs) A2 with
        | nx E4 A4 =>
          simp only [hcg] at e2
          refine fun m4 σ4 H4 g4 rh4 rs4 hw => ⟨hw.trans ?_, m4, E4, A4, rh4, rs4, ?_⟩
          · have ww : ∀ (us : List Nat) (τ : St), (∀ u ∈ us, u ∈ vs) → wipe (wipe τ us) vs = wipe τ vs := by
              intro us
              induction us with
              | nil => intro τ _; rfl
              | cons u us ih =>
                intro τ hu
                show wipe ((wipe τ us).set u none) vs = wipe τ vs
                rw [wipe_set (hu u List.mem_cons_self)]
                exact ih τ fun w hw => hu w (List.mem_cons_of_mem _ hw)
            exact ww vs σ fun _ h => h
          · have hD4 : H4 D = some (.lst acc) := g4.keep D _ hD3 hm2
            have hm4 : D ∉ m4 := g4.notin hD3 hm2
            cases hct : ct E4 A4 with
            | exc => simp only [hct, R.nox, R.bind] at e2; cases e2
            | no => simp only [hct, R.nox, R.bind] at e2; cases e2
            | ok b A5 =>
              simp only [hct, R.nox, R.bind] at e2
              intro m5 b' H5 g5 rh5 eb
              cases eb
              have hD5 : H5 D = some (.lst acc) := g5.keep D _ hD4 hm4
              have hm5 : D ∉ m5 := g5.notin hD4 hm4
              have g25 := g3.trans (g4.trans g5)
              cases b with
              | false =>
                simp only [Bool.false_eq_true, if_false] at e2 ⊢
                exact ⟨m5, A5, dn, acc, xs, g2.trans g25, rh5, hD5, hm5, dv2.mono g25, by omega, by omega, e2, et⟩
              | true =>
                simp only [if_true] at e2 ⊢
                refine ⟨m5, E4, A5, rh5, rs4.mono g5, ?_⟩
                cases hce : ce E4 A5 with
                | exc => simp only [hce, R.nox, R.bind] at e2; cases e2
                | no => simp only [hce, R.nox, R.bind] at e2; cases e2
                | ok z A6 =>
                  simp only [hce, R.nox, R.bind] at e2
                  intro m6 w H6 g6 rh6 dvz
                  have hD6 : H6 D = some (.lst acc) := g6.keep D _ hD5 hm5
                  have hm6 : D ∉ m6 := g6.notin hD5 hm5
                  have g26 := g25.trans g6
                  cases hr : lcN it cg ct ce (wipeA E vs) kk (i + 1) A6 with
                  | exc => simp only [hr] at e2; cases e2
                  | no => simp only [hr] at e2; cases e2
                  | ok ys A7 =>
                    simp only [hr] at e2
                    cases e2
                    refine ⟨acc, hD6, hlen, m6, A6, dn ++ [z], acc ++ [w], ys, Gr.chgOut (g2.trans g26) hD, rh6.chgOut ⟨_, hD6⟩ hm6, upd_same, hm6, ?_, by simp; omega, by omega, hr, by simpa using et⟩
                    exact DVs.append ((dv2.mono g26).chg ⟨_, hD6⟩) (.cons (dvz.chg ⟨_, hD6⟩) .nil)
        | _ => simp only [hcg] at e2; cases e2
theorem je_lc {elt tg iter : Expr} {ifs : List Expr} {scope : Scope} {own : List (Str × Nat)} {cl : List Str} {ci : CI} {cg : CG} {ct : CB} {ce : CE} (hi : JI F tg iter ci) (hok : blkC F.N F.scope scope own = true) (hcl : (cl.all fun x => scope.names.lookup x == some .cell) = true)
    (hg : JG (F.blk scope cl) (own.map (·.2)) tg cg) (ht : JTs (F.blk scope cl) ifs ct) (he : JE (F.blk scope cl) elt ce) (hs : ∀ (X : Cx) x, foldedSetIterable iter X.env x = pure x := by intro _ _; rfl) :
    JE F (.ListComp elt [⟨tg, iter, ifs, 0⟩] scope pos) (cLc (own.map (·.2)) ci cg ct ce) := by
  intro W X ok
  have fc : ∀ (s : Shared) (H : Hp) (C : Addr) (cs : List (Str × Addr)) (fp : List Addr), FnC (F.blk scope cl) (X.blk s H scope (compEnvC scope cs C X.env) fp) := fun _ _ _ _ _ => .inr fun x hx => List.all_eq_true.mp hcl x hx
  refine PE.imp (PE.frz (pe_lc ok.calm (by rw [ok.N]; exact ok.nd) (PI.sz (hi W X ok)) (blkOk_by (by rw [ok.N, ok.sc]; exact hok)) (fun s H C cs fp => hg W0 _ ok.blk (fc s H C cs fp)) (fun s H C cs fp => ht W0 _ ok.blk) (fun s H C cs fp => he W0 _ ok.blk) (hs X))) ?_
  intro σ H Q h
  refine lc_read (Q := fun v H' => ∃ p xs, v = .ref p ∧ H' p = some (.lst xs) ∧ ∀ o, Q v (L2.upd H' p (.frz o (.lst xs)))) ok.K h fun m m1 H H1 ds A1 D acc g1 hD rh1 hD1 hm1 dv q => ⟨D, acc, rfl, hD1, fun o => ?_⟩
  exact Po.ok' q (Gr.chgOut g1 hD) (rh1.chgOut ⟨_, hD1⟩ hm1) (.lst (.inl ⟨o, upd_same, hm1⟩) (dv.chg ⟨_, hD1⟩))
/-! ### calls of the text's defs -/
abbrev CF := List D → HA → R D
def SpC (g : G) (c : CF) (n : Nat) : Sp := fun vs H Q E => ∃ m ds A, RH g H m A ∧ DVs g H m ds vs ∧ ds.length = n ∧ match c ds A with
  | .ok d h => ∀ m' v H', Gr m m' H H' → RH g H' m' h → DV g H' m' d v → Q v H'
  | .exc c ds h => ∀ m' H' cls d, Gr m m' H H' → RH g H' m' h → EXR g H' m' c ds cls d → E cls d H'
  | .no => False
/-- a def's promise, where no object is being shown -/
structure FnG (g : G) (k : Nat) (f : Addr) (fd : FuncData) (ps : List Str) (sp : Sp) : Prop where
  len : ∀ vs H Q E, sp vs H Q E → vs.length = ps.length
  run : ∀ (A : Around) (outer : List Env) (s : Shared) (H : Hp) (args : Args) (us : List Value) (vs : List V) (Q : VK) (E : XK), Room k A → A.guards = some [] → Env0 g.prog g.w g.K g.mg g.base A outer s H → BindsTo s fd args (ps.zip us) → Vals vs us → sp vs H Q E →
    codeAny (model g.prog g.w) A (.call (.ref f) args) (CR (L2.CX g.prog g.w) outer g.prog g.w H s Q E) s
theorem FnG.mono {g : G} {j k : Nat} {f : Addr} {fd : FuncData} {ps : List Str} {sp : Sp} (F : FnG g j f fd ps sp) (h : j ≤ k) : FnG g k f fd ps sp :=
  ⟨F.len, fun A outer s H args us vs Q E hr => F.run A outer s H args us vs Q E (hr.mono h)⟩
/-- the def f may be called at level k -/
structure CallOk (g : G) (k : Nat) (a : Addr) (ps : List Str) (c : CF) : Prop where
  ex : ∃ fd : FuncData, FnG g k a fd ps (SpC g c ps.length) ∧ Binds g.K fd ps []
  kp : PySem.W.keepIn g.K (.ref a) = true
theorem CallOk.mono {g : G} {j k : Nat} {a : Addr} {ps : List Str} {c : CF} (F : CallOk g j a ps c) (h : j ≤ k) : CallOk g k a ps c := ⟨F.ex.imp fun _ z => ⟨z.1.mono h, z.2⟩, F.kp⟩
def cCall (c : CF) (ca : CA) : CE := fun E A => (ca E A).bind fun ds A1 => c ds A1
/-- a def is run from a body -/
theorem run_g {W : WX} {X : Cx} (ok : Ok F W X) {a : Addr} {fd : FuncData} {ps : List Str} {sp : Sp} {E : St → XK} {pins : List (Addr × Obj)} {σ : St} {H : Hp} {s : Shared} {Q : VK} {us : List Value} {vs : List V} (fn : FnG F.g F.k a fd ps sp) (hb : Binds F.g.K fd ps [])
    (hx : PassesAt (L2.CX X.prog X.w) X σ (E σ)) (I : Inv X pins σ H s) (r : Vals vs us) (h : sp vs H Q (E σ)) : wpAny (model X.prog X.w) X.A (call (.ref a) us) (EP X pins σ Q) X.xe s := by
  have e0 : Env0 F.g.prog F.g.w F.g.K F.g.mg F.g.base X.A X.stack s H := by
    have := I.env0
    rw [ok.prog, ok.w, ok.K, ok.mg, ok.base] at this
    exact this
  have kin : F.g.K.In s.heap := ok.K ▸ I.kIn
  have hl : us.length = ps.length := by rw [← r.length]; exact fn.len _ _ _ _ h
  have b := hb s us kin (by rw [List.append_nil]; exact hl)
  rw [List.append_nil] at b
  have run := fn.run X.A X.stack s H ⟨us, []⟩ us vs Q (E σ) ok.room ok.gd e0 b r h
  rw [← ok.prog, ← ok.w] at run
  refine wpAny_call (codeAny_mono run fun r s' hq => ?_)
  cases r with
  | error e => exact hx pins H s e s' I hq
  | ok fl =>
    cases fl with
    | ret u => exact I.after hq
    | next => exact False.elim hq
    | brk => exact False.elim hq
    | cont => exact False.elim hq
theorem je_call {x : Str} {a : Addr} {ps : List Str} {c : CF} {e : Expr} {es : List Expr} {ca : CA} {p : Pos} {n : Nat} (h : CallOk F.g F.k a ps c) (hg : Gls F.scope x) (hm : F.g.mg x = some (.ref a)) (ha : JA F (e :: es) ca) (hn : Len ca n) (hl : n = ps.length := by rfl) (hdb : (x == ("__debug__" : Str)) = false := by decide)
    (he : ∀ X : Cx, starEach (e :: es) X.env = (false, eval e X.env) :: starEach es X.env := by intro _; rfl) (hpl : ∀ X : Cx, (backTo pos (starEach es X.env)).any (·.1) = false := by intro _; rfl) :
    JE F (.Call (.Name x p) (e :: es) [] pos) (cCall c ca) := by
  intro W X ok
  obtain ⟨fd, f, b⟩ := h.ex
  refine ⟨fun pins s σ H Q I hq => ?_⟩
  obtain ⟨m, E, A, rh, rs, q⟩ := hq
  refine wpAny_Call_Name_kw (ld_glob I (ok.gl hg) (by rw [ok.mg]; exact hm) ?_ hdb)
  refine PySem.W.callWith_K (h₀ := X.base) I.ok.mod.kin (by rw [ok.K]; exact h.kp) (thn ((ha W X ok).run pos pins s σ H (fun vs H1 => SpC F.g c ps.length vs H1 Q fun cls d H2 => W cls d σ H2) I ⟨m, E, A, rh, rs, Po.bindL hn q fun m1 H1 ds xs A1 g1 rh1 dxs hl1 q1 => ?_⟩) fun us s1 ⟨vs, H1, I1, r1, q1⟩ => ⟨I1.kIn, ?_⟩) (he X) (hpl X)
  · refine ⟨m1, ds, A1, rh1, dxs, by rw [dxs.length, hl1, hl], ?_⟩
    cases hc : c ds A1 with
    | ok d h => rw [hc] at q1; exact q1
    | exc => rw [hc] at q1; exact q1
    | no => rw [hc] at q1; exact q1.elim
  · exact run_g (E := fun σ cls d H2 => W cls d σ H2) ok f b (passAt ok.tk σ) I1 r1 q1
end Sm

/-! Sm5: exceptions of own classes whose __init__ says super().__init__('..') and stores its arguments: made, over the raw heap -/
namespace Sm
open PySem PySem.Spec PyProof.Rows PySem.W PySem.Calls
abbrev excO := PySem.HandSPX.excO
section
variable {prog : Program} {w : World} {A : Around} {E : Value → Shared → Prop} {K : Frag} {hp : Heap} {g : Array GenState} {d : Drawn} {t : Nat} {os : OsState}
abbrev veT : List Value := PySem.HandSPX.veTail
/-- ValueError.__init__ bound to x, called -/
theorem x_callmw {u x C t0 : Addr} {rest : List Value} {Q : Value → Shared → Prop} (X : K.In hp) (q : excInitIn K C veT "ValueError.__new__" = true) (hu : hp.get? u = some (kxs_mw "ValueError.__init__" x)) (he : hp.get? x = some (excO C t0)) (hz : rest.length ≤ sizeLine)
    (h : ∀ h' t1, (∀ b o, b ≠ x → hp.get? b = some o → h'.get? b = some o) → h'.get? x = some (excO C t1) → Q .none ⟨h', g, d, t, os⟩) : wpAny (model prog w) A (call (.ref u) rest) Q E ⟨hp, g, d, t, os⟩ := by
  obtain ⟨nm, N', qn, bs, bm, hdct, sn, sub, ab, col, dd, k0, k1, k2, k3, k5, hC, hT⟩ := excInit_of X q
  have FB := F.excBase_ValueError
  refine wpAny_call (codeAny_of_tree ?_)
  show wpAny _ A.in1 (callAny (.ref u) ⟨rest, []⟩) _ _ _
  simp only [callAny]
  refine wpAny_bind (wpAny_load hu ?_)
  simp only [kxs_mw, show (Value.type "method-wrapper" == Value.type "method" || Value.type "method-wrapper" == Value.type "builtin_function_or_method" || Value.type "method-wrapper" == Value.type "method-wrapper") = true by decide, if_true]
  refine KFB.if_so (by decide) ?_
  refine wpAny_bind (check_bound_init FB.toExcCallFacts hC he rfl ?_)
  refine wpAny_bind (wpAny_pure (wpAny_pure ?_))
  refine ⟨plainId_quiet FB.init.plain _, codeAny_builtin FB.initEntry ?_⟩
  exact exc_init_tree (cls := .ref C) (t0 := t0) (dv := none) (c2 := .none) (c3 := .none) (b4 := .bool false) he hz fun h' k e _ => h h' _ k e
/-- what is known of the class C, its __init__ at f, the cell cc that holds C -/
structure XK (prog : Program) (K : Frag) (C f : Addr) (name qual : Str) (params : Arguments) (body : List Stmt) (scope : Scope) (ar : Arg) : Prop where
  q : excInitIn K C veT "ValueError.__new__" = true
  fn : ∃ (oc : Value) (od an : Option Addr) (osl : Array (Option Value)) (kV doc pm ct : Value) (cda cc : Addr) (ccl cl : Value) (cdd cld : Option Addr) (ccs csl : Array (Option Value)) (vs : Array Value) (file : Str) (tf : Tok),
    K.lookup f = some ⟨oc, od, .func (ksFn name qual params body scope .none kV doc pm an (.ref cda) ct cc), osl⟩ ∧ codeIn K (.ref cda) qual = true ∧ K.lookup cda = some ⟨ccl, cdd, .fields vs, ccs⟩ ∧ vs[2]? = some (.str file tf) ∧
      ((prog.main.file : Str) == file) = true ∧ K.lookup cc = some ⟨cl, cld, .cell (some (.ref C)), csl⟩
  hd : (params.posonlyargs ++ params.args).head? = some ar
  cl : ∃ cd, clsIn K C = some cd ∧ PySem.HandSPX.refsVE cd.mro = true ∧ cd.hasDict = true
  sub : mroIn K C (.ref C) = some true
  no : nsIn K cStatics "thirdparty.any" = some none
  sup : ks_superIn K C C "__init__" = some (some (.builtin "ValueError.__init__"))
  ve : subIn K (.ref C) (.type "ValueError") = some true
  sa : findIn K (.ref C) "__setattr__" = some (some (.builtin "object.__setattr__"))
  init : findIn K (.ref C) "__init__" = some (some (.ref f))
  ty : typeIn K (.ref f) = some (.type "function")
  ks : scope.names.lookup ("super" : Str) = some .globalImplicit
  kc : scope.names.lookup ("__class__" : Str) = some .free
  ka : scope.names.lookup ar.arg = some .local
  kd : scope.kind = .function
  co : scope.isCoroutine = false
  gen : scope.isGenerator = false
  cell : ∀ x ∈ scope.names, x.2 ≠ .cell
  top : (prog.main.scope.names.lookup ("super" : Str)).isSome = false
theorem x_super {body rest : List Stmt} {p0 p1 p2 p3 p4 p5 : Pos} {msg : Str} {j : Nat} {qual : Str} {scope : Scope} {L f cda cc x C t0 : Addr} {mg mb m : Str → Option Value} {fd : FuncData} {ar : Arg} {vs : Array Value} {file : Str} {tf : Tok} {oc ccl cl : Value} {od cdd cld : Option Addr} {osl ccs csl : Array (Option Value)} {cdD : ClassData} {Q : Flow → Shared → Prop}
    (X : K.In hp) (hG : hp.Ns mainGlobals mg) (hB : hp.Ns builtinsNs mb) (hbb : mb "super" = some (.type "super")) (hsup : mg "super" = none)
    (hf : K.lookup f = some ⟨oc, od, .func fd, osl⟩) (hpar : (fd.params.posonlyargs ++ fd.params.args).head? = some ar) (hns : hp.Ns L m) (hv : m ar.arg = some (.ref x)) (hx : hp.get? x = some (excO C t0))
    (hcode : K.lookup cda = some ⟨ccl, cdd, .fields vs, ccs⟩) (hvs : vs[2]? = some (.str file tf)) (hfile : ((prog.main.file : Str) == file) = true)
    (hcell : K.lookup cc = some ⟨cl, cld, .cell (some (.ref C)), csl⟩) (hD : clsIn K C = some cdD) (hsub : mroIn K C (.ref C) = some true)
    (hks : scope.names.lookup ("super" : Str) = some .globalImplicit) (hkc : scope.names.lookup ("__class__" : Str) = some .free) (hka : scope.names.lookup ar.arg = some .local) (hk : scope.kind = .function)
    (htop : (prog.main.scope.names.lookup ("super" : Str)).isSome = false) (ho : nsIn K cStatics "thirdparty.any" = some none)
    (hm : ks_superIn K C C "__init__" = some (some (.builtin "ValueError.__init__"))) (hVE : subIn K (.ref C) (.type "ValueError") = some true) (q : excInitIn K C veT "ValueError.__new__" = true) {pl : Sem Bool}
    (he : ∀ env : Env, eval (.Call (.Attribute (.Call (.Name "super" p0) [] [] p1) "__init__" p2) [.Constant (.str msg) j p3] [] p4) env = (do
      let ov ← attributeBase (.Call (.Name "super" p0) [] [] p1) "__init__" env (eval (.Call (.Name "super" p0) [] [] p1) env)
      standAt p2.atName
      let (f, first) ← holding [ov] (getMethod ov "__init__" pl)
      callWith p4 f first (backTo p4 (starEach [.Constant (.str msg) j p3] env)) []))
    (h : ∀ h' t' t1, (∀ b o, b ≠ x → hp.get? b = some o → h'.get? b = some o) → h'.get? x = some (excO C t1) → wpAny (model prog w) A (execs rest (ksEnv qual scope L f (.ref cda) cc)) Q E ⟨h', g, d, t', os⟩) :
    _root_.PySem.wpAt (model prog w) A (.func body (ksEnv qual scope L f (.ref cda) cc))
      (execs (.Expr (.Call (.Attribute (.Call (.Name "super" p0) [] [] p1) "__init__" p2) [.Constant (.str msg) j p3] [] p4) p5 :: rest) (ksEnv qual scope L f (.ref cda) cc)) Q E ⟨hp, g, d, t, os⟩ := by
  have I : InstAt hp x (excO C t0) C none := ⟨hx, rfl, rfl, trivial⟩
  obtain ⟨oD, hD1, hD2⟩ : ∃ oD, hp.get? C = some oD ∧ oD.data = .cls cdD := by
    unfold clsIn at hD
    split at hD
    · rename_i c d cd' sl ho
      cases hD
      exact ⟨_, X _ _ ho, rfl⟩
    · cases hD
  refine ks_wpAt_execs_cons (ks_wpAt_Expr_any (ks_wpAt_MethodCall ?_ (he _)) (by show interactive (ksEnv qual scope L f (.ref cda) cc) = false; simp [interactive, PySem.W.envX, hk]) rfl)
  refine ks_wpAt_super_base (env := ksEnv qual scope L f (.ref cda) cc) hks hkc (by decide) rfl (X _ _ hf) rfl hpar rfl (X _ _ hcode) rfl hvs hfile htop ?_
  refine ks_loadName_global hk hks (loadGlobal_builtin (env := ksEnv qual scope L f (.ref cda) cc) hG hsup hB hbb ⟨rfl, ?_⟩)
  refine wpAny_loadName_free hk hkc rfl ⟨_, X _ _ hcell, rfl⟩ ?_
  refine wpAny_loadName_local hk hka hns hv ?_
  refine ks_wpAny_isType_cls hD1 hD2 ⟨rfl, ?_⟩
  refine ks_wpAny_call_super hD1 hD2 I.at_ I.cls (fun c e => by cases e) (looks_mroIn X hsub) (fun h1 e1 k1 => ?_)
  have X1 : K.In h1 := fun b o e => k1 _ _ (X b o e)
  have hx1 := k1 _ _ hx
  have I1 : InstAt h1 x (excO C t0) C none := ⟨hx1, rfl, rfl, trivial⟩
  have hm' : alongIn K "__init__" ((cdD.mro.dropWhile (· != .ref C)).drop 1) = some (some (.builtin "ValueError.__init__")) := by
    unfold ks_superIn at hm
    rw [hD] at hm
    exact hm
  refine kxs_getMethod kxs_ValueError e1 (looks_opaque X1 ho) (l₀ := cdD.mro) (fun A Q E s k q => wpAny_bind ((looks_clsIn X1 hD) A _ E s k (wpAny_pure q))) rfl X1 hm' (I1.type.andThen (looks_subIn X1 hVE)) (ks_ne X I hD) (by decide) ?_
  have k2 : ∀ b o, hp.get? b = some o → (h1.push (kxs_mw "ValueError.__init__" x)).get? b = some o := fun b o e => Heap.get?_push_of_some _ (k1 b o e)
  refine kxs_callWith (i := "ValueError.__init__") (x := x) rfl ?_
  refine evalArgs_plain ?_
  refine Calls.spliced_cons (Calls.Constant_str (pos := p3) (k := j) (Calls.spliced_nil ⟨Heap.get?_push_at rfl rfl, ?_⟩))
  have X2 : K.In (h1.push (kxs_mw "ValueError.__init__" x)) := fun b o e => k2 _ _ (X b o e)
  refine x_callmw X2 q (Heap.get?_push_at rfl rfl) (k2 _ _ hx) (by show 1 ≤ sizeLine; rw [sizeLine_eq]; omega) (fun h3 t1 k3 e3 => ?_)
  exact _root_.PySem.wpAt_of_wpAny (h h3 _ t1 (fun b o hb e => k3 b o hb (k2 b o e)) e3)
/-- self.n = n, the first one -/
theorem x_store1 {rest : List Stmt} {p6 p7 p8 p9 : Pos} {qual : Str} {scope : Scope} {L f cda cc x C t1 : Addr} {m : Str → Option Value} {s n : Str} {u : Value} {cd : ClassData} {Q : Flow → Shared → Prop}
    (X : K.In hp) (hcd : clsIn K C = some cd) (hm : PySem.HandSPX.refsVE cd.mro = true) (hh : cd.hasDict = true) (sa : findIn K (.ref C) "__setattr__" = some (some (.builtin "object.__setattr__"))) (hno : findIn K (.ref C) n = some none)
    (hns : hp.Ns L m) (hv : m s = some (.ref x)) (hu : m n = some u) (hx : hp.get? x = some (excO C t1)) (hk : scope.kind = .function) (hks : scope.names.lookup s = some .local) (hkn : scope.names.lookup n = some .local)
    (hsd : (s == ("__debug__" : Str)) = false) (hnd : (n == ("__debug__" : Str)) = false)
    (h : ∀ h' t' dx, (∀ b o, b ≠ x → hp.get? b = some o → h'.get? b = some o) → hp.objs.size ≤ dx → dx ≠ x → h'.get? x = some ({ cls := .ref C, dict := some dx, data := .fields #[.ref t1, .none, .none, .none, .bool false, .none] } : Obj) →
      h'.Ns1 dx (fun y => if y = n then some u else none) → wpAny (model prog w) A (execs rest (ksEnv qual scope L f (.ref cda) cc)) Q E ⟨h', g, d, t', os⟩) :
    wpAny (model prog w) A (execs (.Assign [.Attribute (.Name s p6) n p7] (.Name n p8) p9 :: rest) (ksEnv qual scope L f (.ref cda) cc)) Q E ⟨hp, g, d, t, os⟩ := by
  refine wpAny_execs_cons (plainObj_wpAny_Assign_Attribute ?_)
  refine wpAny_Name (wpAny_loadName_local hk hkn hns hu ?_) hnd
  refine wpAny_Name (wpAny_loadName_local hk hks hns hv ?_) hsd
  refine set_plain X (ox := excO C t1) (od := none) ⟨hx, rfl, rfl, trivial⟩ sa ?_
  exact PySem.HandSPX.exc_osa X hx hcd hm hh hno fun h' tk' dx k dn dne hx' hn => h h' tk' dx k dn dne hx' hn
/-- a further one -/
theorem x_store2 {rest : List Stmt} {p6 p7 p8 p9 : Pos} {qual : Str} {scope : Scope} {L f cda cc x C t1 dx : Addr} {m m0 : Str → Option Value} {s n : Str} {u : Value} {cd : ClassData} {nl : List Str} {Q : Flow → Shared → Prop}
    (X : K.In hp) (hcd : clsIn K C = some cd) (hm : PySem.HandSPX.refsVE cd.mro = true) (hh : cd.hasDict = true) (sa : findIn K (.ref C) "__setattr__" = some (some (.builtin "object.__setattr__"))) (hno : findIn K (.ref C) n = some none)
    (hns : hp.Ns L m) (hv : m s = some (.ref x)) (hu : m n = some u) (hx : hp.get? x = some ({ cls := .ref C, dict := some dx, data := .fields #[.ref t1, .none, .none, .none, .bool false, .none] } : Obj)) (hn0 : hp.Ns1 dx m0) (hw : Within m0 nl) (hz : nl.length ≤ 1000)
    (hk : scope.kind = .function) (hks : scope.names.lookup s = some .local) (hkn : scope.names.lookup n = some .local) (hsd : (s == ("__debug__" : Str)) = false) (hnd : (n == ("__debug__" : Str)) = false)
    (h : ∀ h' t', (∀ b o, b ≠ dx → hp.get? b = some o → h'.get? b = some o) → h'.Ns1 dx (fun y => if y = n then some u else m0 y) → wpAny (model prog w) A (execs rest (ksEnv qual scope L f (.ref cda) cc)) Q E ⟨h', g, d, t', os⟩) :
    wpAny (model prog w) A (execs (.Assign [.Attribute (.Name s p6) n p7] (.Name n p8) p9 :: rest) (ksEnv qual scope L f (.ref cda) cc)) Q E ⟨hp, g, d, t, os⟩ := by
  obtain ⟨oD, esD, epD, hoD, hdD, _⟩ := hn0.count hw
  refine wpAny_execs_cons (plainObj_wpAny_Assign_Attribute ?_)
  refine wpAny_Name (wpAny_loadName_local hk hkn hns hu ?_) hnd
  refine wpAny_Name (wpAny_loadName_local hk hks hns hv ?_) hsd
  refine set_plain X (ox := { cls := .ref C, dict := some dx, data := .fields #[.ref t1, .none, .none, .none, .bool false, .none] }) (od := some oD) ⟨hx, rfl, rfl, hoD⟩ sa ?_
  exact PySem.OEX.osa_old X hx hn0 hw hz hcd hm hh hno fun h' tk' k hn => h h' tk' k hn
/-- the body's two statements -/
abbrev xSuper (p0 p1 p2 p3 p4 p5 : Pos) (msg : Str) (j : Nat) : Stmt := .Expr (.Call (.Attribute (.Call (.Name "super" p0) [] [] p1) "__init__" p2) [.Constant (.str msg) j p3] [] p4) p5
abbrev xStore (p6 p7 p8 p9 : Pos) (n : Str) : Stmt := .Assign [.Attribute (.Name "self" p6) n p7] (.Name n p8) p9
abbrev XPl (p0 p1 p2 p3 p4 : Pos) (msg : Str) (j : Nat) (pl : Sem Bool) : Prop := ∀ env : Env, eval (.Call (.Attribute (.Call (.Name "super" p0) [] [] p1) "__init__" p2) [.Constant (.str msg) j p3] [] p4) env = (do
      let ov ← attributeBase (.Call (.Name "super" p0) [] [] p1) "__init__" env (eval (.Call (.Name "super" p0) [] [] p1) env)
      standAt p2.atName
      let (f, first) ← holding [ov] (getMethod ov "__init__" pl)
      callWith p4 f first (backTo p4 (starEach [.Constant (.str msg) j p3] env)) [])
/-- __init__(self, n) runs -/
theorem x_init1 {C f x t0 : Addr} {name qual : Str} {params : Arguments} {scope : Scope} {ar : Arg} {p0 p1 p2 p3 p4 p5 p6 p7 p8 p9 : Pos} {msg n : Str} {j : Nat} {pl : Sem Bool} {mg mb : Str → Option Value} {args : Args} {u : Value} {R : Result → Shared → Prop}
    (T : XK prog K C f name qual params [xSuper p0 p1 p2 p3 p4 p5 msg j, xStore p6 p7 p8 p9 n] scope ar) (har : ar.arg = "self") (hpl : XPl p0 p1 p2 p3 p4 msg j pl) (hno : findIn K (.ref C) n = some none) (hn : scope.names.lookup n = some .local) (hsn : (n == ("self" : Str)) = false) (hnd : (n == ("__debug__" : Str)) = false)
    (X : K.In hp) (hG : hp.Ns mainGlobals mg) (hB : hp.Ns builtinsNs mb) (hbb : mb "super" = some (.type "super")) (hsup : mg "super" = none) (hlim : hp.NoLimit) (hroom : A.depth < recursionLimit)
    (hbind : ∀ fd : FuncData, fd.params = params → fd.defaults = .none → BindsTo ⟨hp, g, d, t, os⟩ fd args [("self", .ref x), (n, u)]) (hx : hp.get? x = some (excO C t0)) (hxK : K.lookup x = none)
    (h : ∀ h' t' t1 dx, (∀ b o, b ≠ x → hp.get? b = some o → h'.get? b = some o) → hp.objs.size ≤ dx → dx ≠ x → h'.get? x = some ({ cls := .ref C, dict := some dx, data := .fields #[.ref t1, .none, .none, .none, .bool false, .none] } : Obj) →
      h'.Ns1 dx (fun y => if y = n then some u else none) → R (.ok (.ret .none)) ⟨h', g, d, t', os⟩) :
    codeAny (model prog w) A (.call (.ref f) args) R ⟨hp, g, d, t, os⟩ := by
  obtain ⟨oc, od, an, osl, kV, doc, pm, ct, cda, cc, ccl, cl, cdd, cld, ccs, csl, vs, file, tf, hf, hcd, hcode, hvs, hfile, hcell⟩ := T.fn
  obtain ⟨cd, hcl, hm, hh⟩ := T.cl
  have hself : scope.names.lookup ("self" : Str) = some .local := har ▸ T.ka
  have l1 : ([(("self" : Str), Value.ref x), (n, u)].reverse).lookup ("self" : Str) = some (Value.ref x) := by
    show ([(n, u), (("self" : Str), Value.ref x)] : List (Str × Value)).lookup ("self" : Str) = _
    have e : (("self" : Str) == n) = false := by
      cases z : (("self" : Str) == n) with
      | false => rfl
      | true => rw [beq_iff_eq] at z; rw [← z] at hsn; simp at hsn
    simp [List.lookup, e]
  have l2 : ([(("self" : Str), Value.ref x), (n, u)].reverse).lookup n = some u := by
    show ([(n, u), (("self" : Str), Value.ref x)] : List (Str × Value)).lookup n = _
    simp [List.lookup]
  refine ks_codeAny_call_defAt (s := ⟨hp, g, d, t, os⟩) (fd := ksFn name qual params _ scope .none kV doc pm an (.ref cda) ct cc) hroom (X _ _ hf) rfl hlim (codeRec_of X hcd) rfl (hbind _ rfl rfl) T.cell (fun y hy => ?_) (fun h₁ hns hk₁ => ?_) T.co T.gen T.kd
  · simp at hy
    rcases hy with rfl | rfl
    · exact hself
    · exact hn
  have X1 : K.In h₁ := fun b o e => hk₁ _ _ (X b o e)
  have xl : x ≠ hp.objs.size := Nat.ne_of_lt (Heap.lt_size hx)
  refine x_super (mg := mg) (mb := mb) X1 (hG.keeps hk₁) (hB.keeps hk₁) hbb hsup hf T.hd hns (by rw [har]; exact l1) (hk₁ _ _ hx) hcode hvs hfile hcell hcl T.sub T.ks T.kc (har ▸ T.ka) T.kd T.top T.no T.sup T.ve T.q hpl (fun h2 t2 t1 k2 e2 => ?_)
  have nK : ∀ b o, K.lookup b = some o → b ≠ x := fun b o e z => by rw [z, hxK] at e; cases e
  have X2 : K.In h2 := fun b o e => k2 b o (nK b o e) (X1 b o e)
  have xl' : hp.objs.size ≠ x := Ne.symm xl
  have hns2 : h2.Ns hp.objs.size (fun y => ([(("self" : Str), Value.ref x), (n, u)].reverse).lookup y) := by
    obtain ⟨oL, es, ep, hL, r⟩ := hns
    exact ⟨oL, es, ep, k2 _ _ xl' hL, r⟩
  refine x_store1 (s := "self") (n := n) (x := x) (C := C) (t1 := t1) X2 hcl hm hh T.sa hno hns2 l1 l2 e2 T.kd hself hn (by decide) hnd (fun h3 t3 dx k3 l3 n3 e3 ns3 => ?_)
  refine wpAny_execs_nil ?_
  refine h h3 _ t1 dx (fun b o hb e => k3 b o hb (k2 b o hb (hk₁ b o e))) ?_ n3 e3 ns3
  obtain ⟨oL, _, _, hL, _⟩ := hns2
  exact Nat.le_trans (Nat.le_of_lt (Heap.lt_size hL)) l3
end
end Sm

/-! Sm6: an own exception class called, by position or by name -/
namespace Sm
open PySem PySem.Spec PyProof.Rows PySem.W PySem.Calls PySem.HandSPX
section
variable {M : Model} {A : Around} {E : Value → Shared → Prop} {h : Heap} {g : Array GenState} {d : Drawn} {t : Nat} {os : OsState}
variable {nm q : Str} {C N : Addr} {bs bm : List Value} {hdct : Bool} {sn : List Str} {sub : List Value} {ab : Bool} {col : Option Bool} {dd : Option Addr} {k0 k1 k2 k3 k5 : Option Value}
abbrev veNew : String := "ValueError.__new__"
theorem x_chk (hT : ∀ X : String, bm.contains (.type X) = veT.contains (.type X)) {rest : List Value} {kw : List (Str × Value)} {Q : Unit → Shared → Prop}
    (hC : h.get? C = some (excClassObj nm q C N bs bm hdct sn sub ab col dd k0 k1 k2 k3 k5 veNew)) (hq : Q () ⟨h, g, d, t, os⟩) : wpAny M A (checkBuiltinCall veNew ⟨.ref C :: rest, kw⟩) Q E ⟨h, g, d, t, os⟩ := by
  have FB := F.excBase_ValueError
  have c1 : (Value.ref C :: bm).contains (.type "ValueError") = true := by rw [List.contains_cons, hT, FB.hasB, Bool.or_true]
  have c2 := FB.noStar
  simp only [checkBuiltinCall, FB.newKind, FB.newSplit, FB.newRow]
  repeat (first | refine wpAny_loadPart_at hC ?_ | (refine wpAny_isSubtype_exc hC ?_; rw [c1]) | refine wpAny_staticBase_exc hC ?_ | refine wpAny_madeBy_exc hC ?_ | simp only [bne_self_eq_false, Bool.false_eq_true, if_false] | wp_step)
  exact hq
end
section
variable {prog : Program} {w : World} {A : Around} {E : Value → Shared → Prop} {R : Result → Shared → Prop} {h : Heap} {g : Array GenState} {d : Drawn} {t : Nat} {os : OsState}
variable {nm q : Str} {C N : Addr} {bs bm : List Value} {hdct : Bool} {sn : List Str} {sub : List Value} {ab : Bool} {col : Option Bool} {dd : Option Addr} {k0 k1 k2 k3 k5 : Option Value}
theorem x_new (hT : ∀ X : String, bm.contains (.type X) = veT.contains (.type X)) {rest : List Value} {kw : List (Str × Value)} (hC : h.get? C = some (excClassObj nm q C N bs bm hdct sn sub ab col dd k0 k1 k2 k3 k5 veNew))
    (hq : R (.ok (.ret (.ref (h.objs.size + 1)))) ⟨(h.push (W.kdv_tup rest)).push (Sm.excO C h.objs.size), g, d, t, os⟩) (hrest : rest.length ≤ sizeLine) :
    codeAny (model prog w) A (.builtin veNew ⟨.ref C :: rest, kw⟩) R ⟨h, g, d, t, os⟩ := by
  have FB := F.excBase_ValueError
  have c0 := FB.ends
  have c1 : (Value.ref C :: bm).contains (.type "ValueError") = true := by rw [List.contains_cons, hT, FB.hasB, Bool.or_true]
  have c2 : (Value.ref C :: bm).contains (.type "AttributeError") = false := by rw [List.contains_cons, hT, FB.noAttr]; rfl
  have c3 : (Value.ref C :: bm).contains (.type "NameError") = false := by rw [List.contains_cons, hT, FB.noName]; rfl
  refine codeAny_builtinAt FB.entry ?_
  unfold Builtin.«BaseException.__new__»
  refine PySem.wpAt_bind ?_
  show PySem.wpAt _ _ _ (stack >>= _) _ _ _
  refine PySem.wpAt_bind (PySem.wpAt_stack fun p below => PySem.wpAt_of_wpAny ?_)
  wp_walk
  refine PySem.wpAt_of_wpAny ?_
  rw [FB.owner]
  repeat (first | with_reducible refine wpAny_madeHere_exc FB.canon hC ?_ | with_reducible refine wpAny_loadPart_at hC ?_ | (with_reducible refine wpAny_isSubtype_exc hC ?_; first | rw [c1] | rw [c2] | rw [c3]) | wp_step)
  show R _ _
  rw [Heap.size_push]
  exact hq
theorem x_tcall (hT : ∀ X : String, bm.contains (.type X) = veT.contains (.type X)) {rest : List Value} {kw : List (Str × Value)} {fI : Addr} {Q : Fin → Shared → Prop}
    (hC : h.get? C = some (excClassObj nm q C N bs bm hdct sn sub ab col dd k0 k1 k2 k3 k5 veNew))
    (hi : W.Looks (model prog w) h (typeLookup (.ref C) "__init__") (some (.ref fI))) (hb : ∀ self, W.Looks (model prog w) h (bindSpecial (.ref fI) self) (.ref fI, [self])) (hrest : rest.length ≤ sizeLine)
    (hq : codeAny (model prog w) A (.call (.ref fI) ⟨.ref (h.objs.size + 1) :: rest, kw⟩)
      (fun r s' => match r with | .ok (.ret v) => v = .none ∧ Q (.done (.ret (.ref (h.objs.size + 1)))) s' | .ok _ => False | .error e => E e s')
      ⟨(h.push (W.kdv_tup rest)).push (Sm.excO C h.objs.size), g, d, t, os⟩) :
    wpAny (model prog w) A (Builtin.«type.__call__» ⟨.ref C :: rest, kw⟩) Q E ⟨h, g, d, t, os⟩ := by
  have FB := F.excBase_ValueError
  repeat (first | with_reducible refine wpAny_loadPart_at hC ?_ | with_reducible refine wpAny_madeBy_exc hC ?_ | wp_step)
  refine codeAny_call_builtin_code (Code.quiet_builtin _ FB.quiet) (x_chk hT hC ?_)
  refine x_new hT hC ?_ hrest
  show wpAny _ _ _ _ _ _
  have k : ∀ b o, h.get? b = some o → ((h.push (W.kdv_tup rest)).push (Sm.excO C h.objs.size)).get? b = some o := fun b o e => Heap.get?_push_of_some _ (Heap.get?_push_of_some _ e)
  have hC₁ := k _ _ hC
  have hg : ((h.push (W.kdv_tup rest)).push (Sm.excO C h.objs.size)).get? (h.objs.size + 1) = some (Sm.excO C h.objs.size) := by heap_get
  have hcC : (Value.ref C :: bm).contains (.ref C) = true := by simp
  have i1 := hi.keeps k
  have b1 := (hb (.ref (h.objs.size + 1))).keeps k
  unfold isInstance
  repeat (first | with_reducible refine wpAny_loadPart_at hg ?_ | (with_reducible refine wpAny_isSubtype_exc hC₁ ?_; rw [hcC]) | wp_step)
  show wpAny _ _ (typeLookup (.ref C) _) _ _ _
  refine i1.at ?_
  refine wpAny_holding (wpAny_bind (b1.at ?_))
  refine wpAny_bind (wpAny_call (codeAny_mono hq fun r s' z => ?_))
  rcases r with e | (v | _ | _ | _) <;> first | exact z | exact z.elim | skip
  obtain ⟨rfl, z⟩ := z
  first
    | exact wpAny_pure (wpAny_pure z)
    | (wp_walk; exact z)
theorem x_call (hT : ∀ X : String, bm.contains (.type X) = veT.contains (.type X)) {rest : List Value} {kw : List (Str × Value)} {fI : Addr}
    (hC : h.get? C = some (excClassObj nm q C N bs bm hdct sn sub ab col dd k0 k1 k2 k3 k5 veNew))
    (hi : W.Looks (model prog w) h (typeLookup (.ref C) "__init__") (some (.ref fI))) (hb : ∀ self, W.Looks (model prog w) h (bindSpecial (.ref fI) self) (.ref fI, [self])) (hrest : rest.length ≤ sizeLine)
    (hq : codeAny (model prog w) (A.under (.builtin "type.__call__" ⟨.ref C :: rest, kw⟩)) (.call (.ref fI) ⟨.ref (h.objs.size + 1) :: rest, kw⟩) (W.InitBack (h.objs.size + 1) R)
      ⟨(h.push (W.kdv_tup rest)).push (Sm.excO C h.objs.size), g, d, t, os⟩) :
    codeAny (model prog w) A (.call (.ref C) ⟨rest, kw⟩) R ⟨h, g, d, t, os⟩ := by
  have f1 := tc_lookup
  have f2 := tc_bind (.ref C)
  have hTy : (⟨h, g, d, t, os⟩ : Shared).TypeIs (.ref C) "type" := ⟨_, hC, rfl⟩
  refine codeAny_of_tree ?_
  show wpAny _ _ (callAny (.ref C) _) _ _ _
  repeat (any_goals (first | assumption | with_reducible refine wpAny_loadPart_at hC ?_ | wp_step))
  refine ⟨rfl, ?_⟩
  refine codeAny_call_builtin_at (Code.quiet_builtin _ (by decide +kernel)) entry_typeCall (wpAny_check_type_call_sub hC (x_tcall hT hC hi hb hrest ?_))
  exact codeAny_mono hq fun r s' z => by
    rcases r with e | (v | _ | _ | _) <;> exact z
end
end Sm

/-! Sm7: own exceptions as values: made, their fields read, isinstance -/
namespace Sm
open PySem PySem.Spec PyProof.Rows L2
variable {F : F} {pos : Pos}
/-- what the text says of the class c whose __init__ stores the one argument n -/
structure XCls (g : G) (c : Nat) (n : Str) : Prop where
  ex : ∃ (f : Addr) (name qual : Str) (params : Arguments) (scope : Scope) (ar : Arg) (p0 p1 p2 p3 p4 p5 p6 p7 p8 p9 : Pos) (msg : Str) (j : Nat) (pl : Sem Bool), XK g.prog g.K (g.ca c) f name qual params [xSuper p0 p1 p2 p3 p4 p5 msg j, xStore p6 p7 p8 p9 n] scope ar ∧
    ar.arg = "self" ∧ XPl p0 p1 p2 p3 p4 msg j pl ∧ scope.names.lookup n = some .local ∧
    (∀ fd : FuncData, fd.params = params → fd.defaults = .none → ∀ (s : Shared) (x u : Value), BindsTo s fd ⟨[x, u], []⟩ [("self", x), (n, u)] ∧ BindsTo s fd ⟨[x], [(n, u)]⟩ [("self", x), (n, u)])
  no : PySem.W.findIn g.K (.ref (g.ca c)) n = some none
  sn : (n == ("self" : Str)) = false
  nd : (n == ("__debug__" : Str)) = false
  ef : g.ef c = [n]
  sup : g.mg "super" = none
  kp : PySem.W.keepIn g.K (.ref (g.ca c)) = true
theorem ns1_of {h : Heap} {dx : Addr} {n : Str} {y : V} {u : Value} (r : RelV y u) (hn : h.Ns1 dx fun z => if z = n then some u else none) : ∃ mA, h.Ns1 dx mA ∧ ∀ f, RelO (([(n, y)] : List (Str × V)).lookup f) (mA f) := by
  refine ⟨_, hn, fun f => ?_⟩
  by_cases e : f = n
  · subst e
    simp only [List.lookup, beq_self_eq_true, if_true]
    exact r
  · have e' : (f == n) = false := beq_eq_false_iff_ne.mpr e
    simp only [List.lookup, e', if_neg e]
    trivial
theorem run_x1 {g : G} {c : Nat} {n : Str} (T : XCls g c n) {X : Cx} {W : WX} {k : Nat} (hp : X.prog = g.prog) (hK : X.K = g.K) (hmg : X.mg = g.mg) (hr : Room (k + 1) X.A) {pins : List (Addr × Obj)} {σ : St} {H : Hp} {s : Shared} {Q : VK} {y : V} {u : Value} {args : List Value} {kw : List (Str × Value)}
    (ha : (args = [u] ∧ kw = []) ∨ (args = [] ∧ kw = [(n, u)])) (I : Inv X pins σ H s) (r : RelV y u)
    (h : ∀ a dd, H a = none → H dd = none → dd ≠ a → Q (.ref a) (upd (upd H dd (.xd [(n, y)])) a (XO (g.ca c) dd a))) : wpAny (model X.prog X.w) X.A (call (.ref (g.ca c)) args kw) (EP X pins σ Q) X.xe s := by
  obtain ⟨f, name, qual, params, scope, ar, p0, p1, p2, p3, p4, p5, p6, p7, p8, p9, msg, j, pl, Z, har, hpl, hn, hb⟩ := T.ex
  have kin : g.K.In s.heap := hK ▸ I.kIn
  obtain ⟨nm, N', qn, bs, bm, hdct, sn, sub, ab, col, dd0, k0, k1, k2, k3, k5, hC, hT⟩ := PySem.W.excInit_of kin Z.q
  obtain ⟨mb, hmb, hbb⟩ := I.mod.blt
  obtain ⟨hp0, gn, dr, tk, os⟩ := s
  have hal : args.length ≤ sizeLine := by
    rw [sizeLine_eq]
    rcases ha with ⟨rfl, _⟩ | ⟨rfl, _⟩ <;> simp
  have kk : ∀ b o, hp0.get? b = some o → ((hp0.push (PySem.W.kdv_tup args)).push (excO (g.ca c) hp0.objs.size)).get? b = some o := fun b o e => Heap.get?_push_of_some _ (Heap.get?_push_of_some _ e)
  have hx : ((hp0.push (PySem.W.kdv_tup args)).push (excO (g.ca c) hp0.objs.size)).get? (hp0.objs.size + 1) = some (excO (g.ca c) hp0.objs.size) := by heap_get
  have hxK : g.K.lookup (hp0.objs.size + 1) = none := by
    cases e : g.K.lookup (hp0.objs.size + 1) with
    | none => rfl
    | some o =>
      have := Heap.lt_size (kin _ _ e)
      exact absurd this (by show ¬ hp0.objs.size + 1 < hp0.objs.size; omega)
  rw [hp]
  have hr2 := hr.make (g.ca c) args kw
  refine wpAny_call (x_call hT hC (PySem.W.looks_findIn kin Z.init) (fun self => PySem.W.bind_fn kin self Z.ty) hal ?_)
  refine x_init1 (u := u) (mg := g.mg) (mb := mb) Z har hpl T.no hn T.sn T.nd (fun b o e => kk b o (kin b o e)) ((hmg ▸ I.mod.glob).keeps fun b o e => kk b o (I.bk b o e)) (hmb.keeps fun b o e => kk b o (I.bk b o e)) ((hbb _ (by decide)).trans rfl) T.sup (I.nolimit.keeps kk) hr2.depth
    (fun fd e ed => ?_) hx hxK (fun h' t' t1 dx k3 l3 n3 e3 ns3 => ?_)
  · rcases ha with ⟨rfl, rfl⟩ | ⟨rfl, rfl⟩
    · exact (hb fd e ed _ _ _).1
    · exact (hb fd e ed _ _ _).2
  · have hk : ∀ b o, hp0.get? b = some o → h'.get? b = some o := fun b o e => k3 b o (Nat.ne_of_lt (Nat.lt_succ_of_lt (Heap.lt_size e))) (kk b o e)
    have la : hp0.objs.size ≤ hp0.objs.size + 1 := Nat.le_succ _
    have ld : hp0.objs.size ≤ dx := Nat.le_trans (by rw [Heap.size_push, Heap.size_push]; omega) l3
    have na : H (hp0.objs.size + 1) = none := I.hok.fresh la
    have nd : H dx = none := I.hok.fresh ld
    have ne : ∀ b o, hp0.get? b = some o → b ≠ hp0.objs.size + 1 ∧ b ≠ dx := fun b o e => ⟨Nat.ne_of_lt (Nat.lt_succ_of_lt (Heap.lt_size e)), Nat.ne_of_lt (Nat.lt_of_lt_of_le (Heap.lt_size e) ld)⟩
    have un : Un X.fs [] H (upd (upd H dx (.xd [(n, y)])) (hp0.objs.size + 1) (XO (g.ca c) dx (hp0.objs.size + 1))) hp0 h' :=
      { keep := fun b o q _ _ _ => hk b o q
        slot := fun b o q _ _ _ => ⟨o.slots, hk b o q⟩
        free := fun b o q m _ => by rw [upd_ne (ne b o q).1, upd_ne (ne b o q).2]; exact m
        there := fun b o q _ => ⟨o, hk b o q⟩
        tups := fun b xs q => by rw [upd_ne (ne_of_none q na), upd_ne (ne_of_none q nd)]; exact q
        frzs := fun b o v q => by rw [upd_ne (ne_of_none q na), upd_ne (ne_of_none q nd)]; exact q
        tbls := fun b ps q => ⟨#[], by rw [upd_ne (ne_of_none q na), upd_ne (ne_of_none q nd), q]; simp⟩ }
    have I2 := I.un (t' := t') un fun b o q => by
      by_cases e1 : b = hp0.objs.size + 1
      · subst e1
        rw [upd_same] at q
        cases q
        exact ⟨⟨_, _, e3, ⟨rfl, rfl⟩, rfl⟩, ⟨_, e3⟩, fun h1 h2 ⟨oe, vs, z1, z2, z3⟩ z => ⟨oe, vs, z _ z1, z2, z3⟩⟩
      · rw [upd_ne e1] at q
        by_cases e2 : b = dx
        · subst e2
          rw [upd_same] at q
          cases q
          exact ns1_of r ns3
        · rw [upd_ne e2] at q
          exact (I.hok b o q).stay (fun a v _ z => hk a v z) (fun a z => by rw [upd_ne (ne_of_none z na), upd_ne (ne_of_none z nd)]; exact z) fun a xs z => by rw [upd_ne (ne_of_none z na), upd_ne (ne_of_none z nd)]; exact z
    exact ⟨rfl, .ref (hp0.objs.size + 1), _, I2, rfl, h _ dx na nd n3⟩
def cMkx (c : Nat) (ce : CE) : CE := fun E A => (ce E A).bind fun d A1 => .ok (.exc c [d]) A1
theorem mkx_fin {g : G} {c : Nat} {n : Str} (T : XCls g c n) {W : WX} {σ : St} {m : List Addr} {H : Hp} {A : HA} {d : D} {y : V} {Q : VK} (rh : RH g H m A) (dv : DV g H m d y) (q : Po (rE g) g m H W σ (.ok (.exc c [d]) A) Q) (a dd : Addr) (na : H a = none) (nd : H dd = none) (ne : dd ≠ a) :
    Q (.ref a) (upd (upd H dd (.xd [(n, y)])) a (XO (g.ca c) dd a)) := by
  have na' : upd H dd (.xd [(n, y)]) a = none := by rw [upd_ne (Ne.symm ne)]; exact na
  have gr : Gr m m H (upd (upd H dd (.xd [(n, y)])) a (XO (g.ca c) dd a)) := (Gr.new nd).trans (Gr.new na')
  refine q m _ _ gr ((rh.upd nd).upd na') ?_
  refine .exc upd_same (rh.new na) ?_ (rh.new nd) (by rw [T.ef]; rfl) (.cons (dv.mono gr) .nil)
  rw [upd_ne ne, upd_same, T.ef]
  rfl
theorem je_mkx {k : Nat} {x n : Str} {c : Nat} {e : Expr} {ce : CE} {p : Pos} (T : XCls F.g c n) (hk : F.k = k + 1) (hg : Gls F.scope x) (hm : F.g.mg x = some (.ref (F.g.ca c))) (he : JE F e ce) (hdb : (x == ("__debug__" : Str)) = false := by decide)
    (hs : ∀ X : Cx, starEach [e] X.env = (false, eval e X.env) :: starEach [] X.env := by intro _; rfl) (hpl : ∀ X : Cx, (backTo pos (starEach [] X.env)).any (·.1) = false := by intro _; rfl) : JE F (.Call (.Name x p) [e] [] pos) (cMkx c ce) := by
  intro W X ok
  have hr : Room (k + 1) X.A := hk ▸ ok.room
  refine ⟨fun pins s σ H Q I h => ?_⟩
  obtain ⟨m, E, A, rh, rs, q⟩ := h
  refine wpAny_Call_Name_kw (ld_glob I (ok.gl hg) (by rw [ok.mg]; exact hm) ?_ hdb)
  have ha : PA X [e] (tCons (TEx F.g W ce) tNil) := pa_cons (he W X ok) pa_nil (hs X)
  refine PySem.W.callWith_K (h₀ := X.base) I.ok.mod.kin (by rw [ok.K]; exact T.kp) (thn (ha.run pos pins s σ H (fun vs H1 => ∃ m1 d y A1, vs = [y] ∧ RH F.g H1 m1 A1 ∧ DV F.g H1 m1 d y ∧ Po (rE F.g) F.g m1 H1 W σ (.ok (.exc c [d]) A1) Q) I ⟨m, E, A, rh, rs, Po.bind q fun m1 H1 d y A1 g1 rh1 dx q1 => ⟨m1, d, y, A1, rfl, rh1, dx, q1⟩⟩) fun us s1 ⟨vs, H1, I1, r1, m1, d, y, A1, ev, rh1, dx, q1⟩ => ⟨I1.kIn, ?_⟩) (hs X) (hpl X)
  subst ev
  obtain ⟨u, rfl, ru⟩ := Vals.one r1
  exact run_x1 (W := W) T ok.prog ok.K ok.mg hr (.inl ⟨rfl, rfl⟩) I1 ru fun a dd na nd ne => mkx_fin T rh1 dx q1 a dd na nd ne
/-- C(n = e) -/
theorem je_mkxK {k : Nat} {x n : Str} {c : Nat} {e : Expr} {ce : CE} {p kpos : Pos} (T : XCls F.g c n) (hk : F.k = k + 1) (hg : Gls F.scope x) (hm : F.g.mg x = some (.ref (F.g.ca c))) (he : JE F e ce) (hdb : (x == ("__debug__" : Str)) = false := by decide)
    (hall : ∀ X : Cx, (backToKw pos (keywordEach [⟨some n, e, kpos⟩] X.env)).all (·.1.isSome) = true := by intro _; rfl) (hks : ∀ X : Cx, (backToKw pos (keywordEach [⟨some n, e, kpos⟩] X.env)).filterMap (·.1) = [n] := by intro _; rfl)
    (hpl : ∀ X : Cx, ((backTo pos (starEach [] X.env)).any (·.1) || (backToKw pos (keywordEach [⟨some n, e, kpos⟩] X.env)).any (·.1.isNone)) = false := by intro _; rfl) : JE F (.Call (.Name x p) [] [⟨some n, e, kpos⟩] pos) (cMkx c ce) := by
  intro W X ok
  have hr : Room (k + 1) X.A := hk ▸ ok.room
  refine ⟨fun pins s σ H Q I h => ?_⟩
  obtain ⟨m, E, A, rh, rs, q⟩ := h
  refine wpAny_Call_Name_kw (ld_glob I (ok.gl hg) (by rw [ok.mg]; exact hm) ?_ hdb)
  have ha : PK X [⟨some n, e, kpos⟩] (tCons (TEx F.g W ce) tNil) := pk_cons (he W X ok) pk_nil
  refine PySem.W.callWith_KW0 (h₀ := X.base) I.ok.mod.kin (by rw [ok.K]; exact T.kp) (hall X) (thn (ha.run pos pins s σ H (fun vs H1 => ∃ m1 d y A1, vs = [y] ∧ RH F.g H1 m1 A1 ∧ DV F.g H1 m1 d y ∧ Po (rE F.g) F.g m1 H1 W σ (.ok (.exc c [d]) A1) Q) I ⟨m, E, A, rh, rs, Po.bind q fun m1 H1 d y A1 g1 rh1 dx q1 => ⟨m1, d, y, A1, rfl, rh1, dx, q1⟩⟩) fun us s1 ⟨vs, H1, I1, r1, m1, d, y, A1, ev, rh1, dx, q1⟩ => ⟨I1.kIn, ?_⟩) (hpl X)
  subst ev
  obtain ⟨u, rfl, ru⟩ := Vals.one r1
  rw [hks X]
  exact run_x1 (W := W) T ok.prog ok.K ok.mg hr (.inr ⟨rfl, rfl⟩) I1 ru fun a dd na nd ne => mkx_fin T rh1 dx q1 a dd na nd ne
end Sm

/-! Sm8: values read as the library's data: repr, ==, !=, in, isinstance of built-in types -/
namespace Sm
open PySem PySem.Spec PyProof.Rows L2

def optAll (f : D → Option PyData) : List D → Option (List PyData)
  | [] => some []
  | d :: ds => match f d, optAll f ds with
    | some p, some ps => some (p :: ps)
    | _, _ => none
/-- a value as data: lists of the abstract heap as they are -/
def toPy (A : HA) : Nat → D → Option PyData
  | 0, _ => none
  | _ + 1, .non => some .none
  | _ + 1, .bl b => some (.bool b)
  | _ + 1, .int i => some (.int i)
  | _ + 1, .str x => some (.str x)
  | n + 1, .tup ds => (optAll (toPy A n) ds).map .tuple
  | n + 1, .lst ds => (optAll (toPy A n) ds).map .list
  | _ + 1, .dct [] [] => some (.dict [])
  | n + 1, .ref a => match A[a]? with
    | some (.lst ds) => (optAll (toPy A n) ds).map .list
    | _ => none
  | _ + 1, _ => none

mutual
/-- no list within -/
def noLst : PyData → Bool
  | .none | .bool _ | .int _ | .str _ => true
  | .list _ => false
  | .tuple xs => noLstAll xs
  | .dict kvs => kvs.isEmpty
def noLstAll : List PyData → Bool
  | [] => true
  | x :: xs => noLst x && noLstAll xs
end

section
variable {g : G} {X : Cx} {pins : List (Addr × Obj)} {σ : St} {H : Hp} {s : Shared} {m : List Addr} {A : HA}
theorem vals_cons {v : V} {vs : List V} {us : List Value} (r : Vals (v :: vs) us) : ∃ u us', us = u :: us' ∧ RelV v u ∧ Vals vs us' := by
  cases r with
  | cons h t => exact ⟨_, _, rfl, h, t⟩
/-- what stands in the state reads as data -/
def RdOk (s : Shared) (d : PyData) (u : Value) : Prop := ∃ as, Reads s.heap u d as ∧ (noLst d = true → sysModules ∉ as)
def RdsOk (s : Shared) (ds : List PyData) (us : List Value) : Prop := ∃ as, ReadsAll s.heap us ds as ∧ (noLstAll ds = true → sysModules ∉ as)
theorem rds_of {f : D → Option PyData} (ih : ∀ d p v u, f d = some p → DV g H m d v → RelV v u → RdOk s p u) : ∀ (ds : List D) (ps : List PyData) (vs : List V) (us : List Value), optAll f ds = some ps → DVs g H m ds vs → Vals vs us → RdsOk s ps us
  | [], ps, vs, us, e, dv, r => by
    cases dv
    cases r
    cases e
    exact ⟨[], .nil, fun _ => by simp⟩
  | d :: ds, ps, vs, us, e, dv, r => by
    cases dv with
    | cons d1 d2 =>
    obtain ⟨u, us', rfl, r1, r2⟩ := vals_cons r
    unfold optAll at e
    split at e
    · rename_i p ps' e1 e2
      cases e
      obtain ⟨as, h1, h2⟩ := ih _ _ _ _ e1 d1 r1
      obtain ⟨bs, k1, k2⟩ := rds_of ih _ _ _ _ e2 d2 r2
      refine ⟨as ++ bs, .cons h1 k1, fun z => ?_⟩
      unfold noLstAll at z
      rw [Bool.and_eq_true] at z
      rw [List.mem_append, not_or]
      exact ⟨h2 z.1, k2 z.2⟩
    · cases e
theorem sqT_of {p : Addr} {vs : List V} (h : (H p = some (.tup vs) ∧ p ∉ m) ∨ KTup g.K p vs) : SqT g.K H p vs := SqT.gr (Gr.refl _ _).w h
theorem sqL_of {p : Addr} {vs : List V} (h : (∃ o, H p = some (.frz o (.lst vs)) ∧ p ∉ m) ∨ KLst g.K p vs) : SqL g.K H p vs := SqL.gr (Gr.refl _ _).w h
theorem rd_list (I : Inv X pins σ H s) {p : Addr} {vs : List V} (q : SqL X.K H p vs) {ps : List PyData} (k : ∀ us, Vals vs us → RdsOk s ps us) : RdOk s (.list ps) (.ref p) := by
  obtain ⟨its, r, ⟨o, n, e, h1, h2, h3⟩, z⟩ := I.list q
  obtain ⟨as, k1, k2⟩ := k its r
  exact ⟨p :: as, .list e h1 h3 (by simpa using k1), fun z => by unfold noLst at z; cases z⟩
theorem rd_tup (I : Inv X pins σ H s) {p : Addr} {vs : List V} (q : SqT X.K H p vs) {ps : List PyData} (k : ∀ us, Vals vs us → RdsOk s ps us) : RdOk s (.tuple ps) (.ref p) := by
  obtain ⟨its, r, ⟨o, e, h1, n, h3⟩, z⟩ := I.tuple q
  obtain ⟨as, k1, k2⟩ := k its r
  exact ⟨as, .tuple e h1 h3 (by simpa using k1), fun z => k2 (by unfold noLst at z; exact z)⟩
theorem rd_of (hK : X.K = g.K) (I : Inv X pins σ H s) (rh : RH g H m A) : ∀ (n : Nat) (d : D) (p : PyData) (v : V) (u : Value), toPy A n d = some p → DV g H m d v → RelV v u → RdOk s p u := by
  intro n
  induction n with
  | zero => intro d p v u e; cases e
  | succ n ih =>
    intro d p v u e dv r
    cases dv with
    | non => cases e; obtain rfl : u = _ := r; exact ⟨_, .none, fun _ => by simp⟩
    | bl b => cases e; obtain rfl : u = _ := r; exact ⟨_, .bool b, fun _ => by simp⟩
    | int i => cases e; obtain ⟨t, rfl⟩ := r; exact ⟨_, .int i t, fun _ => by simp⟩
    | str x => cases e; obtain ⟨t, rfl⟩ := r; exact ⟨_, .str x t, fun _ => by simp⟩
    | tup h hs =>
      rename_i ds vs q
      obtain rfl : u = _ := r
      obtain ⟨ps, e1, rfl⟩ := Option.map_eq_some_iff.mp (show (optAll (toPy A n) ds).map PyData.tuple = some p from e)
      exact rd_tup I (hK ▸ sqT_of h) fun us r => rds_of ih _ _ _ _ e1 hs r
    | lst h hs =>
      rename_i ds vs q
      obtain rfl : u = _ := r
      obtain ⟨ps, e1, rfl⟩ := Option.map_eq_some_iff.mp (show (optAll (toPy A n) ds).map PyData.list = some p from e)
      exact rd_list I (hK ▸ sqL_of h) fun us r => rds_of ih _ _ _ _ e1 hs r
    | dct h hl hs =>
      rename_i ks ds vs q
      obtain rfl : u = _ := r
      cases ks with
      | cons => cases ds <;> cases e
      | nil =>
        cases ds with
        | cons => cases e
        | nil =>
          cases e
          obtain ⟨o, h1, h2⟩ := h
          obtain ⟨e0, hz, hy, vs0, kv, ob, es, ep, e1, hd, hes, _, hp, _⟩ := I.hok q _ h1
          have kv0 : vs0 = [] := by cases kv; rfl
          subst kv0
          have hes0 : es.toList = [] := by
            have hp0 := hp.length
            simpa using hp0
          refine ⟨q :: [] ++ [], .dict (kvs := []) e1 hd.1 hes ?_ ?_, fun _ => ?_⟩
          · rw [hes0]; exact .nil
          · rw [hes0]; exact .nil
          · simpa using fun z : sysModules = q => absurd hy (by rw [z]; simp)
    | ref h =>
      rename_i a q
      obtain rfl : u = _ := r
      have e : (match A[a]? with | some (.lst ds) => (optAll (toPy A n) ds).map PyData.list | _ => none) = some p := e
      split at e
      · rename_i ds hd
        obtain ⟨ps, e1, rfl⟩ := Option.map_eq_some_iff.mp e
        obtain ⟨q', hq', vs, h1, h2⟩ := rh.get hd
        rw [h] at hq'; cases hq'
        exact rd_list I (SqL.of h1) fun us r => rds_of ih _ _ _ _ e1 h2 r
      · cases e
    | cls => cases e
    | fn => cases e
    | exc => cases e
    | ty => cases e
    | lam => cases e
end
theorem depthAll_le {f : D → Option PyData} {n : Nat} (ih : ∀ d p, f d = some p → p.depth ≤ n) : ∀ (ds : List D) (ps : List PyData), optAll f ds = some ps → PyData.depthAll ps ≤ n
  | [], ps, e => by cases e; simp [PyData.depthAll]
  | d :: ds, ps, e => by
    unfold optAll at e
    split at e
    · rename_i p ps' e1 e2
      cases e
      unfold PyData.depthAll
      have := ih _ _ e1
      have := depthAll_le ih _ _ e2
      omega
    · cases e
theorem toPy_depth (A : HA) : ∀ (n : Nat) (d : D) (p : PyData), toPy A n d = some p → p.depth ≤ n := by
  intro n
  induction n with
  | zero => intro d p e; cases e
  | succ n ih =>
    intro d p e
    cases d with
    | non => cases e; simp [PyData.depth]
    | bl => cases e; simp [PyData.depth]
    | int => cases e; simp [PyData.depth]
    | str => cases e; simp [PyData.depth]
    | tup ds =>
      obtain ⟨ps, e1, rfl⟩ := Option.map_eq_some_iff.mp (show (optAll (toPy A n) ds).map PyData.tuple = some p from e)
      have := depthAll_le ih _ _ e1
      unfold PyData.depth; omega
    | lst ds =>
      obtain ⟨ps, e1, rfl⟩ := Option.map_eq_some_iff.mp (show (optAll (toPy A n) ds).map PyData.list = some p from e)
      have := depthAll_le ih _ _ e1
      unfold PyData.depth; omega
    | dct ks ds =>
      cases ks with
      | cons => cases ds <;> cases e
      | nil =>
        cases ds with
        | cons => cases e
        | nil => cases e; simp [PyData.depth, PyData.depthKv]
    | ref a =>
      have e : (match A[a]? with | some (.lst ds) => (optAll (toPy A n) ds).map PyData.list | _ => none) = some p := e
      split at e
      · rename_i ds hd
        obtain ⟨ps, e1, rfl⟩ := Option.map_eq_some_iff.mp e
        have := depthAll_le ih _ _ e1
        unfold PyData.depth; omega
      · cases e
    | cls => cases e
    | fn => cases e
    | exc => cases e
    | ty => cases e
    | lam => cases e

/-! ### built-in functions of values -/
abbrev PF := List D → HA → R D
/-- a built-in function f is called with values -/
def CallF (g : G) (f : Value) (p : PF) : Prop := ∀ (F : F) (W : WX) (X : Cx), F.g = g → Ok F W X → ∀ (pins : List (Addr × Obj)) (s : Shared) (σ : St) (H : Hp) (m : List Addr) (A : HA) (ds : List D) (vs : List V) (us : List Value) (Q : VK), Inv X pins σ H s → RH g H m A → DVs g H m ds vs → Vals vs us → Po (rE g) g m H W σ (p ds A) Q →
  wpAny (model X.prog X.w) X.A (call f us) (EP X pins σ Q) X.xe s
variable {F : F} {pos : Pos}
theorem je_bfn {x : Str} {id : String} {p : PF} {e : Expr} {es : List Expr} {ca : CA} {q : Pos} (hc : CallF F.g (.builtin id) p) (hg : Gls F.scope x) (hm : F.g.mg x = none) (hv : bootBuiltins x = some (.builtin id)) (ha : JA F (e :: es) ca) (hn : x ≠ "__name__" := by decide) (hdb : (x == ("__debug__" : Str)) = false := by decide)
    (he : ∀ X : Cx, starEach (e :: es) X.env = (false, eval e X.env) :: starEach es X.env := by intro _; rfl) (hpl : ∀ X : Cx, (backTo pos (starEach es X.env)).any (·.1) = false := by intro _; rfl) : JE F (.Call (.Name x q) (e :: es) [] pos) (cCall p ca) := by
  intro W X ok
  refine ⟨fun pins s σ H Q I hq => ?_⟩
  obtain ⟨m, E, A, rh, rs, q⟩ := hq
  refine wpAny_Call_Name_kw (ld_blt I (ok.gl hg) (by rw [ok.mg]; exact hm) hv ?_ hn hdb)
  refine PyProof.Rows.callWith_builtin1 (thn ((ha W X ok).run pos pins s σ H (fun vs H1 => ∃ m1 ds A1, RH F.g H1 m1 A1 ∧ DVs F.g H1 m1 ds vs ∧ Po (rE F.g) F.g m1 H1 W σ (p ds A1) Q) I ⟨m, E, A, rh, rs, Po.bind q fun m1 H1 ds xs A1 g1 rh1 dxs q1 => ⟨m1, ds, A1, rh1, dxs, q1⟩⟩) fun us s1 ⟨vs, H1, I1, r1, m1, ds, A1, rh1, dxs, q1⟩ => ?_) (he X) (hpl X)
  exact hc F W X rfl ok pins s1 σ H1 m1 A1 ds vs us Q I1 rh1 dxs r1 q1
theorem je_tfn {x : Str} {T : String} {p : PF} {e : Expr} {es : List Expr} {ca : CA} {q : Pos} (hc : CallF F.g (.type T) p) (hg : Gls F.scope x) (hm : F.g.mg x = none) (hv : bootBuiltins x = some (.type T)) (ha : JA F (e :: es) ca) (hn : x ≠ "__name__" := by decide) (hdb : (x == ("__debug__" : Str)) = false := by decide)
    (he : ∀ X : Cx, starEach (e :: es) X.env = (false, eval e X.env) :: starEach es X.env := by intro _; rfl) (hpl : ∀ X : Cx, (backTo pos (starEach es X.env)).any (·.1) = false := by intro _; rfl) : JE F (.Call (.Name x q) (e :: es) [] pos) (cCall p ca) := by
  intro W X ok
  refine ⟨fun pins s σ H Q I hq => ?_⟩
  obtain ⟨m, E, A, rh, rs, q⟩ := hq
  refine wpAny_Call_Name_kw (ld_blt I (ok.gl hg) (by rw [ok.mg]; exact hm) hv ?_ hn hdb)
  refine PyProof.Rows.callWith_type1 (thn ((ha W X ok).run pos pins s σ H (fun vs H1 => ∃ m1 ds A1, RH F.g H1 m1 A1 ∧ DVs F.g H1 m1 ds vs ∧ Po (rE F.g) F.g m1 H1 W σ (p ds A1) Q) I ⟨m, E, A, rh, rs, Po.bind q fun m1 H1 ds xs A1 g1 rh1 dxs q1 => ⟨m1, ds, A1, rh1, dxs, q1⟩⟩) fun us s1 ⟨vs, H1, I1, r1, m1, ds, A1, rh1, dxs, q1⟩ => ?_) (he X) (hpl X)
  exact hc F W X rfl ok pins s1 σ H1 m1 A1 ds vs us Q I1 rh1 dxs r1 q1
/-- of a kit's rule -/
theorem callF_of {g : G} {f : Value} {p : PF} {r : List V → Hp → VK → Prop} (h : ∀ X : Cx, X.K = g.K → X.calm = true → CallR X f r)
    (k : ∀ (W : WX) (σ : St) (m : List Addr) (H : Hp) (A : HA) (ds : List D) (vs : List V) (Q : VK), RH g H m A → DVs g H m ds vs → Po (rE g) g m H W σ (p ds A) Q → (SzOk g.K H → r vs H Q)) : CallF g f p := by
  intro F W X e ok pins s σ H m A ds vs us Q I rh dv r q
  have hK : X.K = g.K := ok.K.trans (congrArg G.K e)
  exact h X hK ok.calm pins s σ H vs us Q I r (k W σ m H A ds vs Q rh dv q (hK ▸ Inv.szOk I))
/-- the state's heap has only grown -/
theorem inv_grown {X : Cx} {pins : List (Addr × Obj)} {σ : St} {H : Hp} {s : Shared} {h' : Heap} {t : Nat} (I : Inv X pins σ H s) (k : ∀ b o, s.heap.get? b = some o → h'.get? b = some o) : Inv X pins σ H { s with heap := h', toks := t } :=
  I.un (Un.kept k) (I.hok.kept k)

def isDisp : PyData → Bool
  | .list _ | .tuple _ | .dict _ => true
  | _ => false
def repOk1 (p : PyData) : Bool := !p.hasDict || noLst p
/-- no dict stands below a list that stands in another thing -/
def repOk : PyData → Bool
  | .list xs => xs.all repOk1
  | p => repOk1 p
/-- what stands in the state, item by item -/
inductive RdsI (s : Shared) : List PyData → List Value → Prop
  | nil : RdsI s [] []
  | cons {p : PyData} {u : Value} {ps : List PyData} {us : List Value} : RdOk s p u → RdsI s ps us → RdsI s (p :: ps) (u :: us)
theorem RdsI.reads {s : Shared} : ∀ {ps : List PyData} {us : List Value}, RdsI s ps us → ∃ as, ReadsAll s.heap us ps as
  | _, _, .nil => ⟨_, .nil⟩
  | _, _, .cons ⟨_, r, _⟩ h => let ⟨_, k⟩ := RdsI.reads h; ⟨_, .cons r k⟩
theorem rdsI_of {g : G} {H : Hp} {m : List Addr} {s : Shared} {f : D → Option PyData} (ih : ∀ d p v u, f d = some p → DV g H m d v → RelV v u → RdOk s p u) : ∀ (ds : List D) (ps : List PyData) (vs : List V) (us : List Value), optAll f ds = some ps → DVs g H m ds vs → Vals vs us → RdsI s ps us
  | [], ps, vs, us, e, dv, r => by
    cases dv
    cases r
    cases e
    exact .nil
  | d :: ds, ps, vs, us, e, dv, r => by
    cases dv with
    | cons d1 d2 =>
    obtain ⟨u, us', rfl, r1, r2⟩ := vals_cons r
    unfold optAll at e
    split at e
    · rename_i p ps' e1 e2
      cases e
      exact .cons (ih _ _ _ _ e1 d1 r1) (rdsI_of ih _ _ _ _ e2 d2 r2)
    · cases e
/-- their texts -/
theorem RdsI.texts {s : Shared} {P : Program} {w : World} : ∀ {ps : List PyData} {us : List Value}, RdsI s ps us → PyData.showableAll ps = true → ps.all repOk1 = true → (∀ t ∈ PyData.shownAll ps, t.length ≤ sizeLine) →
    ∃ bs, ReadAtMost s.heap (PyData.depthAll ps) bs ∧ ReprAllK P w bs s.heap (PyData.depthAll ps) us (PyData.shownAll ps)
  | _, _, .nil, _, _, _ => ⟨[], fun _ z => (by cases z), by rw [PyData.shownAll]; exact .nil⟩
  | p :: ps, u :: us, .cons ⟨as, r, na⟩ h, e1, e2, e3 => by
    unfold PyData.showableAll at e1
    rw [List.all_cons] at e2
    rw [Bool.and_eq_true] at e1 e2
    have m1 : p.shown ∈ PyData.shownAll (p :: ps) := by unfold PyData.shownAll; exact List.mem_cons_self
    have m2 : ∀ t ∈ PyData.shownAll ps, t ∈ PyData.shownAll (p :: ps) := fun t z => by unfold PyData.shownAll; exact List.mem_cons_of_mem _ z
    obtain ⟨b1, l1, k1⟩ := ReprK.of_reads (prog := P) (w := w) r e1.1 (fun hd => na (by
      have z := e2.1
      unfold repOk1 at z
      rw [hd] at z
      simpa using z)) (e3 _ m1)
    obtain ⟨b2, l2, k2⟩ := RdsI.texts (P := P) (w := w) h e1.2 e2.2 fun t z => e3 t (m2 t z)
    have hmax : PyData.depthAll (p :: ps) = max p.depth (PyData.depthAll ps) := by rw [PyData.depthAll]
    refine ⟨b1 ++ b2, fun b hb => ?_, ?_⟩
    · rw [hmax]
      rcases List.mem_append.mp hb with z | z
      · obtain ⟨d', as', r', q⟩ := l1 b z
        exact ⟨d', as', r', by omega⟩
      · obtain ⟨d', as', r', q⟩ := l2 b z
        exact ⟨d', as', r', by omega⟩
    · rw [hmax, show PyData.shownAll (p :: ps) = p.shown :: PyData.shownAll ps by rw [PyData.shownAll]]
      exact ReprAllK.cons (ReprK.level_le (ReprK.more k1 fun b z => List.mem_append_left _ z) (by omega)) (ReprAllK.more_le (fun b z => List.mem_append_right _ z) (by omega) k2)
/-- repr of a list whose items stand so -/
theorem repr_lst {P : Program} {w : World} {A : Around} {E : Value → Shared → Prop} {s : Shared} {Q : Value → Shared → Prop} {p : Addr} {o : Obj} {its : Array Value} {n : Nat} {ps : List PyData} (e : s.heap.get? p = some o) (h1 : o.cls = .type "list") (h2 : o.data = .seq its n) (R : RdsI s ps its.toList)
    (hs : (PyData.list ps).showable = true) (hk : ps.all repOk1 = true) (hz : (PyData.list ps).shown.length ≤ sizeLine) (hg : A.guards = some []) (hu : A.units + ((PyData.list ps).depth + 1) < cLine)
    (q : ∀ h' u tk, (∀ b o, s.heap.get? b = some o → h'.get? b = some o) → Q (.str (PyData.list ps).shown u) { s with heap := h', toks := tk }) : wpAny (model P w) A (call (.builtin "repr") [.ref p]) Q E s := by
  have sh : (PyData.list ps).shown = listText (PyData.shownAll ps) := by rw [PyData.shown]
  have dp : (PyData.list ps).depth = PyData.depthAll ps + 1 := by rw [PyData.depth]
  rw [sh] at q hz
  rw [dp] at hu
  have hs : PyData.showableAll ps = true := by rw [PyData.showable] at hs; exact hs
  obtain ⟨bs, lb, kb⟩ := RdsI.texts (P := P) (w := w) R hs hk fun t ht => Nat.le_trans (listText_mem_le ht) hz
  obtain ⟨as, ra⟩ := R.reads
  have rp : Reads s.heap (.ref p) (.list ps) (p :: as) := .list e h1 h2 ra
  have np : p ∉ bs := not_mem_of_deeper rp (by rw [dp]; omega) lb
  refine call_repr_slot (T := "list") (by omega) ⟨o, e, h1⟩ (PySem.F.slot_list_repr.toG) ?_
  obtain ⟨l⟩ := its
  cases l with
  | nil =>
    cases ra
    have e0 : PyData.shownAll [] = [] := by rw [PyData.shownAll]
    rw [e0, listText_nil] at q
    exact call_list_repr_empty ⟨o, e, h1⟩ e h2 ⟨_, _, rfl, q s.heap _ _ fun _ _ z => z⟩
  | cons x l =>
    exact call_list_reprK (A := A.in1) e h1 h2 np (by rw [kb.length_eq]; rfl) (fun i y z => kb.item i y (by simpa using z)) hg (fun b _ => Clear.nil b) (by show A.units + 1 + (PyData.depthAll ps + 1) < cLine; omega) (fun _ _ z => z) (fun h' u tk k => ⟨_, _, rfl, q h' u tk k⟩) hz
theorem toPy_list {g : G} {X : Cx} {pins : List (Addr × Obj)} {σ : St} {H : Hp} {s : Shared} {m : List Addr} {A : HA} (hK : X.K = g.K) (I : Inv X pins σ H s) (rh : RH g H m A) {n : Nat} {d : D} {ps : List PyData} {v : V} {u : Value} (e : toPy A (n + 1) d = some (.list ps)) (dv : DV g H m d v) (ru : RelV v u) :
    ∃ p o its k, u = .ref p ∧ s.heap.get? p = some o ∧ o.cls = .type "list" ∧ o.data = .seq its k ∧ RdsI s ps its.toList := by
  have fin : ∀ {q : Addr} {ds : List D} {vs : List V}, SqL X.K H q vs → DVs g H m ds vs → optAll (toPy A n) ds = some ps → ∃ p o its k, (Value.ref q) = .ref p ∧ s.heap.get? p = some o ∧ o.cls = .type "list" ∧ o.data = .seq its k ∧ RdsI s ps its.toList := by
    intro q ds vs sq hs e1
    obtain ⟨its, r, ⟨o, k, e, h1, h2, h3⟩, z⟩ := I.list sq
    exact ⟨q, o, its.toArray, k, rfl, e, h1, h3, rdsI_of (rd_of hK I rh n) _ _ _ _ e1 hs (by simpa using r)⟩
  cases dv with
  | lst h hs =>
    obtain rfl : u = _ := ru
    rename_i ds vs q
    obtain ⟨ps', e1, e2⟩ := Option.map_eq_some_iff.mp (show (optAll (toPy A n) ds).map PyData.list = some (.list ps) from e)
    cases e2
    exact fin (hK ▸ sqL_of h) hs e1
  | ref h =>
    rename_i a q
    obtain rfl : u = _ := ru
    have e : (match A[a]? with | some (.lst ds) => (optAll (toPy A n) ds).map PyData.list | _ => none) = some (.list ps) := e
    split at e
    · rename_i ds hd
      obtain ⟨ps', e1, e2⟩ := Option.map_eq_some_iff.mp e
      cases e2
      obtain ⟨q', hq', vs, h1, h2⟩ := rh.get hd
      rw [h] at hq'; cases hq'
      exact fin (SqL.of h1) h2 e1
    · cases e
  | dct h hl hs =>
    rename_i ks ds vs q
    cases ks with
    | cons => cases ds <;> cases e
    | nil =>
      cases ds with
      | cons => cases e
      | nil => cases e
  | tup h hs =>
    rename_i ds vs q
    obtain ⟨ps', e1, e2⟩ := Option.map_eq_some_iff.mp (show (optAll (toPy A n) ds).map PyData.tuple = some (.list ps) from e)
    cases e2
  | non => cases e
  | bl => cases e
  | int => cases e
  | str => cases e
  | cls => cases e
  | fn => cases e
  | exc => cases e
  | ty => cases e
  | lam => cases e
def pRepr : PF := fun ds A => match ds with
  | [d] => match toPy A 60 d with
    | some p => if p.showable = true ∧ p.shown.length ≤ sizeLine ∧ repOk p = true then .ok (.str p.shown) A else .no
    | none => .no
  | _ => .no
theorem vals_one {v : V} {us : List Value} (r : Vals [v] us) : ∃ u, us = [u] ∧ RelV v u := by
  obtain ⟨u, us', rfl, h, t⟩ := vals_cons r
  cases t
  exact ⟨u, rfl, h⟩
theorem callF_repr {g : G} : CallF g (.builtin "repr") pRepr := by
  intro F W X e ok pins s σ H m A ds vs us Q I rh dv r q
  have hK : X.K = g.K := ok.K.trans (congrArg G.K e)
  unfold pRepr at q
  split at q
  · rename_i d
    obtain ⟨v, rfl, dv1⟩ := dv.one
    obtain ⟨u, rfl, ru⟩ := vals_one r
    split at q
    · rename_i p hp
      split at q
      · rename_i hc
        obtain ⟨as, rd, hs⟩ := rd_of hK I rh 60 d p v u hp dv1 ru
        have hdep := toPy_depth A 60 d p hp
        have hun : X.A.units + (p.depth + 1) < cLine := by have := ok.room.un; omega
        have key : noLst p = true ∨ p.hasDict = false → ∀ a, u = .ref a → wpAny (model X.prog X.w) X.A (call (.builtin "repr") [.ref a]) (EP X pins σ Q) X.xe s := fun hz a ea => by
          subst ea
          exact repr_of_reads' rd hc.1 (fun z => hz.elim (fun y => hs y) fun y => by rw [y] at z; cases z) ok.gd hun (fun _ _ e => e) (fun h' u tk k => ⟨.str p.shown, H, inv_grown I k, ⟨u, rfl⟩, Po.ok q rh (.str _)⟩) hc.2.1
        have one : repOk1 p = true → noLst p = true ∨ p.hasDict = false := fun z => by
          unfold repOk1 at z
          simpa [or_comm] using z
        have fin : ∀ t tk, EP X pins σ Q (.str p.shown t) { s with toks := tk } := fun t tk => ⟨.str p.shown, H, I.tok tk, ⟨t, rfl⟩, Po.ok q rh (.str _)⟩
        cases rd with
        | none => exact PySem.P.repr_of_none (fin _ _)
        | bool b => exact PySem.P.repr_of_bool (fin _ _)
        | int i t =>
          have h1 : i.natAbs.log2 < 1920 := by
            have z := hc.1
            unfold PyData.showable at z
            exact of_decide_eq_true z
          exact PySem.P.repr_of_int h1 (fin _ _)
        | str x t => exact PySem.P.repr_of_str (fin _ _) hc.2.1
        | list =>
          rename_i ps _ _ _ _ _
          obtain ⟨q', o', its, k', e1, e2, e3, e4, e5⟩ := toPy_list hK I rh hp dv1 ru
          cases e1
          exact repr_lst e2 e3 e4 e5 hc.1 hc.2.2 hc.2.1 ok.gd hun fun h' u tk k => ⟨.str _, H, inv_grown I k, ⟨u, rfl⟩, Po.ok q rh (.str _)⟩
        | tuple => exact key (one hc.2.2) _ rfl
        | dict => exact key (one hc.2.2) _ rfl
      · exact q.elim
    · exact q.elim
  · exact q.elim
/-! ### == and != of data -/
def pEqD : P2 := fun d e A => match toPy A 60 d, toPy A 60 e with
  | some p, some q => if p.plain = true ∧ q.plain = true then .ok (.bl (PyData.eqv p q)) A else .no
  | _, _ => .no
def pNeD : P2 := fun d e A => match toPy A 60 d, toPy A 60 e with
  | some p, some q => if p.plain = true ∧ q.plain = true then .ok (.bl (!PyData.eqv p q)) A else .no
  | _, _ => .no
/-- an operation, with all that is known at hand -/
def OpF (g : G) (f : Value → Value → Sem Value) (p : P2) : Prop := ∀ (F : Sm.F) (W : WX) (X : Cx), F.g = g → Ok F W X → ∀ (pins : List (Addr × Obj)) (s : Shared) (σ : St) (H : Hp) (m : List Addr) (A : HA) (d e : D) (x y : V) (v u : Value) (Q : VK), Inv X pins σ H s → RH g H m A → DV g H m d x → DV g H m e y → RelV x v → RelV y u →
  Po (rE g) g m H W σ (p d e A) Q → wpAny (model X.prog X.w) X.A (f v u) (EP X pins σ Q) X.xe s
theorem opF_of {g : G} {f : Value → Value → Sem Value} {p : P2} {r : R2} (h : ∀ X : Cx, X.K = g.K → X.calm = true → (∀ k, Room k X.A → OpR X f r)) (hp : Op2 g r p) : OpF g f p := by
  intro F W X e ok pins s σ H m A d e' x y v u Q I rh dx dy rx ry q
  exact h X (ok.K.trans (congrArg G.K e)) ok.calm F.k ok.room pins s σ H x y v u Q I rx ry (hp W σ m H A d e' x y Q rh dx dy q)
section
variable {a b c : Expr} {ca cb cc : CE} {p p' : P2}
/-- what is wanted of two operands -/
def rF (g : G) (W : WX) (σ : St) (p : P2) : R2 := fun x y H Q => ∃ m A d e, RH g H m A ∧ DV g H m d x ∧ DV g H m e y ∧ Po (rE g) g m H W σ (p d e A) Q
theorem rF_of {g : G} {W : WX} {σ : St} {H : Hp} {Q : VK} (h : TEx g W (c2 p ca cb) σ H Q) : tOp (rF g W σ p) (TEx g W ca) (TEx g W cb) σ H Q := by
  obtain ⟨m, E, A, rh, rs, q⟩ := h
  exact ⟨m, E, A, rh, rs, Po.bind q fun m1 H1 d x A1 g1 rh1 dx q1 => ⟨m1, E, A1, rh1, rs.mono g1, Po.bind q1 fun m2 H2 e y A2 g2 rh2 dy q2 => ⟨m2, A2, d, e, rh2, dx.mono g2, dy, q2⟩⟩⟩
theorem je_opF {op : Operator} (ho : OpF F.g (binaryOp op) p) (ja : JE F a ca) (jb : JE F b cb) : JE F (.BinOp a op b pos) (c2 p ca cb) := by
  intro W X ok
  refine ⟨fun pins s σ H Q I h => ?_⟩
  exact wpAny_BinOp (binT (ja W X ok) (jb W X ok) I (rF_of h) fun v u s2 x y H2 I2 rx ry ⟨m, A, d, e, rh, dx, dy, q⟩ => ho F W X rfl ok pins s2 σ H2 m A d e x y v u Q I2 rh dx dy rx ry q)
theorem je_cmpF {op : CmpOp} (ho : OpF F.g (compareOp op) p) (ja : JE F a ca) (jb : JE F b cb) (hm : behindInMarks op b = false := by first | exact nobehind _ (by decide) (by decide) | rfl) : JE F (.Compare a [op] [b] pos) (c2 p ca cb) := by
  intro W X ok
  refine ⟨fun pins s σ H Q I h => ?_⟩
  exact wpAny_Compare1 (binT (ja W X ok) (jb W X ok) I (rF_of h) fun v u s2 x y H2 I2 rx ry ⟨m, A, d, e, rh, dx, dy, q⟩ => ho F W X rfl ok pins s2 σ H2 m A d e x y v u Q I2 rh dx dy rx ry q) hm
end
theorem opF_eqD {g : G} : OpF g (compareOp .Eq) pEqD := by
  intro F W X e ok pins s σ H m A d e' x y v u Q I rh dx dy rx ry q
  have hK : X.K = g.K := ok.K.trans (congrArg G.K e)
  unfold pEqD at q
  split at q
  · rename_i p p' hp hp'
    split at q
    · rename_i hc
      obtain ⟨as, rd, _⟩ := rd_of hK I rh 60 d p x v hp dx rx
      obtain ⟨bs, rd', _⟩ := rd_of hK I rh 60 e' p' y u hp' dy ry
      have h1 := toPy_depth A 60 d p hp
      exact SeqAt.eq_plain rd rd' hc.1 hc.2 (by have := ok.room.un; omega) ⟨.bl _, H, I, rfl, Po.ok q rh (.bl _)⟩
    · exact q.elim
  · exact q.elim
theorem opF_neD {g : G} : OpF g (compareOp .NotEq) pNeD := by
  intro F W X e ok pins s σ H m A d e' x y v u Q I rh dx dy rx ry q
  have hK : X.K = g.K := ok.K.trans (congrArg G.K e)
  unfold pNeD at q
  split at q
  · rename_i p p' hp hp'
    split at q
    · rename_i hc
      obtain ⟨as, rd, _⟩ := rd_of hK I rh 60 d p x v hp dx rx
      obtain ⟨bs, rd', _⟩ := rd_of hK I rh 60 e' p' y u hp' dy ry
      have h1 := toPy_depth A 60 d p hp
      exact SeqAt.ne_plain rd rd' hc.1 hc.2 (by have := ok.room.un; omega) ⟨.bl _, H, I, rfl, Po.ok q rh (.bl _)⟩
    · exact q.elim
  · exact q.elim
/-! ### x in c -/
def itemsPy : PyData → Option (List PyData)
  | .list xs => some xs
  | .tuple xs => some xs
  | _ => none
def pIn (neg : Bool) : P2 := fun d e A => match toPy A 60 d, (toPy A 60 e).bind itemsPy with
  | some p, some qs => if p.plain = true ∧ PyData.plainAll qs = true then .ok (.bl (xor neg (qs.any fun y => PyData.eqv y p))) A else .no
  | _, _ => .no
theorem opF_in {g : G} : OpF g (compareOp .In) (pIn false) := by
  intro F W X e ok pins s σ H m A d e' x y v u Q I rh dx dy rx ry q
  have hK : X.K = g.K := ok.K.trans (congrArg G.K e)
  unfold pIn at q
  split at q
  · rename_i p qs hp hq
    split at q
    · rename_i hc
      obtain ⟨c, hc', hi⟩ := Option.bind_eq_some_iff.mp hq
      obtain ⟨as, rd, _⟩ := rd_of hK I rh 60 d p x v hp dx rx
      obtain ⟨bs, rd', _⟩ := rd_of hK I rh 60 e' c y u hc' dy ry
      have h1 := toPy_depth A 60 d p hp
      have q1 := Po.ok q rh (.bl _)
      rw [Bool.false_xor] at q1
      cases c with
      | list xs => cases hi; exact SeqAt.in_list_data rd' rd hc.2 hc.1 (by have := ok.room.un; omega) ⟨.bl _, H, I, rfl, q1⟩
      | tuple xs => cases hi; exact SeqAt.in_tuple_data rd' rd hc.2 hc.1 (by have := ok.room.un; omega) ⟨.bl _, H, I, rfl, q1⟩
      | _ => cases hi
    · exact q.elim
  · exact q.elim
theorem opF_notIn {g : G} : OpF g (compareOp .NotIn) (pIn true) := by
  intro F W X e ok pins s σ H m A d e' x y v u Q I rh dx dy rx ry q
  have hK : X.K = g.K := ok.K.trans (congrArg G.K e)
  unfold pIn at q
  split at q
  · rename_i p qs hp hq
    split at q
    · rename_i hc
      obtain ⟨c, hc', hi⟩ := Option.bind_eq_some_iff.mp hq
      obtain ⟨as, rd, _⟩ := rd_of hK I rh 60 d p x v hp dx rx
      obtain ⟨bs, rd', _⟩ := rd_of hK I rh 60 e' c y u hc' dy ry
      have h1 := toPy_depth A 60 d p hp
      have q1 := Po.ok q rh (.bl _)
      rw [Bool.true_xor] at q1
      cases c with
      | list xs => cases hi; exact SeqAt.notIn_list_data rd' rd hc.2 hc.1 (by have := ok.room.un; omega) ⟨.bl _, H, I, rfl, q1⟩
      | tuple xs => cases hi; exact SeqAt.notIn_tuple_data rd' rd hc.2 hc.1 (by have := ok.room.un; omega) ⟨.bl _, H, I, rfl, q1⟩
      | _ => cases hi
    · exact q.elim
  · exact q.elim
end Sm

/-! Sm9: arithmetic, +, subscripts, stores, dicts, methods, isinstance, fields of exceptions, enumerate -/
namespace Sm
open PySem PySem.Spec PyProof.Rows L2
variable {F : F} {pos : Pos}

/-! ### ints -/
theorem opF_I {g : G} {f : Value → Value → Sem Value} {C : Int → Int → Prop} {fn : Int → Int → Int} {okb : Int → Int → Bool} (h : ∀ X : Cx, OpR X f (L2.rI C fun i j => .int (fn i j))) (hc : ∀ i j, okb i j = true → C i j) : OpF g f (pI fn okb) := opF_of (fun X _ _ _ _ => h X) (op2_I hc)
theorem opF_I0 {g : G} {f : Value → Value → Sem Value} {fn : Int → Int → Int} (h : ∀ X : Cx, OpR X f (rI0 fun i j => .int (fn i j))) : OpF g f (pI fn fun _ _ => true) := opF_of (fun X _ _ _ _ => h X) op2_I0
theorem opF_IB {g : G} {f : Value → Value → Sem Value} {fn : Int → Int → Bool} (h : ∀ X : Cx, OpR X f (rI0 fun i j => .bl (fn i j))) : OpF g f (pIB fn) := opF_of (fun X _ _ _ _ => h X) op2_IB
def small64 (i : Int) : Bool := decide (-(2 ^ 64) < i) && decide (i < 2 ^ 64)
abbrev pSub : P2 := pI (fun i j => i - j) fun _ _ => true
abbrev pMul : P2 := pI (fun i j => i * j) fun i j => small64 i || small64 j
abbrev pFdiv : P2 := pI (fun i j => i / j) fun _ j => decide (0 < j) && decide (j < 1073741824)
abbrev pMod : P2 := pI (fun i j => i % j) fun _ j => decide (0 < j)
abbrev pPow : P2 := pI (fun i j => i ^ j.toNat) fun i j => decide (0 ≤ j) && decide (j ≤ 1000000) && decide (i.natAbs < 2 ^ 64)
abbrev pLt : P2 := pIB fun i j => decide (i < j)
abbrev pLe : P2 := pIB fun i j => decide (i ≤ j)
abbrev pGt : P2 := pIB fun i j => decide (j < i)
abbrev pGe : P2 := pIB fun i j => decide (j ≤ i)
theorem opF_sub {g : G} : OpF g (binaryOp .Sub) pSub := opF_I0 fun X => op_sub
theorem opF_mul {g : G} : OpF g (binaryOp .Mult) pMul := opF_I (fun X => op_mul) fun i j h => by
  unfold small64 at h
  simp only [Bool.or_eq_true, Bool.and_eq_true, decide_eq_true_eq] at h
  exact h
theorem opF_fdiv {g : G} : OpF g (binaryOp .FloorDiv) pFdiv := opF_I (fun X => op_fdiv) fun i j h => by
  simp only [Bool.and_eq_true, decide_eq_true_eq] at h
  exact h
theorem opF_mod {g : G} : OpF g (binaryOp .Mod) pMod := opF_I (fun X => op_mod) fun i j h => of_decide_eq_true h
theorem opF_pow {g : G} : OpF g (binaryOp .Pow) pPow := opF_I (fun X => op_pow) fun i j h => by
  simp only [Bool.and_eq_true, decide_eq_true_eq] at h
  exact ⟨h.1.1, h.1.2, h.2⟩
theorem opF_lt {g : G} : OpF g (compareOp .Lt) pLt := opF_IB fun X => op_lt
theorem opF_le {g : G} : OpF g (compareOp .LtE) pLe := opF_IB fun X => op_le
theorem opF_gt {g : G} : OpF g (compareOp .Gt) pGt := opF_IB fun X => op_gt
theorem opF_ge {g : G} : OpF g (compareOp .GtE) pGe := opF_IB fun X => op_ge
/-! ### + -/
/-- a list's items, frozen or of the abstract heap -/
def listOf (A : HA) : D → Option (List D)
  | .lst ds => some ds
  | .ref a => match A[a]? with
    | some (.lst ds) => some ds
    | _ => none
  | _ => none
theorem listOf_rel {g : G} {H : Hp} {m : List Addr} {A : HA} {d : D} {v : V} {ds : List D} (rh : RH g H m A) (r : DV g H m d v) (h : listOf A d = some ds) : ∃ p vs, v = .ref p ∧ SqL g.K H p vs ∧ DVs g H m ds vs := by
  unfold listOf at h
  split at h
  · cases h
    cases r with
    | lst h hs => exact ⟨_, _, rfl, sqL_of h, hs⟩
  · split at h
    · rename_i hd
      cases h
      cases r with
      | ref hp =>
        obtain ⟨q, hq, vs, h1, h2⟩ := rh.get hd
        rw [hp] at hq; cases hq
        exact ⟨_, vs, rfl, SqL.of h1, h2⟩
    · cases h
  · cases h
def pAdd : P2 := fun d e A => match d, e with
  | .int i, .int j => .ok (.int (i + j)) A
  | .str x, .str y => if x.length + y.length ≤ sizeLine then .ok (.str (x ++ y)) A else .no
  | .tup xs, .tup ys => if xs.length + ys.length ≤ sizeLine then .ok (.tup (xs ++ ys)) A else .no
  | _, _ => .no
theorem opF_add {g : G} : OpF g (binaryOp .Add) pAdd := by
  intro F W X e ok pins s σ H m A d e' x y v u Q I rh dx dy rx ry q
  have hK : X.K = g.K := ok.K.trans (congrArg G.K e)
  unfold pAdd at q
  split at q
  · have := dx.int_inv; subst this
    have := dy.int_inv; subst this
    exact op_add pins s σ H _ _ v u Q I rx ry ⟨_, _, rfl, rfl, Po.ok q rh (.int _)⟩
  · split at q
    · rename_i hz
      have := dx.str_inv; subst this
      have := dy.str_inv; subst this
      exact op_add_str pins s σ H _ _ v u Q I rx ry ⟨_, _, rfl, rfl, hz, Po.ok q rh (.str _)⟩
    · exact q.elim
  · split at q
    · rename_i xs ys hz
      cases dx with
      | tup h1 k1 =>
      rename_i vs p
      cases dy with
      | tup h2 k2 =>
      rename_i ws r
      refine op_catA pins s σ H _ _ v u Q I rx ry ⟨p, r, vs, ws, rfl, rfl, hK ▸ sqT_of h1, hK ▸ sqT_of h2, by rw [← k1.length, ← k2.length]; exact hz, fun e => ?_, fun _ e => ?_, fun _ _ t ht => ?_⟩
      · subst e
        cases k1
        exact Po.ok q rh (.tup h2 k2)
      · subst e
        cases k2
        rw [List.append_nil] at q
        exact Po.ok q rh (.tup h1 k1)
      · have gr : Gr m m H (upd H t (.tup (vs ++ ws))) := Gr.new ht
        exact Po.ok' q gr (rh.upd ht) (.tup (.inl ⟨upd_same, rh.new ht⟩) ((k1.append k2).mono gr))
    · exact q.elim
  · exact q.elim
theorem add_pl {X : Cx} {pins : List (Addr × Obj)} {σ : St} {H : Hp} {s : Shared} {Q : VK} {l b : Addr} {xs ys : List V} (I : Inv X pins σ H s) (hl : SqL X.K H l xs) (hb : SqL X.K H b ys) (hz : xs.length + ys.length ≤ sizeLine)
    (h : ∀ p, H p = none → Q (.ref p) (upd H p (.lst (xs ++ ys)))) : wpAny (model X.prog X.w) X.A (binaryOp .Add (.ref l) (.ref b)) (EP X pins σ Q) X.xe s := by
  obtain ⟨its, r, ⟨⟨c1, d1, dt1, sl1⟩, n1, e1, h1, h2, h3⟩, z1⟩ := I.list hl
  obtain ⟨its2, r2, ⟨⟨c2, d2, dt2, sl2⟩, n2, e2, k1, k2, k3⟩, z2⟩ := I.list hb
  simp only at h1 h2 h3 k1 k2 k3
  subst h1 h2 h3 k1 k2 k3
  have ea : its.toArray ++ its2.toArray = (its ++ its2).toArray := by simp
  have hsz : its.toArray.size + its2.toArray.size ≤ sizeLine := by rw [List.size_toArray, List.size_toArray, ← r.length, ← r2.length]; exact hz
  refine concat_meets ⟨_, e1, rfl⟩ ⟨_, e2, rfl⟩ noFill_list_add seq_list_add PySem.F.slot_list_add PySem.F.entry_list_add (PySem.F.args_list_add_2 _ _) (PyProof.Rows.list_addW l b its.toArray its2.toArray n1 n2 none none sl1 sl2 hsz) ⟨e1, e2, ?_⟩
  rw [ea]
  exact ⟨.ref _, _, I.lnew (t' := s.toks) (r.append r2) (by rw [List.length_append]; omega), rfl, h _ I.fresh⟩
/-- list + list: the new list is never changed / is changed later -/
def pCat (hot : Bool) : P2 := fun d e A => match listOf A d, listOf A e with
  | some xs, some ys => if xs.length + ys.length ≤ sizeLine then (if hot = true then .ok (.ref A.length) (A ++ [.lst (xs ++ ys)]) else .ok (.lst (xs ++ ys)) A) else .no
  | _, _ => .no
end Sm

/-! Sm10: list + list, subscripts, stores, dicts, methods -/
namespace Sm
open PySem PySem.Spec PyProof.Rows L2
variable {F : F} {pos : Pos}

theorem ep_frz {X : Cx} {pins : List (Addr × Obj)} {σ : St} {Q : VK} {M : Sem Value} {s : Shared} (h : wpAny (model X.prog X.w) X.A M (EP X pins σ fun v H' => ∃ p xs, v = .ref p ∧ H' p = some (.lst xs) ∧ ∀ o, Q v (upd H' p (.frz o (.lst xs)))) X.xe s) :
    wpAny (model X.prog X.w) X.A M (EP X pins σ Q) X.xe s := thn h fun u s' ⟨v, H', I', r, p, xs, e1, e2, k⟩ => by
  obtain ⟨od, I2⟩ := I'.lock e2 trivial
  exact ⟨v, _, I2, r, k od⟩
theorem opF_cat {g : G} {hot : Bool} : OpF g (binaryOp .Add) (pCat hot) := by
  intro F W X e ok pins s σ H m A d e' x y v u Q I rh dx dy rx ry q
  have hK : X.K = g.K := ok.K.trans (congrArg G.K e)
  unfold pCat at q
  split at q
  · rename_i ds es hd he
    split at q
    · rename_i hz
      obtain ⟨p, vs, rfl, s1, r1⟩ := listOf_rel rh dx hd
      obtain ⟨p', ws, rfl, s2, r2⟩ := listOf_rel rh dy he
      obtain rfl : v = .ref p := rx
      obtain rfl : u = .ref p' := ry
      have hz' : vs.length + ws.length ≤ sizeLine := by rw [← r1.length, ← r2.length]; exact hz
      cases hot with
      | true =>
        simp only [if_true] at q
        refine add_pl I (hK ▸ s1) (hK ▸ s2) hz' fun t ht => ?_
        have gr : Gr m (m ++ [t]) H (upd H t (.lst (vs ++ ws))) := Gr.push ht
        refine Po.ok' q gr (rh.push ht ⟨_, upd_same, (r1.append r2).mono gr⟩) (.ref ?_)
        rw [← rh.len]; simp
      | false =>
        simp only [Bool.false_eq_true, if_false] at q
        refine ep_frz (add_pl I (hK ▸ s1) (hK ▸ s2) hz' fun t ht => ⟨t, _, rfl, upd_same, fun o => ?_⟩)
        rw [upd_upd]
        have gr : Gr m m H (upd H t (.frz o (.lst (vs ++ ws)))) := Gr.new ht
        exact Po.ok' q gr (rh.upd ht) (.lst (.inl ⟨o, upd_same, rh.new ht⟩) ((r1.append r2).mono gr))
    · exact q.elim
  · exact q.elim
/-! ### a[b] -/
def lookD (kvs : List (D × D)) (k : Key) : Option D := match kvs with
  | [] => none
  | p :: r => if toKey p.1 = some k then some p.2 else lookD r k
def putD (kvs : List (D × D)) (k : Key) (kd v : D) : List (D × D) :=
  if (kvs.any fun p => decide (toKey p.1 = some k)) = true then kvs.map (fun p => if toKey p.1 = some k then (p.1, v) else p) else kvs ++ [(kd, v)]
section
variable {g : G} {H H' : Hp} {m : List Addr} {kvs : List (D × D)} {ks : List (Key × V)} {k : Key} {d : D}
theorem lookD_rel (r : KVR g H m kvs ks) (h : lookD kvs k = some d) : ∃ v, valV ks k = some v ∧ DV g H m d v := by
  unfold KVR at r
  induction r with
  | nil => cases h
  | @cons p q l l' h1 t ih =>
    unfold lookD at h
    by_cases e : q.1 = k
    · rw [if_pos (by rw [h1.1, e])] at h
      cases h
      exact ⟨q.2, valV_pos e, h1.2⟩
    · rw [if_neg (by rw [h1.1]; simpa using e)] at h
      obtain ⟨v, h2, h3⟩ := ih h
      exact ⟨v, by rw [valV_neg e]; exact h2, h3⟩
theorem lookD_none (r : KVR g H m kvs ks) (h : lookD kvs k = none) : valV ks k = none := by
  unfold KVR at r
  induction r with
  | nil => rfl
  | @cons p q l l' h1 t ih =>
    unfold lookD at h
    by_cases e : q.1 = k
    · rw [if_pos (by rw [h1.1, e])] at h
      cases h
    · rw [if_neg (by rw [h1.1]; simpa using e)] at h
      rw [valV_neg e]
      exact ih h
theorem anyD_rel (r : KVR g H m kvs ks) : (kvs.any fun p => decide (toKey p.1 = some k)) = ks.any fun kv => decide (kv.1 = k) := by
  unfold KVR at r
  induction r with
  | nil => rfl
  | @cons p q l l' h1 t ih =>
    rw [List.any_cons, List.any_cons, ih, h1.1]
    congr 1
    simp
theorem putD_rel {kd dv : D} {v : V} (r : KVR g H m kvs ks) (hk : toKey kd = some k) (dd : DV g H m dv v) : KVR g H m (putD kvs k kd dv) (putK ks k v) := by
  unfold putD putK
  rw [anyD_rel r]
  split
  · have : ∀ {l : List (D × D)} {l' : List (Key × V)}, KVR g H m l l' → KVR g H m (l.map fun p => if toKey p.1 = some k then (p.1, dv) else p) (l'.map fun kv => if kv.1 = k then (kv.1, v) else kv) := by
      intro l l' h
      unfold KVR at h ⊢
      induction h with
      | nil => exact .nil
      | @cons p q a b h1 t ih =>
        refine .cons ?_ ih
        show toKey (if toKey p.1 = some k then (p.1, dv) else p).1 = some (if q.1 = k then (q.1, v) else q).1 ∧ DV g H m (if toKey p.1 = some k then (p.1, dv) else p).2 (if q.1 = k then (q.1, v) else q).2
        by_cases e : q.1 = k
        · rw [if_pos (by rw [h1.1, e]), if_pos e]
          exact ⟨h1.1, dd⟩
        · rw [if_neg (by rw [h1.1]; simpa using e), if_neg e]
          exact h1
    exact this r
  · exact Paired.snocR r ⟨hk, dd⟩
end
theorem toKey_rel {g : G} {H : Hp} {m : List Addr} {d : D} {k : Key} {v : V} (h : toKey d = some k) (r : DV g H m d v) : v = kV k := by
  unfold toKey at h
  split at h
  · cases h; exact r.int_inv
  · cases h; exact r.str_inv
  · cases h
/-- a key's value in a dict -/
def dgetOf (A : HA) : D → Key → Option (Option D)
  | .ref a, k => match A[a]? with
    | some (.dct _ kvs) => some (lookD kvs k)
    | _ => none
  | _, _ => none
def pIxD : P2 := fun d e A => match toKey e with
  | some k => match dgetOf A d k with
    | some (some x) => .ok x A
    | _ => .no
  | none => .no
def ODV (g : G) (H : Hp) (m : List Addr) : Option D → Option V → Prop
  | some d', some v => DV g H m d' v
  | none, none => True
  | _, _ => False
theorem dget_rel {g : G} {H : Hp} {m : List Addr} {A : HA} {d e : D} {x y : V} {k : Key} {o : Option D} (rh : RH g H m A) (dx : DV g H m d x) (dy : DV g H m e y) (hk : toKey e = some k) (h : dgetOf A d k = some o) :
    ∃ a vo, x = .ref a ∧ DGet H a y vo ∧ ODV g H m o vo := by
  have ey := toKey_rel hk dy
  subst ey
  cases dx with
  | ref hp =>
    rename_i a0 q
    have h : (match A[a0]? with | some (.dct _ kvs) => some (lookD kvs k) | _ => none) = some o := h
    split at h
    · rename_i lk kvs hd
      cases h
      obtain ⟨q', hq, r⟩ := rh.get hd
      rw [hp] at hq; cases hq
      have fin : ∀ ks, Rd H q (.dK ks) → KVR g H m kvs ks → ∃ a vo, V.ref q = .ref a ∧ DGet H a (kV k) vo ∧ ODV g H m (lookD kvs k) vo := by
        intro ks e r
        cases hl : lookD kvs k with
        | none => exact ⟨q, none, rfl, .inl ⟨ks, k, e, rfl, (lookD_none r hl).symm⟩, True.intro⟩
        | some d' =>
          obtain ⟨v, h1, h2⟩ := lookD_rel r hl
          exact ⟨q, some v, rfl, .inl ⟨ks, k, e, rfl, h1.symm⟩, h2⟩
      cases lk with
      | false => obtain ⟨ks, h1, r⟩ := r; exact fin ks (.inl h1) r
      | true => obtain ⟨ob, ks, h1, r⟩ := r; exact fin ks (.inr ⟨ob, h1⟩) r
    · cases h
  | _ => cases h
theorem ix_dict {X : Cx} (hu : X.A.units + 1 < cLine) : IxR X (fun x y H Q => ∃ a v, x = .ref a ∧ DGet H a y (some v) ∧ Q v H) := by
  intro value slice pins s σ H x y v u Q I rx ry h hs
  obtain ⟨a, r, rfl, g, q⟩ := h
  obtain rfl : v = Value.ref a := rx
  exact PyProof.Rows.tail_any (dict_typeIs I g) PySem.F.slot_dict_getitem.lookup (d_getItem hu I g ry fun w' s3 I3 rw' => ⟨r, H, I3, rw', q⟩) hs
/-- one sign of a text -/
def pIxS : P2 := fun d e A => match d, e with
  | .str z, .int i => if z.length ≤ sizeLine then match atI z.cps.toList i with
    | some c => .ok (.str ⟨#[c]⟩) A
    | none => .no else .no
  | _, _ => .no
/-- d[e] -/
def pGet : P2 := fun d e A => match d with
  | .str _ => pIxS d e A
  | .ref a => match A[a]? with
    | some (.dct _ _) => pIxD d e A
    | _ => pIx d e A
  | _ => pIx d e A
theorem je_get {a b : Expr} {ca cb : CE} (ja : JE F a ca) (jb : JE F b cb) (hs : PlainIx b := by intro _ _; rfl) : JE F (.Subscript a b pos) (c2 pGet ca cb) := by
  intro W X ok
  have hu : X.A.units + 1 < cLine := by have := ok.room.un; omega
  refine PE.imp (pe_ix (IxR.or ix_seq (ix_dict hu)) (ja W X ok) (jb W X ok) hs) ?_
  rw [ok.K]
  refine fun σ H Q h => ?_
  obtain ⟨m, E, A, rh, rs, q⟩ := h
  refine ⟨m, E, A, rh, rs, Po.bind q fun m1 H1 d x A1 g1 rh1 dx q1 => ⟨m1, E, A1, rh1, rs.mono g1, Po.bind q1 fun m2 H2 e y A2 g2 rh2 dy q2 => ?_⟩⟩
  have dx2 := dx.mono g2
  have seq : Po (rE F.g) F.g m2 H2 W σ (pIx d e A2) Q → rIx F.g.K x y H2 Q := fun q => op2_ix W σ m2 H2 A2 d e x y Q rh2 dx2 dy q
  unfold pGet at q2
  split at q2
  · rename_i z
    unfold pIxS at q2
    split at q2
    · rename_i z' i e1
      cases e1
      split at q2
      · rename_i hz
        split at q2
        · rename_i c hc
          have := dx2.str_inv; subst this
          have := dy.int_inv; subst this
          exact .inl (.inr (.inr ⟨z, i, c, rfl, rfl, hz, hc, Po.ok q2 rh2 (.str _)⟩))
        · exact q2.elim
      · exact q2.elim
    · exact q2.elim
  · split at q2
    · unfold pIxD at q2
      split at q2
      · rename_i k hk
        split at q2
        · rename_i r hr
          obtain ⟨a, vo, rfl, g, z⟩ := dget_rel rh2 dx2 dy hk hr
          cases vo with
          | none => exact z.elim
          | some v => exact .inr ⟨a, v, rfl, g, Po.ok q2 rh2 z⟩
        · exact q2.elim
      · exact q2.elim
    · exact .inl (seq q2)
  · exact .inl (seq q2)
/-! ### a[b] = v -/
def gPut (co ci : CE) : CG := fun v E A => match co E A with
  | .ok o A1 => match ci E A1 with
    | .ok i A2 => match o with
      | .ref a => match A2[a]? with
        | some (.lst ds) => match i with
          | .int k => match ixN ds.length k with
            | some j => .nx E (A2.set a (.lst (ds.set j v)))
            | none => .no
          | _ => .no
        | some (.dct false kvs) => match toKey i with
          | some k => if kvs.length < sizeLine then .nx E (A2.set a (.dct false (putD kvs k i v))) else .no
          | none => .no
        | _ => .no
      | _ => .no
    | _ => .no
  | _ => .no
def rSetLD : TSet := fun o i v H Q => rSetL o i v H Q ∨ rSetD o i v H Q
theorem set_ld {X : Cx} (hu : X.A.units + 1 < cLine) : PSet X rSetLD := by
  intro pins s σ H o i v ov iv u Q I ro ri rv h
  rcases h with h | h
  · exact set_list pins s σ H o i v ov iv u Q I ro ri rv h
  · exact set_dict hu pins s σ H o i v ov iv u Q I ro ri rv h
theorem jg_put {o i : Expr} {co ci : CE} {vs : List Nat} (ho : JE F o co) (hi : JE F i ci)
    (ha : ∀ (X : Cx) v, assign (.Subscript o i pos) X.env v = (do
      let ov ← holding [v] (eval o X.env)
      let iv ← holding [v, ov] (eval i X.env)
      standAt pos
      holding [v, ov, iv] (setItem ov iv v)
      release [v, ov, iv] []) := by intro _ _; rfl) : JG F vs (.Subscript o i pos) (gPut co ci) := by
  intro W X ok fc
  have hu : X.A.units + 1 < cLine := by have := ok.room.un; omega
  refine PG.imp (pg_sub (ho W X ok) (hi W X ok) (set_ld hu) (ha X)) ?_
  rintro v σ H Q ⟨m, E, A, d, rh, rs, dv, q⟩
  unfold gPut at q
  cases hc : co E A with
  | exc => simp only [hc] at q; exact q.elim
  | no => simp only [hc] at q; exact q.elim
  | ok od A1 =>
    simp only [hc] at q
    refine ⟨m, E, A, rh, rs, ?_⟩
    rw [hc]
    intro m1 x H1 g1 rh1 dx
    cases hc2 : ci E A1 with
    | exc => simp only [hc2] at q; exact q.elim
    | no => simp only [hc2] at q; exact q.elim
    | ok idd A2 =>
      simp only [hc2] at q
      refine ⟨m1, E, A1, rh1, rs.mono g1, ?_⟩
      rw [hc2]
      intro m2 y H2 g2 rh2 dy
      have g12 := g1.trans g2
      have dx2 := dx.mono g2
      split at q
      · rename_i a
        obtain ⟨p, rfl, hp⟩ := dx2.ref_inv
        split at q
        · rename_i ds hd
          obtain ⟨p', hp', us, h1, h2⟩ := rh2.get hd
          rw [hp] at hp'; cases hp'
          split at q
          · rename_i k
            split at q
            · rename_i j hj
              have ey := DV.int_inv dy; subst ey
              refine .inl ⟨p, us, k, j, rfl, rfl, h1, by rw [← h2.length]; exact hj, ?_⟩
              have gr : Gr m2 m2 H2 (upd H2 p (.lst (us.set j v))) := Gr.chg hp ⟨_, h1, by simp⟩
              exact q m2 σ _ (g12.trans gr) (rh2.set hp ⟨_, h1⟩ ⟨_, upd_same, DVs.set (dv.mono (g12.trans gr)) j (h2.mono gr)⟩) (rs.mono (g12.trans gr)) rfl
            · exact q.elim
          · exact q.elim
        · rename_i kvs hd
          obtain ⟨p', hp', ks, h1, r⟩ := rh2.get hd
          rw [hp] at hp'; cases hp'
          split at q
          · rename_i k hk
            split at q
            · rename_i hz
              have ey := toKey_rel hk dy
              subst ey
              have gr : Gr m2 m2 H2 (upd H2 p (.dK (putK ks k v))) := Gr.chg hp ⟨_, h1, by simp⟩
              refine .inr ⟨p, _, rfl, .inl ⟨ks, k, h1, rfl, by rw [← Paired.length r]; exact hz, rfl⟩, ?_⟩
              exact q m2 σ _ (g12.trans gr) (rh2.set hp ⟨_, h1⟩ ⟨_, upd_same, putD_rel (Paired.mapR r fun _ _ z => ⟨z.1, z.2.mono gr⟩) hk (dv.mono (g12.trans gr))⟩) (rs.mono (g12.trans gr)) rfl
            · exact q.elim
          · exact q.elim
        · exact q.elim
      · exact q.elim
end Sm

/-! Sm11: comprehensions that give lists that change, `name = [..]`, dict displays, methods, len, int, isinstance, fields of exceptions, enumerate -/
namespace Sm
open PySem PySem.Spec PyProof.Rows L2
variable {F : F} {pos : Pos}

/-! ### an object becomes one of the abstract heap's -/
def HotO : HO → Prop
  | .lst _ => True
  | .dK _ => True
  | .dT _ => True
  | .ins _ _ _ => True
  | _ => False
section
variable {g : G} {H : Hp} {m : List Addr} {p : Addr} {u : HO}
theorem out_more (h0 : H p = some u) (hu : HotO u) {q : Addr} {o : HO} (h : H q = some o) (ho : ¬ HotO o) (hm : q ∉ m) : q ∉ m ++ [p] := by
  rw [List.mem_append, not_or]
  refine ⟨hm, fun e => ?_⟩
  simp at e
  subst e
  rw [h0] at h; cases h
  exact ho hu
theorem CellsV.more (h0 : H p = some u) (hu : HotO u) {cl : List (Str × Addr)} : ∀ {xs : List Str} {vs : List V}, CellsV H m cl xs vs → CellsV H (m ++ [p]) cl xs vs
  | _, _, .nil => .nil
  | _, _, .cons h1 h2 h3 h4 h5 h6 => .cons h1 h2 (out_more h0 hu h2 id h3) h4 h5 (CellsV.more h0 hu h6)
theorem CellsQ.more (h0 : H p = some u) (hu : HotO u) {cl : List (Str × Addr)} {xs : List Str} {vs : List V} (h : CellsQ H m cl xs vs) : CellsQ H (m ++ [p]) cl xs vs := ⟨h.ok, h.v.more h0 hu⟩
mutual
theorem DV.more (h0 : H p = some u) (hu : HotO u) : ∀ {d : D} {v : V}, DV g H m d v → DV g H (m ++ [p]) d v
  | _, _, .non => .non
  | _, _, .bl b => .bl b
  | _, _, .int i => .int i
  | _, _, .str x => .str x
  | _, _, .ty n => .ty n
  | _, _, .tup h hs => .tup (h.imp (fun h => ⟨h.1, out_more h0 hu h.1 id h.2⟩) id) (DVs.more h0 hu hs)
  | _, _, .lst h hs => .lst (h.imp (fun h => let ⟨o', h1, h2⟩ := h; ⟨o', h1, out_more h0 hu h1 id h2⟩) id) (DVs.more h0 hu hs)
  | _, _, .dct h hl hs => .dct (let ⟨o', h1, h2⟩ := h; ⟨o', h1, out_more h0 hu h1 id h2⟩) hl (DVs.more h0 hu hs)
  | _, _, .ref h => .ref (by rw [List.getElem?_append_left (List.getElem?_eq_some_iff.mp h).1]; exact h)
  | _, _, .cls c => .cls c
  | _, _, .fn f => .fn f
  | _, _, .exc h1 h2 h3 h4 h6 h5 => .exc h1 (out_more h0 hu h1 id h2) h3 (out_more h0 hu h3 id h4) h6 (DVs.more h0 hu h5)
  | _, _, .lam h1 h2 h3 h4 h5 h6 => .lam h1 (out_more h0 hu h1 id h2) h3 (out_more h0 hu h3 id h4) (h5.more h0 hu) (DVs.more h0 hu h6)
theorem DVs.more (h0 : H p = some u) (hu : HotO u) : ∀ {ds : List D} {vs : List V}, DVs g H m ds vs → DVs g H (m ++ [p]) ds vs
  | _, _, .nil => .nil
  | _, _, .cons h hs => .cons (DV.more h0 hu h) (DVs.more h0 hu hs)
end
theorem AOR.more (h0 : H p = some u) (hu : HotO u) {a : AO} {q : Addr} (h : AOR g H m a q) : AOR g H (m ++ [p]) a q := by
  cases a with
  | lst ds => obtain ⟨vs, h1, h2⟩ := h; exact ⟨vs, h1, h2.more h0 hu⟩
  | dct lk kvs =>
    have k1 : ∀ ks, KVR g H m kvs ks → KVR g H (m ++ [p]) kvs ks := fun ks r => Paired.mapR r fun _ _ z => ⟨z.1, z.2.more h0 hu⟩
    cases lk with
    | false => obtain ⟨ks, h1, h2⟩ := h; exact ⟨ks, h1, k1 _ h2⟩
    | true => obtain ⟨o, ks, h1, h2⟩ := h; exact ⟨o, ks, h1, k1 _ h2⟩
  | dtt lk kvs =>
    have k1 : ∀ ks, KTR g H m kvs ks → KTR g H (m ++ [p]) kvs ks := fun ks r => Paired.mapR r fun _ _ z => ⟨z.1, z.2.more h0 hu⟩
    cases lk with
    | false => obtain ⟨ks, h1, h2⟩ := h; exact ⟨ks, h1, k1 _ h2⟩
    | true => obtain ⟨o, ks, h1, h2⟩ := h; exact ⟨o, ks, h1, k1 _ h2⟩
  | ins c fs => obtain ⟨dx, us, h1, h2⟩ := h; exact ⟨dx, us, h1, Paired.mapR h2 fun _ _ z => ⟨z.1, z.2.more h0 hu⟩⟩
theorem RH.more {A : HA} {o : AO} (h0 : H p = some u) (hu : HotO u) (hm : p ∉ m) (h : RH g H m A) (ho : AOR g H (m ++ [p]) o p) : RH g H (m ++ [p]) (A ++ [o]) := by
  refine ⟨?_, Paired.snocR (Paired.mapR h.at_ fun q a r => r.more h0 hu) ho, h.tb, fun q hq => ?_⟩
  rotate_left
  · obtain ⟨ps, e1, _⟩ := h.tb q hq
    exact out_more h0 hu e1 id (h.tbm q hq)
  rw [List.nodup_append]
  refine ⟨h.nd, by simp, fun a ha b hb e => ?_⟩
  simp at hb
  subst hb
  subst e
  exact hm ha
theorem Gr.more {m0 : List Addr} {H0 : Hp} (a : Gr m0 m H0 H) (hp : H0 p = none) : Gr m0 (m ++ [p]) H0 H := by
  obtain ⟨n, rfl, f⟩ := a.ext
  refine ⟨⟨n ++ [p], by simp, fun q hq => ?_⟩, a.keepN, a.tbl, a.non⟩
  rcases List.mem_append.mp hq with h | h
  · exact f q h
  · simp at h; subst h; exact hp
theorem RH.at_new {A : HA} {o : AO} (h : RH g H (m ++ [p]) (A ++ [o])) : (m ++ [p])[A.length]? = some p := by
  have e := Paired.length h.at_
  simp only [List.length_append, List.length_singleton] at e
  have e : m.length = A.length := by omega
  rw [← e]
  simp
end
/-! ### comprehensions -/
def cLcH (vs : List Nat) (ci : CI) (cg : CG) (ct : CB) (ce : CE) : CE := fun E A => (cLcI vs ci cg ct ce E A).bind fun ds A1 => .ok (.ref A1.length) (A1 ++ [.lst ds])
theorem lc_hot {g : G} {m m1 : List Addr} {H H1 : Hp} {A1 : HA} {ds : List D} {D : Addr} {acc : List V} {W : WX} {σ : St} {Q : VK} (g1 : Gr m m1 H H1) (hD : H D = none) (rh1 : RH g H1 m1 A1) (hD1 : H1 D = some (.lst acc)) (hm1 : D ∉ m1) (dv : DVs g H1 m1 ds acc)
    (q : Po (rE g) g m H W σ (.ok (.ref A1.length) (A1 ++ [.lst ds])) Q) : Q (.ref D) H1 := by
  have rh2 := RH.more (o := .lst ds) hD1 (u := .lst acc) True.intro hm1 rh1 ⟨acc, hD1, dv.more hD1 (u := .lst acc) True.intro⟩
  exact Po.ok' q (g1.more hD) rh2 (.ref rh2.at_new)
theorem je_lcH {elt tg iter : Expr} {ifs : List Expr} {scope : Scope} {own : List (Str × Nat)} {cl : List Str} {ci : CI} {cg : CG} {ct : CB} {ce : CE} (hi : JI F tg iter ci) (hok : blkC F.N F.scope scope own = true) (hcl : (cl.all fun x => scope.names.lookup x == some .cell) = true)
    (hg : JG (F.blk scope cl) (own.map (·.2)) tg cg) (ht : JTs (F.blk scope cl) ifs ct) (he : JE (F.blk scope cl) elt ce) (hs : ∀ (X : Cx) x, foldedSetIterable iter X.env x = pure x := by intro _ _; rfl) :
    JE F (.ListComp elt [⟨tg, iter, ifs, 0⟩] scope pos) (cLcH (own.map (·.2)) ci cg ct ce) := by
  intro W X ok
  have fc : ∀ (s : Shared) (H : Hp) (C : Addr) (cs : List (Str × Addr)) (fp : List Addr), FnC (F.blk scope cl) (X.blk s H scope (compEnvC scope cs C X.env) fp) := fun _ _ _ _ _ => .inr fun x hx => List.all_eq_true.mp hcl x hx
  refine PE.imp (pe_lc ok.calm (by rw [ok.N]; exact ok.nd) (PI.sz (hi W X ok)) (blkOk_by (by rw [ok.N, ok.sc]; exact hok)) (fun s H C cs fp => hg W0 _ ok.blk (fc s H C cs fp)) (fun s H C cs fp => ht W0 _ ok.blk) (fun s H C cs fp => he W0 _ ok.blk) (hs X)) ?_
  intro σ H Q h
  exact lc_read (Q := Q) ok.K h fun m m1 H H1 ds A1 D acc g1 hD rh1 hD1 hm1 dv q => lc_hot g1 hD rh1 hD1 hm1 dv q
theorem PS.frz {X : Cx} {st : Stmt} {t : TS} (h : PS X st t) : PS X st (fun D σ H => t { D with nx := fun σ' H' => ∃ p xs, H' p = some (.lst xs) ∧ ∀ o, D.nx σ' (upd H' p (.frz o (.lst xs))) } σ H) := by
  refine ⟨fun pins s σ H D I q => thn (h.run pins s σ H _ I q) fun f s' hs => ?_⟩
  cases f with
  | next =>
    obtain ⟨σ', H', I', p, xs, e2, k⟩ := hs
    obtain ⟨od, I2⟩ := I'.lock e2 trivial
    exact ⟨σ', _, I2, k od⟩
  | brk => exact hs
  | cont => exact hs
  | ret u => exact hs
/-- name = [..], never changed -/
theorem js_setLc {i : Nat} {y : Str} {py : Pos} {elt tg iter : Expr} {ifs : List Expr} {scope : Scope} {own : List (Str × Nat)} {cl : List Str} {ci : CI} {cg : CG} {ct : CB} {ce : CE} {spos : Pos} (hy : F.N[i]? = some y) (hyl : F.scope.names.lookup y = some .local)
    (hi : JI F tg iter ci) (hok : blkC F.N F.scope scope own = true) (hcl : (cl.all fun x => scope.names.lookup x == some .cell) = true)
    (hg : JG (F.blk scope cl) (own.map (·.2)) tg cg) (ht : JTs (F.blk scope cl) ifs ct) (he : JE (F.blk scope cl) elt ce) (hk : F.scope.kind = .function) (hl : (py.line == pos.line) = true) (ha : (scope.names.any fun (n, k) => n == y && (k == .local || k == .cell)) = false)
    (hs : ∀ (X : Cx) x, foldedSetIterable iter X.env x = pure x := by intro _ _; rfl) :
    JS' F (.Assign [.Name y py] (.ListComp elt [⟨tg, iter, ifs, 0⟩] scope pos) spos) (cSet i (cLc (own.map (·.2)) ci cg ct ce)) := by
  intro W X ok
  have fc : ∀ (s : Shared) (H : Hp) (C : Addr) (cs : List (Str × Addr)) (fp : List Addr), FnC (F.blk scope cl) (X.blk s H scope (compEnvC scope cs C X.env) fp) := fun _ _ _ _ _ => .inr fun x hx => List.all_eq_true.mp hcl x hx
  refine PS.imp (PS.frz (ps_setLc ok.calm (by rw [ok.N]; exact ok.nd) (by rw [ok.N]; exact hy) (by rw [ok.sc]; exact hyl) (sw_true (by rw [ok.sc]; exact hk) (by rw [ok.sc]; exact hyl) hl ha) (PI.sz (hi W X ok.toOk)) (blkOk_by (by rw [ok.N, ok.sc]; exact hok)) (fun s H C cs fp => hg W0 _ ok.toOk.blk (fc s H C cs fp)) (fun s H C cs fp => ht W0 _ ok.toOk.blk) (fun s H C cs fp => he W0 _ ok.toOk.blk) (hs X))) ?_
  intro D σ H h
  obtain ⟨m, E, A, rh, rs, q⟩ := h
  -- an assignment's end as a value's
  have key : Tx (rE F.g) F.g W (fun E A => (cLcI (own.map (·.2)) ci cg ct ce E A).bind fun ds A1 => .ok (.lst ds) A1) σ H (fun v H' => D.nx (σ.set i (some v)) H') := by
    refine ⟨m, E, A, rh, rs, ?_⟩
    have q : PoS F.g m H W (RSt.of (cLc (own.map (·.2)) ci cg ct ce E A) E fun d A1 => .nx (E.set i (some d)) A1) D := q
    have e : cLc (own.map (·.2)) ci cg ct ce E A = (cLcI (own.map (·.2)) ci cg ct ce E A).bind fun ds A1 => .ok (.lst ds) A1 := rfl
    rw [e] at q
    exact PoS.bind rs q fun m1 H1 d x A1 g1 rh1 dx q1 => q1.nx rh1 ((rs.mono g1).set i dx)
  refine lc_read (Q := fun v H' => ∃ p xs, H' p = some (.lst xs) ∧ ∀ o, D.nx (σ.set i (some v)) (upd H' p (.frz o (.lst xs)))) ok.K key fun m m1 H H1 ds A1 D0 acc g1 hD rh1 hD1 hm1 dv q => ⟨D0, acc, hD1, fun o => ?_⟩
  have z := Po.ok' (b := V.ref D0) (Q := fun v H' => D.nx (List.set σ i (some v)) H') q (Gr.chgOut (o := .frz o (.lst acc)) g1 hD) (rh1.chgOut ⟨_, hD1⟩ hm1) (DV.lst (.inl ⟨o, upd_same, hm1⟩) (dv.chg ⟨_, hD1⟩))
  exact z
theorem js_setLcH {i : Nat} {y : Str} {py : Pos} {elt tg iter : Expr} {ifs : List Expr} {scope : Scope} {own : List (Str × Nat)} {cl : List Str} {ci : CI} {cg : CG} {ct : CB} {ce : CE} {spos : Pos} (hy : F.N[i]? = some y) (hyl : F.scope.names.lookup y = some .local)
    (hi : JI F tg iter ci) (hok : blkC F.N F.scope scope own = true) (hcl : (cl.all fun x => scope.names.lookup x == some .cell) = true)
    (hg : JG (F.blk scope cl) (own.map (·.2)) tg cg) (ht : JTs (F.blk scope cl) ifs ct) (he : JE (F.blk scope cl) elt ce) (hk : F.scope.kind = .function) (hl : (py.line == pos.line) = true) (ha : (scope.names.any fun (n, k) => n == y && (k == .local || k == .cell)) = false)
    (hs : ∀ (X : Cx) x, foldedSetIterable iter X.env x = pure x := by intro _ _; rfl) :
    JS' F (.Assign [.Name y py] (.ListComp elt [⟨tg, iter, ifs, 0⟩] scope pos) spos) (cSet i (cLcH (own.map (·.2)) ci cg ct ce)) := by
  intro W X ok
  have fc : ∀ (s : Shared) (H : Hp) (C : Addr) (cs : List (Str × Addr)) (fp : List Addr), FnC (F.blk scope cl) (X.blk s H scope (compEnvC scope cs C X.env) fp) := fun _ _ _ _ _ => .inr fun x hx => List.all_eq_true.mp hcl x hx
  refine PS.imp (ps_setLc ok.calm (by rw [ok.N]; exact ok.nd) (by rw [ok.N]; exact hy) (by rw [ok.sc]; exact hyl) (sw_true (by rw [ok.sc]; exact hk) (by rw [ok.sc]; exact hyl) hl ha) (PI.sz (hi W X ok.toOk)) (blkOk_by (by rw [ok.N, ok.sc]; exact hok)) (fun s H C cs fp => hg W0 _ ok.toOk.blk (fc s H C cs fp)) (fun s H C cs fp => ht W0 _ ok.toOk.blk) (fun s H C cs fp => he W0 _ ok.toOk.blk) (hs X)) ?_
  intro D σ H h
  obtain ⟨m, E, A, rh, rs, q⟩ := h
  have key : Tx (rE F.g) F.g W (fun E A => (cLcI (own.map (·.2)) ci cg ct ce E A).bind fun ds A1 => .ok (.ref A1.length) (A1 ++ [.lst ds])) σ H (fun v H' => D.nx (σ.set i (some v)) H') := by
    refine ⟨m, E, A, rh, rs, ?_⟩
    have q : PoS F.g m H W (RSt.of (cLcH (own.map (·.2)) ci cg ct ce E A) E fun d A1 => .nx (E.set i (some d)) A1) D := q
    have e : cLcH (own.map (·.2)) ci cg ct ce E A = (cLcI (own.map (·.2)) ci cg ct ce E A).bind fun ds A1 => .ok (.ref A1.length) (A1 ++ [.lst ds]) := rfl
    rw [e] at q
    exact PoS.bind rs q fun m1 H1 d x A1 g1 rh1 dx q1 => q1.nx rh1 ((rs.mono g1).set i dx)
  exact lc_read (Q := fun v H' => D.nx (σ.set i (some v)) H') ok.K key fun m m1 H H1 ds A1 D0 acc g1 hD rh1 hD1 hm1 dv q => lc_hot g1 hD rh1 hD1 hm1 dv q
/-! ### methods of built-in objects -/
abbrev PM := D → List D → HA → Option (D × HA)
def PoO (g : G) (m : List Addr) (H : Hp) (o : Option (D × HA)) (Q : VK) : Prop := match o with
  | some (d, h) => ∀ m' b H', Gr m m' H H' → RH g H' m' h → DV g H' m' d b → Q b H'
  | none => False
def rOf (o : Option (D × HA)) : R D := match o with
  | some (d, h) => .ok d h
  | none => .no
theorem PoO.of {g : G} {m : List Addr} {H : Hp} {o : Option (D × HA)} {W : WX} {σ : St} {Q : VK} (h : Po (rE g) g m H W σ (rOf o) Q) : PoO g m H o Q := by
  cases o with
  | none => exact h
  | some p => exact h
def MtF (g : G) (T : String) (id : String) (p : PM) : Prop := ∀ (X : Cx), X.K = g.K → X.prog = g.prog → X.w = g.w → X.calm = true → X.A.units + 200 < cLine → ∀ (pins : List (Addr × Obj)) (s : Shared) (σ : St) (H : Hp) (m : List Addr) (A : HA) (d : D) (ds : List D) (x : V) (xs : List V) (v : Value) (us : List Value) (Q : VK),
  Inv X pins σ H s → RH g H m A → DV g H m d x → DVs g H m ds xs → RelV x v → Vals xs us → PoO g m H (p d ds A) Q → wpAny (model X.prog X.w) X.A (call (.builtin id) (v :: us)) (EP X pins σ Q) X.xe s
/-- d is of the built-in type T -/
def isT (T : String) (A : HA) (d : D) : Bool := match d with
  | .str _ => T == "str"
  | .lst _ => T == "list"
  | .ref a => match A[a]? with
    | some (.lst _) => T == "list"
    | some (.dct false _) => T == "dict"
    | some (.dtt false _) => T == "dict"
    | _ => false
  | _ => false
theorem isT_rel {g : G} {H : Hp} {m : List Addr} {A : HA} {d : D} {v : V} {T : String} (rh : RH g H m A) (r : DV g H m d v) (h : isT T A d = true) : tyV g.K T v H := by
  cases r with
  | str x => exact beq_iff_eq.mp h
  | lst h1 h2 => exact .inl ⟨beq_iff_eq.mp h, _, sqL_of h1⟩
  | ref hp =>
    rename_i a p
    have h : (match A[a]? with
      | some (.lst _) => T == "list"
      | some (.dct false _) => T == "dict"
      | some (.dtt false _) => T == "dict"
      | _ => false) = true := h
    split at h
    · rename_i hd
      obtain ⟨q, hq, vs, h1, h2⟩ := rh.get hd
      rw [hp] at hq; cases hq
      exact .inl ⟨beq_iff_eq.mp h, vs, SqL.of h1⟩
    · rename_i hd
      obtain ⟨q, hq, ks, h1, h2⟩ := rh.get hd
      rw [hp] at hq; cases hq
      exact .inr (.inr (.inl ⟨beq_iff_eq.mp h, .inl ⟨ks, h1⟩⟩))
    · rename_i hd
      obtain ⟨q, hq, ks, h1, h2⟩ := rh.get hd
      rw [hp] at hq; cases hq
      exact .inr (.inr (.inl ⟨beq_iff_eq.mp h, .inr ⟨ks, h1⟩⟩))
    · cases h
  | _ => cases h
def cMeth (T : String) (p : PM) (co : CE) (ca : CA) : CE := fun E A => (co E A).bind fun d A1 => if isT T A1 d = true then (ca E A1).bind fun ds A2 => rOf (p d ds A2) else .no
theorem je_meth {T id : String} {name : Str} {o e : Expr} {es : List Expr} {co : CE} {ca : CA} {p : PM} {apos : Pos} (hm : MtF F.g T id p) (pa : PlainAttrs T) (slot : Slot T name id) (hty : typeOf (.builtin id) = pure (.type "method_descriptor")) (ho : JE F o co) (ha : JA F (e :: es) ca)
    (hbase : ∀ X : Cx, attributeBase o name X.env (eval o X.env) = eval o X.env := by intro _; rfl)
    (hfew : ∀ X : Cx, ((backTo pos (starEach (e :: es) X.env)).all (fun x => !x.1) && (backToKw pos (keywordEach [] X.env)).all (fun x => x.1.isSome)
      && decide ((e :: es).length + ([] : List Keyword).length + (if ([] : List Keyword).isEmpty then 0 else 1) < 30)) = true := by intro _; rfl)
    (hline : (apos.endLine == pos.line) = true := by rfl) (hs : ∀ X : Cx, starEach (e :: es) X.env = (false, eval e X.env) :: starEach es X.env := by intro _; rfl) (hplain : ∀ X : Cx, (backTo pos (starEach es X.env)).any (·.1) = false := by intro _; rfl) :
    JE F (.Call (.Attribute o name apos) (e :: es) [] pos) (cMeth T p co ca) := by
  intro W X ok
  refine ⟨fun pins s σ H Q I h => ?_⟩
  obtain ⟨m, E, A, rh, rs, q⟩ := h
  refine wpAny_Call_method_late (hbase X) (hfew X) hline rfl (thn ((ho W X ok).run pins s σ H (fun x H1 => ∃ m1 d A1, RH F.g H1 m1 A1 ∧ RS F.g H1 m1 E σ ∧ DV F.g H1 m1 d x ∧ Po (rE F.g) F.g m1 H1 W σ (if isT T A1 d = true then (ca E A1).bind fun ds A2 => rOf (p d ds A2) else .no) Q) I
    ⟨m, E, A, rh, rs, Po.bind q fun m1 H1 d x A1 g1 rh1 dx q1 => ⟨m1, d, A1, rh1, rs.mono g1, dx, q1⟩⟩) fun v s1 ⟨x, H1, I1, r1, m1, d, A1, rh1, rs1, dx, q1⟩ => ?_)
  split at q1
  · rename_i hT
    have ty : tyV X.K T x H1 := by rw [ok.K]; exact isT_rel rh1 dx hT
    obtain ⟨h1, h2⟩ := tyV_is I1 r1 ty
    refine ⟨T, id, pa, slot, hty, h1, h2, ?_⟩
    have hA := (ha W X ok).run pos pins s1 σ H1 (fun xs H2 => ∃ m2 ds A2, Gr m1 m2 H1 H2 ∧ RH F.g H2 m2 A2 ∧ DVs F.g H2 m2 ds xs ∧ PoO F.g m2 H2 (p d ds A2) Q) I1 ⟨m1, E, A1, rh1, rs1, ?_⟩
    · rw [hs X] at hA ⊢
      refine Calls.callWith_builtin (by show (false || (backTo pos (starEach es X.env)).any (·.1)) = false; rw [hplain X] <;> rfl) (Calls.evalArgs_plain ?_)
      exact thn hA fun us s2 ⟨xs, H2, I2, r2, m2, ds, A2, g2, rh2, dxs, q2⟩ => hm X ok.K ok.prog ok.w ok.calm (by have := ok.room.un; omega) pins s2 σ H2 m2 A2 d ds x xs v us Q I2 rh2 (dx.mono g2) dxs r1 r2 q2
    · have hb : ∀ (r : R (List D)) (q : Po (rE F.g) F.g m1 H1 W σ (r.bind fun ds A2 => rOf (p d ds A2)) Q), Po (rA F.g) F.g m1 H1 W σ r (fun xs H2 => ∃ m2 ds A2, Gr m1 m2 H1 H2 ∧ RH F.g H2 m2 A2 ∧ DVs F.g H2 m2 ds xs ∧ PoO F.g m2 H2 (p d ds A2) Q) := fun r q =>
        Po.bind q fun m2 H2 ds xs A2 g2 rh2 dxs q2 => ⟨m2, ds, A2, g2, rh2, dxs, PoO.of q2⟩
      exact hb _ q1
  · exact q1.elim
end Sm

/-! Sm12: append, dict displays, len, int, isinstance, fields of exceptions, enumerate, is None -/
namespace Sm
open PySem PySem.Spec PyProof.Rows L2
variable {F : F} {pos : Pos}
/-! ### append, extend -/
def pAppend : PM := fun d ds A => match d, ds with
  | .ref a, [v] => match A[a]? with
    | some (.lst xs) => if xs.length < sizeLine then some (.non, A.set a (.lst (xs ++ [v]))) else none
    | _ => none
  | _, _ => none
theorem mtF_append {g : G} : MtF g "list" "list.append" pAppend := by
  intro X hK hp hw hc hu pins s σ H m A d ds x xs v us Q I rh dx dxs rx rxs q
  unfold pAppend at q
  split at q
  · rename_i a e
    obtain ⟨p, rfl, hp'⟩ := dx.ref_inv
    obtain ⟨y, rfl, dy⟩ := dxs.one
    split at q
    · rename_i zs hd
      obtain ⟨p', hq, vs, h1, h2⟩ := rh.get hd
      rw [hp'] at hq; cases hq
      split at q
      · rename_i hz
        refine mt_append pins s σ H _ _ v us Q I rx rxs ⟨p, vs, y, rfl, rfl, h1, by rw [← h2.length]; exact hz, ?_⟩
        have gr : Gr m m H (upd H p (.lst (vs ++ [y]))) := Gr.chg hp' ⟨_, h1, by simp⟩
        exact q m .non _ gr (rh.set hp' ⟨_, h1⟩ ⟨_, upd_same, (h2.mono gr).append (.cons (dy.mono gr) .nil)⟩) .non
      · exact q.elim
    · exact q.elim
  · exact q.elim
/-! ### len, int, is None -/
def lenOf (A : HA) : D → Option Int
  | .str x => if x.length ≤ sizeLine then some x.length else none
  | .tup ds => some ds.length
  | d => (listOf A d).map fun ds => (ds.length : Int)
def pLen : PF := fun ds A => match ds with
  | [d] => match lenOf A d with
    | some n => .ok (.int n) A
    | none => .no
  | _ => .no
theorem callF_len {g : G} : CallF g (.builtin "len") pLen := by
  refine callF_of (fun X hK _ => hK ▸ call_len) ?_
  intro W σ m H A ds vs Q rh dv q sz
  unfold pLen at q
  split at q
  · rename_i d
    obtain ⟨v, rfl, dv1⟩ := dv.one
    split at q
    · rename_i n hn
      have q1 := Po.ok (b := V.int n) q rh (.int _)
      unfold lenOf at hn
      split at hn
      · rename_i x
        split at hn
        · rename_i hz
          cases hn
          have := dv1.str_inv; subst this
          exact ⟨_, x.length, rfl, ⟨hz, rfl⟩, q1⟩
        · cases hn
      · cases hn
        cases dv1 with
        | tup h hs => exact ⟨_, _, rfl, .inr ⟨_, sqT_of h, rfl⟩, by rw [← hs.length]; exact q1⟩
      · obtain ⟨ds, h1, rfl⟩ := Option.map_eq_some_iff.mp hn
        obtain ⟨p, vs, rfl, s, r⟩ := listOf_rel rh dv1 h1
        exact ⟨_, _, rfl, .inl ⟨vs, s, rfl⟩, by rw [← r.length]; exact q1⟩
    · exact q.elim
  · exact q.elim
def pInt : PF := fun ds A => match ds with
  | [.int i] => .ok (.int i) A
  | [.bl b] => .ok (.int (if b then 1 else 0)) A
  | _ => .no
theorem callF_int {g : G} : CallF g (.type "int") pInt := by
  refine callF_of (fun X hK _ => call_int1) ?_
  intro W σ m H A ds vs Q rh dv q sz
  unfold pInt at q
  split at q
  · obtain ⟨v, rfl, dv1⟩ := dv.one
    have := dv1.int_inv; subst this
    exact .inl ⟨_, rfl, Po.ok q rh (.int _)⟩
  · obtain ⟨v, rfl, dv1⟩ := dv.one
    have := dv1.bl_inv; subst this
    exact .inr ⟨_, rfl, Po.ok q rh (.int _)⟩
  · exact q.elim
def isNon : D → Bool
  | .non => true
  | _ => false
def pIsN (neg : Bool) : P2 := fun d e A => match e with
  | .non => .ok (.bl (xor neg (isNon d))) A
  | _ => .no
theorem isNon_rel {g : G} {H : Hp} {m : List Addr} {d : D} {v : V} (r : DV g H m d v) : decide (v = .non) = isNon d := by
  cases r <;> first | rfl | exact decide_eq_false (fun h => nomatch h) | simp [isNon]
theorem opF_is {g : G} : OpF g (compareOp .Is) (pIsN false) := opF_of (fun X _ _ k _ => op_isN) (by
  intro W σ m H A d e x y Q rh dx dy q
  unfold pIsN at q
  split at q
  · cases dy
    refine ⟨rfl, ?_⟩
    rw [isNon_rel dx]
    have := Po.ok (b := V.bl (xor false (isNon d))) q rh (.bl _)
    rwa [Bool.false_xor] at this
  · exact q.elim)
theorem opF_isNot {g : G} : OpF g (compareOp .IsNot) (pIsN true) := opF_of (fun X _ _ k _ => op_notN) (by
  intro W σ m H A d e x y Q rh dx dy q
  unfold pIsN at q
  split at q
  · cases dy
    refine ⟨rfl, ?_⟩
    rw [isNon_rel dx]
    have := Po.ok (b := V.bl (xor true (isNon d))) q rh (.bl _)
    rwa [Bool.true_xor] at this
  · exact q.elim)
/-! ### dict displays -/
def evalP : List (CE × CE) → SA → HA → R (List (D × D))
  | [], _, A => .ok [] A
  | p :: r, E, A => (p.1 E A).bind fun k A1 => (p.2 E A1).bind fun v A2 => (evalP r E A2).bind fun ps A3 => .ok ((k, v) :: ps) A3
def mergeD (acc : List (D × D)) : List (D × D) → Option (List (D × D))
  | [] => some acc
  | p :: r => match toKey p.1 with
    | some k => mergeD (putD acc k p.1 p.2) r
    | none => none
def cDisp (ps : List (CE × CE)) : CE := fun E A => (evalP ps E A).bind fun kvs A1 => match mergeD [] kvs with
  | some out => .ok (.ref A1.length) (A1 ++ [.dct false out])
  | none => .no
def JP (F : Sm.F) (pos : Pos) (keys : List (Option Expr)) (values : List Expr) (ps : List (CE × CE)) : Prop := ∀ W X, Ok F W X → PPs X pos keys values (ps.map fun p => (TEx F.g W p.1, TEx F.g W p.2))
theorem jp_nil : JP F pos [] [] [] := fun W X ok => pps_nil
theorem jp_cons {k v : Expr} {ks : List (Option Expr)} {vs : List Expr} {ck cv : CE} {ps : List (CE × CE)} (hk : JE F k ck) (hv : JE F v cv) (hr : JP F pos ks vs ps) : JP F pos (some k :: ks) (v :: vs) ((ck, cv) :: ps) := fun W X ok => pps_cons (hk W X ok) (hv W X ok) (hr W X ok)
abbrev rPs (g : G) : Rl (List (D × D)) (List (V × V)) := fun H m a b => Paired (fun p q => DV g H m p.1 q.1 ∧ DV g H m p.2 q.2) a b
theorem tPairs_of {g : G} {W : WX} {σ : St} {E : SA} {Q : List (V × V) → Hp → Prop} : ∀ (ps : List (CE × CE)) (m : List Addr) (H : Hp) (A : HA), RH g H m A → RS g H m E σ → Po (rPs g) g m H W σ (evalP ps E A) Q → tPairs (ps.map fun p => (TEx g W p.1, TEx g W p.2)) σ H Q
  | [], m, H, A, rh, rs, q => Po.ok (ρ := rPs g) q rh .nil
  | p :: r, m, H, A, rh, rs, q => by
    refine ⟨m, E, A, rh, rs, Po.bind (ρ := rE g) (show Po (rPs g) g m H W σ ((p.1 E A).bind fun k A1 => (p.2 E A1).bind fun v A2 => (evalP r E A2).bind fun ps A3 => .ok ((k, v) :: ps) A3) Q from q) fun m1 H1 k x A1 g1 rh1 dk q1 => ?_⟩
    refine ⟨m1, E, A1, rh1, rs.mono g1, Po.bind (ρ := rE g) q1 fun m2 H2 v y A2 g2 rh2 dv q2 => ?_⟩
    refine tPairs_of r m2 H2 A2 rh2 (rs.mono (g1.trans g2)) (Po.bind (ρ := rPs g) q2 fun m3 H3 ps ys A3 g3 rh3 dps q3 => ?_)
    exact Po.ok (ρ := rPs g) q3 rh3 (.cons ⟨dk.mono (g2.trans g3), dv.mono g3⟩ dps)
theorem mergeD_rel {g : G} {H : Hp} {m : List Addr} : ∀ {ps : List (D × D)} {ys : List (V × V)} {acc out : List (D × D)} {ks : List (Key × V)}, Paired (fun p q => DV g H m p.1 q.1 ∧ DV g H m p.2 q.2) ps ys → KVR g H m acc ks → mergeD acc ps = some out →
    ∃ kvs : List (Key × V), ys = kvs.map (fun kv => (kV kv.1, kv.2)) ∧ KVR g H m out (mergeK ks kvs)
  | _, _, acc, out, ks, .nil, r, e => by
    cases e
    exact ⟨[], rfl, r⟩
  | _, _, acc, out, ks, .cons (a := p) (b := q) h t, r, e => by
    unfold mergeD at e
    split at e
    · rename_i k hk
      obtain ⟨kvs, h1, h2⟩ := mergeD_rel t (putD_rel r hk h.2) e
      refine ⟨(k, q.2) :: kvs, ?_, h2⟩
      rw [List.map_cons, ← h1, ← toKey_rel hk h.1]
    · cases e
theorem je_disp {keys : List (Option Expr)} {values : List Expr} {ps : List (CE × CE)} (h : JP F pos keys values ps) (hall : keys.all (·.isSome) = true) (hl : keys.length = values.length) (h0 : keys ≠ []) (h15 : keys.length ≤ 15) (h16 : ps.length ≤ 15) : JE F (.Dict keys values pos) (cDisp ps) := by
  intro W X ok
  refine PE.imp (pe_disp (h W X ok) hall hl h0 h15) ?_
  rintro σ H Q ⟨m, E, A, rh, rs, q⟩
  intro p hp
  have gr : Gr m m H (upd H p (.dK [])) := Gr.new hp
  have q' : Po (rE F.g) F.g m H W σ ((evalP ps E A).bind fun kvs A1 => match mergeD [] kvs with
    | some out => .ok (.ref A1.length) (A1 ++ [.dct false out])
    | none => .no) Q := q
  have len : ∀ (ps : List (CE × CE)) (E : SA) (A A1 : HA) (kvs : List (D × D)), evalP ps E A = .ok kvs A1 → kvs.length = ps.length := by
    intro ps
    induction ps with
    | nil => intro E A A1 kvs e; cases e; rfl
    | cons p r ih =>
      intro E A A1 kvs e
      have e : ((p.1 E A).bind fun k A1 => (p.2 E A1).bind fun v A2 => (evalP r E A2).bind fun ps A3 => R.ok ((k, v) :: ps) A3) = .ok kvs A1 := e
      cases h1 : p.1 E A with
      | exc => rw [h1] at e; cases e
      | no => rw [h1] at e; cases e
      | ok k A2 =>
        rw [h1] at e
        simp only [R.bind] at e
        cases h2 : p.2 E A2 with
        | exc => rw [h2] at e; cases e
        | no => rw [h2] at e; cases e
        | ok v A3 =>
          rw [h2] at e
          simp only at e
          cases h3 : evalP r E A3 with
          | exc => rw [h3] at e; cases e
          | no => rw [h3] at e; cases e
          | ok kvs' A4 =>
            rw [h3] at e
            simp only [R.ok.injEq] at e
            rw [← e.1, List.length_cons, List.length_cons, ih _ _ _ _ h3]
  refine tPairs_of ps m _ A (rh.upd hp) (rs.mono gr) ?_
  cases hev : evalP ps E A with
  | exc c ds h => rw [hev] at q'; exact Po.from gr (r := R.exc c ds h) (ρ := rE F.g) (α := D) q'
  | no => rw [hev] at q'; exact q'.elim
  | ok kvs A1 =>
    rw [hev] at q'
    have hl := len _ _ _ _ _ hev
    intro m1 ys H1 g1 rh1 dps
    have g01 := gr.trans g1
    have e1 : H1 p = some (.dK []) := g1.keep p _ upd_same (rh.new hp)
    have q' : Po (rE F.g) F.g m H W σ (match mergeD [] kvs with | some out => .ok (.ref A1.length) (A1 ++ [.dct false out]) | none => .no) Q := q'
    cases hm : mergeD [] kvs with
    | none => rw [hm] at q'; exact q'.elim
    | some out =>
      rw [hm] at q'
      obtain ⟨ks, h1, h2⟩ := mergeD_rel dps (.nil : KVR F.g H1 m1 [] []) hm
      refine ⟨e1, ks, h1, ?_, ?_⟩
      · have := Paired.length dps
        rw [h1, List.length_map] at this
        omega
      · have hm1 : p ∉ m1 := g1.notin upd_same (rh.new hp)
        have rh2 := RH.more (o := .dct false []) e1 (u := .dK []) True.intro hm1 rh1 ⟨[], e1, .nil⟩
        have hp2 := rh2.at_new
        have g2 : Gr (m1 ++ [p]) (m1 ++ [p]) H1 (upd H1 p (.dK (mergeK [] ks))) := Gr.chg hp2 ⟨_, e1, by simp⟩
        have rh3 := rh2.set (o := .dct false out) hp2 ⟨_, e1⟩ (u := .dK (mergeK [] ks)) ⟨_, upd_same, Paired.mapR h2 fun _ _ z => ⟨z.1, (z.2.more e1 (u := .dK []) True.intro).mono g2⟩⟩
        have e3 : (A1 ++ [AO.dct false []]).set A1.length (.dct false out) = A1 ++ [.dct false out] := by simp
        rw [e3] at rh3
        exact Po.ok' (b := V.ref p) q' ((g01.more hp).trans g2) rh3 (.ref hp2)
/-! ### classes -/
def kdOf (A : HA) : D → Option (String ⊕ Nat)
  | .non => some (.inl "NoneType")
  | .bl _ => some (.inl "bool")
  | .int _ => some (.inl "int")
  | .str _ => some (.inl "str")
  | .tup _ => some (.inl "tuple")
  | .lst _ => some (.inl "list")
  | .dct _ _ => some (.inl "dict")
  | .ref a => match A[a]? with
    | some (.lst _) => some (.inl "list")
    | some (.dct false _) => some (.inl "dict")
    | some (.dtt false _) => some (.inl "dict")
    | some (.ins c _) => some (.inr (1000 + c))
    | _ => none
  | .exc c _ => if c < 1000 then some (.inr c) else none
  | _ => none
def kdC : D → Option (String ⊕ Nat)
  | .ty n => some (.inl n)
  | .cls c => if c < 1000 then some (.inr c) else none
  | _ => none
def vOf (g : G) : String ⊕ Nat → Value
  | .inl n => .type n
  | .inr c => .ref (g.ca (if c < 1000 then c else c - 1000))
/-- what is known of an own exception class as a value's class -/
structure XFa (g : G) (c : Nat) : Prop where
  hcl : (PySem.W.clsIn g.K (g.ca c)).isSome = true
  ga : PySem.W.findIn g.K (.ref (g.ca c)) "__getattribute__" = some (some (.builtin "BaseException.__getattribute__"))
  gt : ∃ gt, PySem.W.findIn g.K (.ref (g.ca c)) "__getattr__" = some gt
  sub : PySem.W.subIn g.K (.ref (g.ca c)) (.type "BaseException") = some true
  cl : PySem.W.findIn g.K (.ref (g.ca c)) "__class__" = some (some (.builtin "object.__class__"))
  mro : PySem.W.mroIn g.K (g.ca c) (.type "object") = some true
  hd : PySem.W.hasDictIn g.K (g.ca c) = true
  no : ∀ n ∈ g.ef c, PySem.W.findIn g.K (.ref (g.ca c)) n = some none
/-- .. of an own class of instances -/
structure IFa (g : G) (c : Nat) : Prop where
  cl : Cls g.K (g.ca c)
  ha : PySem.W.findIn g.K (.ref (g.ca c)) "__class__" = some (some (.builtin "object.__class__"))
  mro : PySem.W.mroIn g.K (g.ca c) (.type "object") = some true
structure IsaOk (g : G) : Prop where
  isa : ∀ a b r, g.isa a b = some r → PySem.W.kitOne g.K (vOf g a) (vOf g b) = some r
  sp : PySem.W.specialIn g.K (.builtin "object.__class__") "__get__" = some (some (.builtin "getset_descriptor.__get__"))
  tk : PySem.W.takesIn g.K (.builtin "object.__class__") = some true
  xc : ∀ c a b, g.isa (.inr c) a = some b → c < 1000 → XFa g c
  ic : ∀ c a b, g.isa (.inr (1000 + c)) a = some b → IFa g c
def pIsa (isa : String ⊕ Nat → String ⊕ Nat → Option Bool) : PF := fun ds A => match ds with
  | [d, c] => match kdOf A d, kdC c with
    | some k, some k' => match isa k k' with
      | some b => .ok (.bl b) A
      | none => .no
    | _, _ => .no
  | _ => .no
theorem kdC_rel {g : G} {H : Hp} {m : List Addr} {d : D} {v : V} {k : String ⊕ Nat} {u : Value} (r : DV g H m d v) (h : kdC d = some k) (ru : RelV v u) : u = vOf g k := by
  cases r <;> first | cases h | skip
  · exact ru
  · rename_i c
    have h : (if c < 1000 then some (Sum.inr c : String ⊕ Nat) else none) = some k := h
    split at h
    · rename_i hc
      cases h
      show u = .ref (g.ca (if c < 1000 then c else c - 1000))
      rw [if_pos hc]
      exact ru
    · cases h
theorem kit_D {g : G} {X : Cx} {pins : List (Addr × Obj)} {σ : St} {H : Hp} {s : Shared} {m : List Addr} {A : HA} {d : D} {v : V} {u : Value} {k : String ⊕ Nat} (io : IsaOk g) (xf : ∀ c, k = .inr c → c < 1000 → XFa g c) (ic : ∀ c, k = .inr (1000 + c) → IFa g c) (hK : X.K = g.K) (I : Inv X pins σ H s) (rh : RH g H m A) (dv : DV g H m d v) (rv : RelV v u) (h : kdOf A d = some k) :
    ∃ P : Heap → Prop, PySem.W.KitX g.K u (vOf g k) P ∧ P s.heap ∧ u ≠ .builtin "__main__.__loader__#opaque" := by
  have base : ∀ {t : Value}, TyX X.K H v t → ∃ P : Heap → Prop, PySem.W.KitX g.K u t P ∧ P s.heap ∧ u ≠ .builtin "__main__.__loader__#opaque" := fun {t} ty => by
    have := kit_of I rv ty
    rw [hK] at this
    exact this
  cases dv with
  | non => cases h; exact base (.base .non)
  | bl b => cases h; exact base (.base (.bl b))
  | int i => cases h; exact base (.base (.int i))
  | str x => cases h; exact base (.base (.str x))
  | tup h1 hs =>
    cases h
    rcases h1 with h1 | ⟨o, its, n, e1, e2, _⟩
    · exact base (.base (.tup h1.1))
    · exact base (.kTuple (by rw [hK]; exact e1) e2)
  | lst h1 hs =>
    cases h
    rcases h1 with ⟨o, h1, _⟩ | ⟨o, its, n, e1, e2, _⟩
    · exact base (.base (.frz h1))
    · exact base (.kList (by rw [hK]; exact e1) e2)
  | dct h1 hl hs =>
    cases h
    obtain ⟨o, h1, _⟩ := h1
    exact base (.fDict h1)
  | ref hp =>
    rename_i a p
    have h : (match A[a]? with
      | some (.lst _) => some (Sum.inl "list")
      | some (.dct false _) => some (Sum.inl "dict")
      | some (.dtt false _) => some (Sum.inl "dict")
      | some (.ins c _) => some (Sum.inr (1000 + c))
      | _ => none) = some k := h
    split at h
    · rename_i hd
      cases h
      obtain ⟨q, hq, vs, h1, h2⟩ := rh.get hd
      rw [hp] at hq; cases hq
      exact base (.base (.lst h1))
    · rename_i hd
      cases h
      obtain ⟨q, hq, ks, h1, h2⟩ := rh.get hd
      rw [hp] at hq; cases hq
      exact base (.base (.dK h1))
    · rename_i hd
      cases h
      obtain ⟨q, hq, ks, h1, h2⟩ := rh.get hd
      rw [hp] at hq; cases hq
      exact base (.base (.dT h1))
    · rename_i c fs hd
      cases h
      obtain ⟨q, hq, dd, us, h1, h2⟩ := rh.get hd
      rw [hp] at hq; cases hq
      obtain ⟨k1, k2, k3⟩ := ic c rfl
      show ∃ P : Heap → Prop, PySem.W.KitX g.K u (.ref (g.ca (if 1000 + c < 1000 then 1000 + c else 1000 + c - 1000))) P ∧ P s.heap ∧ u ≠ .builtin "__main__.__loader__#opaque"
      rw [if_neg (by omega), Nat.add_sub_cancel_left]
      exact base (.base (.ins h1 (by rw [hK]; exact k1) (by rw [hK]; exact k2) (by rw [hK]; exact io.sp) (by rw [hK]; exact io.tk) (by rw [hK]; exact k3)))
    · cases h
  | cls => cases h
  | fn => cases h
  | ty => cases h
  | lam => cases h
  | exc h1 h2 h3 h4 h6 h5 =>
    rename_i c ds vs p q
    have h : (if c < 1000 then some (Sum.inr c : String ⊕ Nat) else none) = some k := h
    split at h
    rotate_left
    · cases h
    rename_i hc
    cases h
    obtain rfl : u = _ := rv
    have xf := xf c rfl hc
    show ∃ P : Heap → Prop, PySem.W.KitX g.K (.ref p) (.ref (g.ca (if c < 1000 then c else c - 1000))) P ∧ P s.heap ∧ Value.ref p ≠ .builtin "__main__.__loader__#opaque"
    rw [if_pos hc]
    obtain ⟨gt, hgt⟩ := xf.gt
    obtain ⟨⟨oe, fs, e1, hz, e2⟩, _⟩ := I.hok p _ h1
    obtain ⟨mA, hns, hr⟩ := I.hok q _ h3
    obtain ⟨od, ho, hl⟩ := lookIn_ns hns
    exact ⟨_, PySem.W.kitx_exc xf.hcl xf.ga hgt xf.sub xf.cl io.sp io.tk xf.mro, (⟨e1, hz.1, by unfold PySem.W.notCls; rw [e2] <;> rfl, by rw [hz.2]; exact ho⟩ : PySem.W.InstAt s.heap p oe (g.ca c) (some od)), fun z => nomatch z⟩
theorem callF_isa {g : G} {isa : String ⊕ Nat → String ⊕ Nat → Option Bool} (io : IsaOk g) (ei : g.isa = isa) : CallF g (.builtin "isinstance") (pIsa isa) := by
  subst ei
  intro F W X e ok pins s σ H m A ds vs us Q I rh dv r q
  have hK : X.K = g.K := ok.K.trans (congrArg G.K e)
  unfold pIsa at q
  split at q
  · rename_i d c
    obtain ⟨v, v', rfl, d1, d2⟩ := dv.two
    obtain ⟨u, u', rfl, r1, r2⟩ := vals2 r
    split at q
    · rename_i k k' hk hk'
      split at q
      · rename_i b hb
        have e2 := kdC_rel d2 hk' r2
        subst e2
        obtain ⟨P, Z, p, hx⟩ := kit_D io (fun c e hc => io.xc c _ _ (e ▸ hb) hc) (fun c e => io.ic c _ _ (e ▸ hb)) hK I rh d1 r1 hk
        exact PySem.W.kia_one Z (hK ▸ I.kIn) p (io.isa _ _ _ hb) hx fun tk => ⟨.bl b, H, I.tok tk, rfl, Po.ok q rh (.bl _)⟩
      · exact q.elim
    · exact q.elim
  · exact q.elim
/-! ### a field of an exception -/
def lookS (n : Str) : List Str → List D → Option D
  | k :: ks, d :: ds => if n = k then some d else lookS n ks ds
  | _, _ => none
def cXat (ef : Nat → List Str) (n : Str) (ce : CE) : CE := fun E A => (ce E A).bind fun d A1 => match d with
  | .exc c ds => match lookS n (ef c) ds with
    | some x => .ok x A1
    | none => .no
  | _ => .no
theorem lookS_rel {g : G} {H : Hp} {m : List Addr} {n : Str} {d : D} : ∀ {ks : List Str} {ds : List D} {vs : List V}, DVs g H m ds vs → lookS n ks ds = some d → n ∈ ks ∧ ∃ v, (ks.zip vs).lookup n = some v ∧ DV g H m d v
  | [], _, _, _, e => by simp [lookS] at e
  | k :: ks, _, _, .nil, e => by simp [lookS] at e
  | k :: ks, _, _, .cons h t, e => by
    unfold lookS at e
    by_cases hn : n = k
    · rw [if_pos hn] at e
      cases e
      subst hn
      exact ⟨List.mem_cons_self, _, by simp [List.zip_cons_cons, List.lookup], h⟩
    · rw [if_neg hn] at e
      obtain ⟨h1, v, h2, h3⟩ := lookS_rel t e
      refine ⟨List.mem_cons_of_mem _ h1, v, ?_, h3⟩
      rw [List.zip_cons_cons, List.lookup_cons, beq_eq_false_iff_ne.mpr hn]
      exact h2
theorem je_xat {e : Expr} {n : Str} {ce : CE} {ef : Nat → List Str} (ee : F.g.ef = ef) (xf : ∀ c, n ∈ F.g.ef c → XFa F.g c) (he : JE F e ce) (hb : ∀ X : Cx, attributeBase e n X.env (eval e X.env) = eval e X.env := by intro _; rfl) : JE F (.Attribute e n pos) (cXat ef n ce) := by
  subst ee
  intro W X ok
  refine ⟨fun pins s σ H Q I h => ?_⟩
  obtain ⟨m, E, A, rh, rs, q⟩ := h
  refine attr_of (hb X) (thn ((he W X ok).run pins s σ H (fun x H1 => ∃ m1 d A1, RH F.g H1 m1 A1 ∧ DV F.g H1 m1 d x ∧ Po (rE F.g) F.g m1 H1 W σ (match d with
    | .exc c ds => match lookS n (F.g.ef c) ds with
      | some x => .ok x A1
      | none => .no
    | _ => .no) Q) I ⟨m, E, A, rh, rs, Po.bind q fun m1 H1 d x A1 g1 rh1 dx q1 => ⟨m1, d, A1, rh1, dx, q1⟩⟩) fun u s1 ⟨x, H1, I1, rx, m1, d, A1, rh1, dx, q1⟩ => ?_)
  split at q1
  · rename_i c ds
    split at q1
    · rename_i y hy
      cases dx with
      | exc h1 h2 h3 h4 h6 h5 =>
      rename_i vs p dd
      obtain rfl : u = _ := rx
      obtain ⟨hn, v, hl, dv⟩ := lookS_rel h5 hy
      have xf := xf c hn
      obtain ⟨gt, hgt⟩ := xf.gt
      obtain ⟨⟨oe, fs, e1, hz, e2⟩, _⟩ := I1.hok p _ h1
      obtain ⟨mA, hns, hr⟩ := I1.hok dd _ h3
      obtain ⟨od, ho, hlk⟩ := lookIn_ns hns
      obtain ⟨w, hu, ru⟩ := RelO.some_of (v := v) (o := mA n) (by rw [← hl]; exact hr n)
      have J : PySem.W.InstAt s1.heap p oe (F.g.ca c) (some od) := ⟨e1, hz.1, by unfold PySem.W.notCls; rw [e2] <;> rfl, by rw [hz.2]; exact ho⟩
      have kin : F.g.K.In s1.heap := ok.K ▸ I1.kIn
      exact HandSPX.exc_get kin J xf.ga hgt xf.sub (PySem.W.findObj_own xf.hd (xf.no n hn) rfl (by rw [hlk, hu])) (handed_of ru) ⟨v, H1, I1.tok _, ru, Po.ok q1 rh1 dv⟩
    · exact q1.elim
  · exact q1.elim
/-! ### enumerate -/
def enumD : Nat → List D → List D
  | _, [] => []
  | i, d :: ds => .tup [.int (i : Nat), d] :: enumD (i + 1) ds
theorem enumD_get : ∀ (ds : List D) (k i : Nat), (enumD k ds)[i]? = (ds[i]?).map fun d => D.tup [.int ((k + i : Nat) : Int), d]
  | [], k, i => by simp [enumD]
  | d :: ds, k, 0 => by simp [enumD]
  | d :: ds, k, i + 1 => by
    unfold enumD
    rw [List.getElem?_cons_succ, List.getElem?_cons_succ, enumD_get ds (k + 1) i]
    have : k + 1 + i = k + (i + 1) := by omega
    rw [this]
theorem enumD_length : ∀ (ds : List D) (k : Nat), (enumD k ds).length = ds.length
  | [], _ => rfl
  | d :: ds, k => by unfold enumD; rw [List.length_cons, List.length_cons, enumD_length ds (k + 1)]
def iEnumD (ca : CA) : CI := fun E A => (ca E A).bind fun ds A1 => match ds with
  | [.lst xs] => .ok (.fix (enumD 0 xs)) A1
  | _ => .no
theorem wk_enum {g : G} {H : Hp} {m : List Addr} {ds : List D} {vs : List V} {p : Addr} (h : (∃ o, H p = some (.frz o (.lst vs)) ∧ p ∉ m) ∨ KLst g.K p vs) (r : DVs g H m ds vs) : rI g H m (.fix (enumD 0 ds)) (Ite g.K p) := by
  refine ⟨?_, fun z => by rw [show (IT.fix (enumD 0 ds)).size = (enumD 0 ds).length from rfl, enumD_length, r.length]; exact z p vs (.inr (SqL.gr (Gr.refl _ _).w h))⟩
  intro i m1 H1 A a rh o e
  have e : some (enumD 0 ds)[i]? = some o := e
  cases e
  rw [enumD_get]
  have s := SqL.gr a h
  have r1 := r.monoW a
  cases hd : ds[i]? with
  | none => exact ⟨vs, s, by rw [← r.length]; exact List.getElem?_eq_none_iff.mp hd⟩
  | some d =>
    obtain ⟨v, hv, dv⟩ := r1.get hd
    refine ⟨⟨vs, v, s, hv⟩, fun x H' y => ?_⟩
    obtain ⟨T, w, rfl, hT, rfl, y⟩ := y
    have := y vs s
    rw [hv] at this; cases this
    have gr : Gr m1 m1 H1 (upd H1 T (.tup [.int (i : Nat), v])) := Gr.new hT
    refine ⟨fun q u hq => by rw [upd_ne (fun e => by rw [e, hT] at hq; cases hq)]; exact hq, gr, ?_⟩
    have e0 : ((0 + i : Nat) : Int) = (i : Nat) := by simp
    rw [e0]
    exact .tup (.inl ⟨upd_same, rh.new hT⟩) (.cons (.int _) (.cons (dv.mono gr) .nil))
theorem ji_enum {e : Expr} {ca : CA} {p tpos : Pos} {elts : List Expr} {kk : Nat} (hg : Gls F.scope "enumerate") (hm : F.g.mg "enumerate" = none) (ha : JA F [e] ca) (hs : ∀ X : Cx, starEach [e] X.env = [(false, eval e X.env)] := by intro _; rfl) :
    JI F (.Tuple elts kk tpos) (.Call (.Name "enumerate" p) [e] [] pos) (iEnumD ca) := by
  intro W X ok
  have h := pi_enum (pos := pos) (p := p) (tpos := tpos) (elts := elts) (kk := kk) (ok.gl hg) (by rw [ok.mg]; exact hm) (ha W X ok) (hs X)
  rw [ok.K] at h
  refine PI.imp h ?_
  rintro σ H Q ⟨m, E, A, rh, rs, q⟩
  refine ⟨m, E, A, rh, rs, Po.bind q fun m1 H1 ds vs A1 g1 rh1 dx q1 => ?_⟩
  split at q1
  · obtain ⟨v, rfl, dv⟩ := DVs.one dx
    cases dv with
    | lst h hs => exact ⟨_, _, rfl, sqL_of h, Po.ok q1 rh1 (wk_enum h hs)⟩
  · exact q1.elim
end Sm

/-! Sm13: defs from their bodies, the law's end -/
namespace Sm
open PySem PySem.Spec PyProof.Rows L2

def startA (n : Nat) (ds : List D) : SA := ds.map some ++ List.replicate (n - ds.length) none
/-- a def as a function -/
def runB (n : Nat) (c : CS) : CF := fun ds A => match c (startA n ds) A with
  | .rt d h => .ok d h
  | .nx _ h => .ok .non h
  | .exc k xs _ h => .exc k xs h
  | _ => .no
theorem rs_start {g : G} {H : Hp} {m : List Addr} {N : List Str} {ds : List D} {vs : List V} (r : DVs g H m ds vs) : RS g H m (startA N.length ds) (L2.start N vs) := by
  unfold startA L2.start
  have hl := r.length
  refine ⟨by simp [hl], fun i d e => ?_⟩
  have hi : i < ds.length := by
    by_cases hi : i < ds.length
    · exact hi
    · rw [List.getElem?_append_right (by simpa using hi), List.getElem?_replicate] at e
      split at e <;> cases e
  rw [List.getElem?_append_left (by simpa using hi), List.getElem?_map] at e
  obtain ⟨d', h1, h2⟩ := Option.map_eq_some_iff.mp e
  cases h2
  obtain ⟨v, h3, h4⟩ := r.get h1
  exact ⟨v, by rw [List.getElem?_append_left (by simpa [← hl] using hi), List.getElem?_map, h3]; rfl, h4⟩
abbrev F.of (g : G) (N : List Str) (scope : Scope) (k : Nat) (mk : List (Addr × Str) := []) : F := ⟨g, N, scope, k, (scope.names.filter fun y => decide (y.2 = .cell)).map (·.1), false, mk⟩
theorem SpC.len {g : G} {c : CF} {n : Nat} {vs : List V} {H : Hp} {Q : VK} {E : L2.XK} (h : SpC g c n vs H Q E) : vs.length = n := by
  obtain ⟨m, ds, A, _, r, l, _⟩ := h
  rw [← r.length]; exact l
/-- the tables of the lambdas that a def makes -/
def MkOf (g : G) (qual : Str) (fd : FuncData) (mk : List (Addr × Str)) : Prop := ∀ t ∈ mk, ∃ c, fd.code = .ref c ∧ LamX.TabB g.base g.mg c t.1 ∧ (qual ++ ".<locals>.") ++ "<lambda>" = t.2
theorem fnG_of {g : G} {k : Nat} {x qual : Str} {st : Stmt} {f : Addr} {fd : FuncData} {N ps : List Str} {c : CS} {mk : List (Addr × Str)} (T : Fun g.K x qual st f fd) (S : FnScope N ps (defScope st)) (h : JL (F.of g N (defScope st) k mk) (defBody st) c) (hmk : MkOf g qual fd mk := by intro _ z; cases z) : FnG g (k + 1) f fd ps (SpC g (runB N.length c) ps.length) := by
  obtain ⟨oc, od, kV, doc, pm, an, cdv, ct, osl, rfl, lk, hcd⟩ := T.ex
  refine ⟨fun vs H Q E q => SpC.len q, fun A outer s H args us vs Q E hr hgd e0 hb r hsp => ?_⟩
  have kin : g.K.In s.heap := e0.mod.kin.keeps fun b o e => (e0.bs b o e).1
  have lim : s.heap.NoLimit := e0.mod.nolimit.keeps fun b o e => (e0.bs b o e).1
  refine codeAny_call_function hr.depth (kin _ _ lk) rfl S.co S.gen rfl (PySem.W.codeRec_of kin hcd) (hb _ _ _ _ ?_)
  refine wpAny_newFunctionEnv_cells S.kind (fun y hy => ?_) fun env he s1 ic => ?_
  · obtain ⟨n, v⟩ := y
    rcases S.par n (List.of_mem_zip hy).1 with q | q
    · exact .inl q
    · exact .inr ⟨q, PySem.W.cellsFrom_some _ _ _ (.inl q)⟩
  · subst he
    refine ⟨lim.keeps ic.toInCall.keep, codeAny_func ?_⟩
    have I := inv_start (CX := L2.CX g.prog g.w) (E := E) S hr.hd e0 (SpC.len hsp) r ic
    generalize hX : cxOf (L2.CX g.prog g.w) g.prog g.w g.K g.mg g.base N qual (defScope st) f cdv A outer s H E = X at I
    have ok : OkS (F.of g N (defScope st) k mk) (fun cls d _ H => E cls d H) X := by
      subst hX
      exact { prog := rfl, w := rfl, K := rfl, mg := rfl, base := rfl, N := rfl, sc := rfl, nd := S.nd, room := hr.deeper _, calm := rfl, gd := hgd, tk := takes_of rfl rfl rfl rfl, fnb := (fun _ _ => rfl), tabB := hmk, fn := rfl, hs := rfl, hf := rfl, ex := rfl, pass := passes_of rfl }
    obtain ⟨m, ds, A0, rh, dv, hl, q⟩ := hsp
    have run := (h _ X ok).run [] s1 (L2.start N vs) H { nx := fun _ H' => Q .non H', rt := Q } I ⟨m, startA N.length ds, A0, rh, rs_start dv, ?_⟩
    · subst hX
      refine wpAny_mono run (fun fl s' hs => ?_) fun e s' hs => hs
      cases fl with
      | ret u =>
        obtain ⟨v, σ', H', J, rv, q⟩ := hs
        exact ⟨v, H', J.os, J.bare, J.base, J.hok, rv, q⟩
      | next =>
        obtain ⟨σ', H', J, q⟩ := hs
        exact ⟨V.non, H', J.os, J.bare, J.base, J.hok, rfl, q⟩
      | brk =>
        obtain ⟨_, _, _, q⟩ := hs
        exact False.elim q
      | cont =>
        obtain ⟨_, _, _, q⟩ := hs
        exact False.elim q
    · unfold runB at q
      cases hc : c (startA N.length ds) A0 with
      | rt d h' => simp only [hc] at q; exact q
      | nx E' h' => simp only [hc] at q; exact fun m' σ' H' a b _ => q m' .non H' a b .non
      | exc k' xs E' h' => simp only [hc] at q; exact fun m' σ' H' cls d a b _ e => q m' H' cls d a b e
      | bk => simp only [hc] at q
      | ct => simp only [hc] at q
      | no => simp only [hc] at q
theorem callOk_of {g : G} {k : Nat} {x qual : Str} {st : Stmt} {f : Addr} {fd : FuncData} {N ps : List Str} {c : CS} {mk : List (Addr × Str)} (T : Fun g.K x qual st f fd) (S : FnScope N ps (defScope st)) (hb : Binds g.K fd ps []) (h : JL (F.of g N (defScope st) k mk) (defBody st) c) (hmk : MkOf g qual fd mk := by intro _ z; cases z) : CallOk g (k + 1) f ps (runB N.length c) :=
  ⟨⟨fd, fnG_of T S h hmk, hb⟩, T.kp⟩
/-! ### the law's end -/
/-- the abstract heap at the law's call: the script alone, unless it is one of the text's own objects -/
def H1of (K : PySem.W.Frag) (a : Addr) (o : Obj) (xs : List V) : Hp := fun b => if b = a ∧ K.lookup a = none then some (.frz o (.lst xs)) else none
theorem H1of_inv {K : PySem.W.Frag} {a : Addr} {o : Obj} {xs : List V} {b : Addr} {u : HO} (h : H1of K a o xs b = some u) : b = a ∧ K.lookup a = none ∧ u = .frz o (.lst xs) := by
  unfold H1of at h
  split at h
  · rename_i hc
    cases h
    exact ⟨hc.1, hc.2, rfl⟩
  · cases h
/-- .. beside it the tables of the code objects -/
def H2of (T : List Addr) (H : Hp) : Hp := fun b => if b ∈ T then some (.tbl #[]) else H b
theorem H2of_inv {T : List Addr} {H : Hp} {b : Addr} {u : HO} (h : H2of T H b = some u) : (b ∈ T ∧ u = .tbl #[]) ∨ (b ∉ T ∧ H b = some u) := by
  unfold H2of at h
  split at h
  · rename_i hc
    cases h
    exact .inl ⟨hc, rfl⟩
  · rename_i hc
    exact .inr ⟨hc, h⟩
theorem law_end {P : Program} {w : World} {K : PySem.W.Frag} {mg mb : Str → Option Value} {k : Nat} {fa a : Addr} {fd : FuncData} {x : Str} {s₁ : Shared} {vs : List Value} {ns : List Int} {c : CF} {mk : Heap → G} {cs : List (Addr × Addr)}
    (hm : ∀ h, (mk h).prog = P ∧ (mk h).w = w ∧ (mk h).K = K ∧ (mk h).mg = mg ∧ (mk h).base = h)
    (hT : ∀ p ∈ cs, PySem.W.CodeHd s₁.heap p.1 p.2 ∧ s₁.heap.get? p.2 = some (PySem.W.tabObj #[])) (nT : ∀ p ∈ cs, K.lookup p.2 = none) (htb : ∀ h, ∀ t ∈ (mk h).tabs, t.1 ∈ cs.map (·.2))
    (hbm : ∃ (bm : Addr) (ob : Obj), mg "__builtins__" = some (.ref bm) ∧ bm ≠ builtinsNs ∧ s₁.heap.get? bm = some ob ∧ ob.cls = .type "module" ∧ ob.dict = some builtinsNs ∧ ob.data = .plain)
    (KX : K.In s₁.heap) (hns : s₁.heap.Ns mainGlobals mg) (hb : s₁.heap.Ns builtinsNs mb) (hbb : ∀ x : Str, x ≠ "__name__" → mb x = bootBuiltins x) (hlim : s₁.heap.NoLimit) (hg : s₁.gens = #[])
    (ha : s₁.heap.get? a = some { cls := .type "list", data := .seq vs.toArray }) (hi : IntsAre vs ns) (hl : ns.length ≤ sizeLine) (hr : Room k callerA)
    (F : ∀ base : Heap, K.In base → base.Ns mainGlobals mg → (∀ p ∈ cs, LamX.TabB base mg p.1 p.2) → FnG (mk base) k fa fd [x] (SpC (mk base) c 1)) (hbind : ∀ (s : Shared) (u : Value), BindsTo s fd ⟨[u], []⟩ [(x, u)])
    (hc : ∃ A', c [.lst (ns.map .int)] [] = .ok (.bl true) A') :
    codeAny (model P w) callerA (.call (.ref fa) ⟨[.ref a], []⟩) (fun r s' => r = .ok (.ret (.bool true)) ∧ OldK s₁.heap s'.heap ∧ s'.os = s₁.os ∧ AllBare s'.gens) s₁ := by
  have rv := vals_ints hi
  have ln := hi.length
  let ob : Obj := { cls := .type "list", data := .seq vs.toArray }
  let T : List Addr := cs.map (·.2)
  let H0 := H1of K a ob (ns.map V.int)
  let H := H2of T H0
  have tab : ∀ b ∈ T, s₁.heap.get? b = some (PySem.W.tabObj #[]) := fun b z => by
    obtain ⟨p, hp, rfl⟩ := List.mem_map.mp z
    exact (hT p hp).2
  have aT : a ∉ T := fun z => by
    have q := tab a z
    rw [ha] at q
    cases q
  have hok : HOk P w H s₁.heap := fun b u z => by
    rcases H2of_inv z with ⟨z1, rfl⟩ | ⟨_, z⟩
    · exact tab b z1
    · obtain ⟨rfl, _, rfl⟩ := H1of_inv z
      exact ⟨ha, by rw [List.length_map]; exact hl, vs, _, rv, ha⟩
  have noA : ∀ {b : Addr} {o : Obj}, s₁.heap.get? b = some o → o ≠ PySem.W.tabObj #[] → (b = a → K.lookup a = none → False) → H b = none := fun {b o} e nt n => by
    cases q : H b with
    | none => rfl
    | some u =>
      rcases H2of_inv q with ⟨z1, _⟩ | ⟨_, z⟩
      · rw [tab b z1] at e
        cases e
        exact (nt rfl).elim
      · obtain ⟨e1, e2, _⟩ := H1of_inv z
        exact (n e1 e2).elim
  have up : ∀ {b : Addr} {o : Obj}, s₁.heap.get? b = some o → H b = none → (hidT s₁.heap H).get? b = some o := fun e n => hidT_get e n
  have nsK : ∀ {b : Addr} {m : Str → Option Value}, s₁.heap.Ns b m → (hidT s₁.heap H).Ns b m := fun {b m} ⟨o, es, ep, e, d, r⟩ => ⟨o, es, ep, up e (noA e (fun z => by rw [z] at d; cases d) fun e1 _ => by
    subst e1
    rw [ha] at e; cases e
    cases d), d, r⟩
  have kin : K.In (hidT s₁.heap H) := fun b o e => up (KX b o e) (by
    cases q : H b with
    | none => rfl
    | some u =>
      rcases H2of_inv q with ⟨z1, _⟩ | ⟨_, z⟩
      · obtain ⟨p, hp, rfl⟩ := List.mem_map.mp z1
        rw [nT p hp] at e
        cases e
      · obtain ⟨e1, e2, _⟩ := H1of_inv z
        subst e1
        rw [e2] at e
        cases e)
  have mod : Mod K mg (hidT s₁.heap H) := ⟨kin, nsK hns, ⟨mb, nsK hb, hbb⟩, let ⟨mc, h1, h2⟩ := hlim; ⟨mc, nsK h1, h2⟩⟩
  have tabB : ∀ p ∈ cs, LamX.TabB (hidT s₁.heap H) mg p.1 p.2 := fun p hp => by
    have e0 := (hT p hp).2
    constructor
    · obtain ⟨o, us, file, tf, flags, tg, inF, text, tt, e1, r1, rest⟩ := (hT p hp).1
      refine ⟨o, us, file, tf, flags, tg, inF, text, tt, up e1 (noA e1 (fun z => ?_) fun z _ => ?_), r1, rest⟩
      · rw [z] at r1; cases r1
      · rw [z, ha] at e1
        cases e1
        exact absurd (show Value.type "list" = Value.type "code" from r1) (by intro z; injection z with z; exact absurd z (by decide))
    · obtain ⟨bm, o2, b1, b2, b3, b4, b5, b6⟩ := hbm
      refine ⟨bm, o2, b1, b2, fun z => ?_, fun z => ?_, up b3 (noA b3 (fun z => ?_) fun z _ => ?_), b4, b5, b6⟩
      · obtain ⟨o3, es, ep, e, d, _⟩ := hns
        rw [z, e] at b3
        cases b3
        rw [b6] at d
        cases d
      · rw [z, e0] at b3
        cases b3
        cases b4
      · rw [z] at b4; cases b4
      · rw [z, ha] at b3
        cases b3
        exact absurd (show Value.type "list" = Value.type "module" from b4) (by intro z; injection z with z; exact absurd z (by decide))
    · intro z
      obtain ⟨o3, es, ep, e, d, _⟩ := hns
      rw [z, e0] at e
      cases e
      cases d
  obtain ⟨g1, g2, g3, g4, g5⟩ := hm (hidT s₁.heap H)
  have e0 : Env0 (mk (hidT s₁.heap H)).prog (mk (hidT s₁.heap H)).w (mk (hidT s₁.heap H)).K (mk (hidT s₁.heap H)).mg (mk (hidT s₁.heap H)).base callerA [] s₁ H := by
    rw [g1, g2, g3, g4, g5]
    exact ⟨rfl, mod, fun b o e => of_hidT e, Nat.le_of_eq (hidT_size _ _), trivial, fun b hb => absurd (show b ∈ ([] : List Addr) from hb) (by simp), hok, .of_eq hg⟩
  obtain ⟨A', hc⟩ := hc
  have dvs : ∀ (g : G) (ns : List Int), DVs g H [] (ns.map .int) (ns.map V.int) := fun g ns => by
    induction ns with
    | nil => exact .nil
    | cons n ns ih => exact .cons (.int n) ih
  have rh0 : RH (mk (hidT s₁.heap H)) H [] [] := ⟨List.nodup_nil, .nil, fun t ht => LamX.TabS.nil (if_pos (htb _ t ht)), fun _ _ => by simp⟩
  have run := (F _ kin (nsK hns) tabB).run callerA [] s₁ H ⟨[.ref a], []⟩ [.ref a] [.ref a] (fun v _ => v = .bl true) (fun _ _ _ => False) hr rfl e0 (hbind s₁ (.ref a)) (.cons rfl .nil)
    ⟨[], [.lst (ns.map .int)], [], rh0, .cons (.lst (by
      cases hk : K.lookup a with
      | none => exact .inl ⟨ob, (if_neg aT).trans (if_pos ⟨rfl, hk⟩), by simp⟩
      | some o =>
        have e := KX a o hk
        rw [ha] at e
        cases e
        exact .inr ⟨_, vs.toArray, _, by rw [g3]; exact hk, rfl, rfl, rfl, by rw [List.size_toArray, ln]; exact hl, by simpa using rv⟩) (dvs _ ns)) .nil, rfl, by rw [hc]; exact fun m' v H' _ _ dv => dv.bl_inv⟩
  rw [g1, g2] at run
  refine codeAny_mono run fun r s' h => ?_
  cases r with
  | error e =>
    obtain ⟨_, _, _, _, _, _, _, _, _, _, _, _, z⟩ := h
    exact z.elim
  | ok fl =>
    cases fl with
    | next => exact False.elim h
    | brk => exact False.elim h
    | cont => exact False.elim h
    | ret u =>
      obtain ⟨v, H', os, bare, un, hok', r', q⟩ := h
      obtain rfl : v = .bl true := q
      obtain rfl : u = Value.bool true := r'
      have key : ∀ b o, b ∉ T → s₁.heap.get? b = some o → s'.heap.get? b = some o := fun b o nb e => by
        cases q : H b with
        | none => exact un.keep b o e q (by intro z; exact absurd (show b ∈ ([] : List Addr) from z) (by simp)) (by simp)
        | some u =>
          rcases H2of_inv q with ⟨z1, _⟩ | ⟨_, z⟩
          · exact absurd z1 nb
          · obtain ⟨rfl, _, rfl⟩ := H1of_inv z
            have z2 := un.frzs b ob _ q
            obtain ⟨e2, _⟩ := hok' b _ z2
            rw [ha] at e; cases e
            exact e2
      have grown : ∀ b ∈ T, ∃ more : Array Value, s'.heap.get? b = some { cls := .none, data := .fields more } := fun b hb => by
        obtain ⟨more, z⟩ := un.tbls b #[] (if_pos hb)
        exact ⟨_, hok' b _ z⟩
      refine ⟨rfl, ⟨fun b o e => ?_, fun b o e => ?_⟩, os, bare⟩
      · by_cases hb : b ∈ T
        · obtain ⟨p, hp, rfl⟩ := List.mem_map.mp hb
          obtain ⟨more, hm⟩ := grown _ hb
          rw [tab _ hb] at e
          cases e
          exact .inr (.inl ⟨((hT p hp).1.tab (hT p hp).2).isCodeTable, rfl, #[], more, rfl, by rw [Array.empty_append]; exact hm⟩)
        · exact .inl (key b o hb e)
      · by_cases hb : b ∈ T
        · obtain ⟨more, hm⟩ := grown _ hb
          exact ⟨_, hm⟩
        · exact ⟨o, key b o hb e⟩
theorem walk_G {l : PySem.W.OpenLaw} {n k : Nat} {q : Program} {loose : List Str} {XP : (Str → Option Value) → Heap → Prop} {YP : World → Heap → Prop} {d : DefRec} {K : Params → PySem.W.Frag} {x : Str} {c : CF}
    (hn : l.most = some n) (hn2 : n ≤ sizeLine) (hdf : d.params.defaults = []) (hr : Room k callerA) (hY : ∀ (w : World) (h : Heap), YP w h → (K w.params).In h)
    (F : ∀ (w : World) (mg : Str → Option Value) (fa : Addr) (h : Heap), (K w.params).In h → h.Ns mainGlobals mg → mg d.name = some (.ref fa) →
      (∀ (x : Str) (c P : Addr) (d : DefRec), (recsOf q).find? (fun e => e.name == x) = some d → PySem.W.tabIn (K w.params) x = some (c, P) → PySem.W.CodeHd h c P ∧ h.get? P = some (PySem.W.tabObj #[])) →
      ∃ (fd : FuncData) (mk : Heap → G) (cs : List (Addr × Addr)), (∀ (s : Shared) (u : Value), BindsTo s fd ⟨[u], []⟩ [(x, u)]) ∧ (∀ h, (mk h).prog = l.prog ∧ (mk h).w = w ∧ (mk h).K = K w.params ∧ (mk h).mg = mg ∧ (mk h).base = h) ∧
        (∀ p ∈ cs, PySem.W.CodeHd h p.1 p.2 ∧ h.get? p.2 = some (PySem.W.tabObj #[])) ∧ (∀ p ∈ cs, (K w.params).lookup p.2 = none) ∧ (∀ h, ∀ t ∈ (mk h).tabs, t.1 ∈ cs.map (·.2)) ∧
        ∀ base : Heap, (K w.params).In base → base.Ns mainGlobals mg → (∀ p ∈ cs, LamX.TabB base mg p.1 p.2) → FnG (mk base) k fa fd [x] (SpC (mk base) c 1))
    (hc : ∀ ns : List Int, ns.length ≤ n → ∃ A', c [.lst (ns.map .int)] [] = .ok (.bl true) A') :
    PySem.W.WalkO q loose XP YP l.row.toRowW d [] (fun f vs => PySem.call f vs) := by
  refine Att.attach_call hn hdf fun w s₀ s₁ mg mb fa o pm cd doc a vs ns G Y ho hd hcd hmg hobj hints hlen hg => ?_
  have KX := hY w _ Y
  obtain ⟨fd, mk, cs, hb, hm, hT, nT, htb, hF⟩ := F w mg fa _ KX G.T.g hmg fun x c P d e1 e2 => PySem.W.tab_of G.T KX e1 e2
  exact law_end hm hT nT htb G.T.bmain KX G.T.g G.T.b G.T.builtins G.T.nolimit hg hobj hints (Nat.le_trans hlen hn2) hr hF hb (hc ns hlen)
end Sm

/-! Sm14: comparisons as tests, empty dicts, tables of classes -/
namespace Sm
open PySem PySem.Spec PyProof.Rows L2
variable {F : F} {pos : Pos}
theorem jb_cmpF {a b : Expr} {ca cb : CE} {p : P2} {op : CmpOp} (ho : OpF F.g (compareOp op) p) (ja : JE F a ca) (jb : JE F b cb) (hm : behindInMarks op b = false := by first | exact nobehind _ (by decide) (by decide) | rfl) : JB F (.Compare a [op] [b] pos) (cB (c2 p ca cb)) := by
  intro W X ok
  refine ⟨fun pins s σ H Q I h => ?_⟩
  have h1 : TEx F.g W (c2 p ca cb) σ H fun x H' => ∃ k, x = .bl k ∧ Q k H' := by
    obtain ⟨m, E, A, rh, rs, q⟩ := h
    refine ⟨m, E, A, rh, rs, Po.bind q fun m1 H1 d x A1 g1 rh1 dx q1 => ?_⟩
    split at q1
    · exact ⟨_, dx.bl_inv, Po.ok q1 rh1 rfl⟩
    · exact q1.elim
  refine wpAny_isTrue_Compare1 (binT (ja W X ok) (jb W X ok) I (rF_of h1) fun v u s2 x y H2 I2 rx ry ⟨m, A, d, e, rh, dx, dy, q⟩ => ?_) hm
  refine thn (ho F W X rfl ok pins s2 σ H2 m A d e x y v u _ I2 rh dx dy rx ry q) fun c s3 ⟨z, H3, I3, r3, k, e, q3⟩ => ?_
  subst e
  cases r3
  exact wpAny_truthy_bool ⟨H3, I3, q3⟩
/-! ### {} -/
def cEmp : CE := fun _ A => .ok (.dct [] []) A
def cEmpH : CE := fun _ A => .ok (.ref A.length) (A ++ [.dct false []])
theorem PE.frzD {X : Cx} {e : Expr} {t : TE} (h : PE X e t) : PE X e (fun σ H Q => t σ H fun v H' => ∃ p ks, v = .ref p ∧ H' p = some (.dK ks) ∧ ∀ o, Q v (upd H' p (.frz o (.dK ks)))) := by
  refine ⟨fun pins s σ H Q I q => thn (h.run pins s σ H _ I q) fun u s' ⟨v, H', I', r, p, xs, e1, e2, k⟩ => ?_⟩
  obtain ⟨od, I2⟩ := I'.lock e2 trivial
  exact ⟨v, _, I2, r, k od⟩
theorem je_emp : JE F (.Dict [] [] pos) cEmp := by
  intro W X ok
  refine PE.imp (PE.frzD pe_dnewK) ?_
  rintro σ H Q ⟨m, E, A, rh, rs, q⟩
  intro p hp
  refine ⟨p, [], rfl, upd_same, fun o => ?_⟩
  rw [upd_upd]
  exact Po.ok' q (Gr.new hp) (rh.upd hp) (.dct (vs := []) ⟨o, upd_same, rh.new hp⟩ rfl .nil)
theorem je_empH : JE F (.Dict [] [] pos) cEmpH := by
  intro W X ok
  refine PE.imp pe_dnewK ?_
  rintro σ H Q ⟨m, E, A, rh, rs, q⟩
  intro p hp
  refine Po.ok' q (Gr.push hp) (rh.push hp ⟨[], upd_same, .nil⟩) (.ref ?_)
  rw [← rh.len]; simp
/-! ### tables of classes -/
abbrev IsaT := List ((String ⊕ Nat) × (String ⊕ Nat) × Bool)
def isaOf : IsaT → String ⊕ Nat → String ⊕ Nat → Option Bool
  | [], _, _ => none
  | t :: r, a, b => if t.1 = a ∧ t.2.1 = b then some t.2.2 else isaOf r a b
theorem isaOf_mem : ∀ {t : IsaT} {a b : String ⊕ Nat} {r : Bool}, isaOf t a b = some r → (a, b, r) ∈ t
  | t :: ts, a, b, r, e => by
    unfold isaOf at e
    split at e
    · rename_i h
      cases e
      obtain ⟨rfl, rfl⟩ := h
      exact List.mem_cons_self
    · exact List.mem_cons_of_mem _ (isaOf_mem e)
end Sm

/-! Sm15: exceptions of two fields -/
namespace Sm
open PySem PySem.Spec PyProof.Rows PySem.W PySem.Calls
section
variable {prog : Program} {w : World} {A : Around} {E : Value → Shared → Prop} {K : Frag} {hp : Heap} {g : Array GenState} {d : Drawn} {t : Nat} {os : OsState}
/-- __init__(self, n, n2) runs -/
theorem x_init2 {C f x t0 : Addr} {name qual : Str} {params : Arguments} {scope : Scope} {ar : Arg} {p0 p1 p2 p3 p4 p5 p6 p7 p8 p9 q6 q7 q8 q9 : Pos} {msg n n2 : Str} {j : Nat} {pl : Sem Bool} {mg mb : Str → Option Value} {args : Args} {u u2 : Value} {R : Result → Shared → Prop}
    (T : XK prog K C f name qual params [xSuper p0 p1 p2 p3 p4 p5 msg j, xStore p6 p7 p8 p9 n, xStore q6 q7 q8 q9 n2] scope ar) (har : ar.arg = "self") (hpl : XPl p0 p1 p2 p3 p4 msg j pl) (hno : findIn K (.ref C) n = some none) (hn : scope.names.lookup n = some .local) (hsn : (n == ("self" : Str)) = false) (hnd : (n == ("__debug__" : Str)) = false)
    (hno2 : findIn K (.ref C) n2 = some none) (hn2 : scope.names.lookup n2 = some .local) (hsn2 : (n2 == ("self" : Str)) = false) (hnd2 : (n2 == ("__debug__" : Str)) = false) (hnn : (n == n2) = false)
    (X : K.In hp) (hG : hp.Ns mainGlobals mg) (hB : hp.Ns builtinsNs mb) (hbb : mb "super" = some (.type "super")) (hsup : mg "super" = none) (hlim : hp.NoLimit) (hroom : A.depth < recursionLimit)
    (hbind : ∀ fd : FuncData, fd.params = params → fd.defaults = .none → BindsTo ⟨hp, g, d, t, os⟩ fd args [("self", .ref x), (n, u), (n2, u2)]) (hx : hp.get? x = some (excO C t0)) (hxK : K.lookup x = none)
    (h : ∀ h' t' t1 dx, (∀ b o, b ≠ x → hp.get? b = some o → h'.get? b = some o) → hp.objs.size ≤ dx → dx ≠ x → h'.get? x = some ({ cls := .ref C, dict := some dx, data := .fields #[.ref t1, .none, .none, .none, .bool false, .none] } : Obj) →
      h'.Ns1 dx (fun y => if y = n2 then some u2 else if y = n then some u else none) → R (.ok (.ret .none)) ⟨h', g, d, t', os⟩) :
    codeAny (model prog w) A (.call (.ref f) args) R ⟨hp, g, d, t, os⟩ := by
  obtain ⟨oc, od, an, osl, kV, doc, pm, ct, cda, cc, ccl, cl, cdd, cld, ccs, csl, vs, file, tf, hf, hcd, hcode, hvs, hfile, hcell⟩ := T.fn
  obtain ⟨cd, hcl, hm, hh⟩ := T.cl
  have hself : scope.names.lookup ("self" : Str) = some .local := har ▸ T.ka
  have ne1 : (("self" : Str) == n) = false := by
    cases z : (("self" : Str) == n) with
    | false => rfl
    | true => rw [beq_iff_eq] at z; rw [← z] at hsn; simp at hsn
  have ne2 : (("self" : Str) == n2) = false := by
    cases z : (("self" : Str) == n2) with
    | false => rfl
    | true => rw [beq_iff_eq] at z; rw [← z] at hsn2; simp at hsn2
  have l1 : ([(("self" : Str), Value.ref x), (n, u), (n2, u2)].reverse).lookup ("self" : Str) = some (Value.ref x) := by
    show ([(n2, u2), (n, u), (("self" : Str), Value.ref x)] : List (Str × Value)).lookup ("self" : Str) = _
    simp [List.lookup, ne1, ne2]
  have l2 : ([(("self" : Str), Value.ref x), (n, u), (n2, u2)].reverse).lookup n = some u := by
    show ([(n2, u2), (n, u), (("self" : Str), Value.ref x)] : List (Str × Value)).lookup n = _
    simp [List.lookup, hnn]
  have l3 : ([(("self" : Str), Value.ref x), (n, u), (n2, u2)].reverse).lookup n2 = some u2 := by
    show ([(n2, u2), (n, u), (("self" : Str), Value.ref x)] : List (Str × Value)).lookup n2 = _
    simp [List.lookup]
  refine ks_codeAny_call_defAt (s := ⟨hp, g, d, t, os⟩) (fd := ksFn name qual params _ scope .none kV doc pm an (.ref cda) ct cc) hroom (X _ _ hf) rfl hlim (codeRec_of X hcd) rfl (hbind _ rfl rfl) T.cell (fun y hy => ?_) (fun h₁ hns hk₁ => ?_) T.co T.gen T.kd
  · simp at hy
    rcases hy with rfl | rfl | rfl
    · exact hself
    · exact hn
    · exact hn2
  have X1 : K.In h₁ := fun b o e => hk₁ _ _ (X b o e)
  have xl : x ≠ hp.objs.size := Nat.ne_of_lt (Heap.lt_size hx)
  refine x_super (mg := mg) (mb := mb) X1 (hG.keeps hk₁) (hB.keeps hk₁) hbb hsup hf T.hd hns (by rw [har]; exact l1) (hk₁ _ _ hx) hcode hvs hfile hcell hcl T.sub T.ks T.kc (har ▸ T.ka) T.kd T.top T.no T.sup T.ve T.q hpl (fun h2 t2 t1 k2 e2 => ?_)
  have nK : ∀ b o, K.lookup b = some o → b ≠ x := fun b o e z => by rw [z, hxK] at e; cases e
  have X2 : K.In h2 := fun b o e => k2 b o (nK b o e) (X1 b o e)
  have xl' : hp.objs.size ≠ x := Ne.symm xl
  have hns2 : h2.Ns hp.objs.size (fun y => ([(("self" : Str), Value.ref x), (n, u), (n2, u2)].reverse).lookup y) := by
    obtain ⟨oL, es, ep, hL, r⟩ := hns
    exact ⟨oL, es, ep, k2 _ _ xl' hL, r⟩
  refine x_store1 (s := "self") (n := n) (x := x) (C := C) (t1 := t1) X2 hcl hm hh T.sa hno hns2 l1 l2 e2 T.kd hself hn (by decide) hnd (fun h3 t3 dx k3 l3' n3 e3 ns3 => ?_)
  have X3 : K.In h3 := fun b o e => k3 b o (nK b o e) (X2 b o e)
  have hns3 : h3.Ns hp.objs.size (fun y => ([(("self" : Str), Value.ref x), (n, u), (n2, u2)].reverse).lookup y) := by
    obtain ⟨oL, es, ep, hL, r⟩ := hns2
    exact ⟨oL, es, ep, k3 _ _ xl' hL, r⟩
  refine x_store2 (s := "self") (n := n2) (x := x) (C := C) (t1 := t1) (nl := [n]) X3 hcl hm hh T.sa hno2 hns3 l1 l3 e3 ns3 (fun y hy => ?_) (by show 1 ≤ 1000; decide) T.kd hself hn2 (by decide) hnd2 (fun h4 t4 k4 ns4 => ?_)
  · by_cases e : y = n
    · rw [e]; simp
    · simp only [if_neg e] at hy; exact (hy rfl).elim
  refine wpAny_execs_nil ?_
  have nX : ∀ b o, hp.get? b = some o → b ≠ dx := fun b o e z => by
    obtain ⟨oL, _, _, hL, _⟩ := hns2
    have z1 := Heap.lt_size e
    have z2 := Heap.lt_size hL
    exact absurd (Nat.lt_of_lt_of_le (Nat.lt_trans z1 z2) l3') (by rw [z]; exact Nat.lt_irrefl _)
  refine h h4 _ t1 dx (fun b o hb e => k4 b o (nX b o e) (k3 b o hb (k2 b o hb (hk₁ b o e)))) ?_ n3 (k4 _ _ (Ne.symm n3) e3) ns4
  obtain ⟨oL, _, _, hL, _⟩ := hns2
  exact Nat.le_trans (Nat.le_of_lt (Heap.lt_size hL)) l3'
end
end Sm

/-! Sm16: exceptions of two fields as values -/
namespace Sm
open PySem PySem.Spec PyProof.Rows L2
variable {F : F} {pos : Pos}
structure XCls2 (g : G) (c : Nat) (n n2 : Str) : Prop where
  ex : ∃ (f : Addr) (name qual : Str) (params : Arguments) (scope : Scope) (ar : Arg) (p0 p1 p2 p3 p4 p5 p6 p7 p8 p9 q6 q7 q8 q9 : Pos) (msg : Str) (j : Nat) (pl : Sem Bool), XK g.prog g.K (g.ca c) f name qual params [xSuper p0 p1 p2 p3 p4 p5 msg j, xStore p6 p7 p8 p9 n, xStore q6 q7 q8 q9 n2] scope ar ∧
    ar.arg = "self" ∧ XPl p0 p1 p2 p3 p4 msg j pl ∧ scope.names.lookup n = some .local ∧ scope.names.lookup n2 = some .local ∧
    (∀ fd : FuncData, fd.params = params → fd.defaults = .none → ∀ (s : Shared) (x u u2 : Value), BindsTo s fd ⟨[x, u, u2], []⟩ [("self", x), (n, u), (n2, u2)] ∧ BindsTo s fd ⟨[x], [(n, u), (n2, u2)]⟩ [("self", x), (n, u), (n2, u2)] ∧ BindsTo s fd ⟨[x], [(n2, u2), (n, u)]⟩ [("self", x), (n, u), (n2, u2)])
  no : PySem.W.findIn g.K (.ref (g.ca c)) n = some none
  no2 : PySem.W.findIn g.K (.ref (g.ca c)) n2 = some none
  sn : (n == ("self" : Str)) = false
  nd : (n == ("__debug__" : Str)) = false
  sn2 : (n2 == ("self" : Str)) = false
  nd2 : (n2 == ("__debug__" : Str)) = false
  nn : (n == n2) = false
  ef : g.ef c = [n, n2]
  sup : g.mg "super" = none
  kp : PySem.W.keepIn g.K (.ref (g.ca c)) = true
theorem ns1_of2 {h : Heap} {dx : Addr} {n n2 : Str} {y y2 : V} {u u2 : Value} (nn : (n == n2) = false) (r : RelV y u) (r2 : RelV y2 u2) (hn : h.Ns1 dx fun z => if z = n2 then some u2 else if z = n then some u else none) : ∃ mA, h.Ns1 dx mA ∧ ∀ f, RelO (([(n, y), (n2, y2)] : List (Str × V)).lookup f) (mA f) := by
  refine ⟨_, hn, fun f => ?_⟩
  have ne : n ≠ n2 := fun e => by rw [e] at nn; simp at nn
  by_cases e : f = n
  · subst e
    simp only [List.lookup, beq_self_eq_true, if_neg ne, if_true]
    exact r
  · have e' : (f == n) = false := beq_eq_false_iff_ne.mpr e
    by_cases e2 : f = n2
    · subst e2
      simp only [List.lookup, beq_self_eq_true, e', if_true]
      exact r2
    · have e2' : (f == n2) = false := beq_eq_false_iff_ne.mpr e2
      simp only [List.lookup, e', e2', if_neg e, if_neg e2]
      trivial
theorem run_x2 {g : G} {c : Nat} {n n2 : Str} (T : XCls2 g c n n2) {X : Cx} {W : WX} {k : Nat} (hp : X.prog = g.prog) (hK : X.K = g.K) (hmg : X.mg = g.mg) (hr : Room (k + 1) X.A) {pins : List (Addr × Obj)} {σ : St} {H : Hp} {s : Shared} {Q : VK} {y y2 : V} {u u2 : Value} {args : List Value} {kw : List (Str × Value)}
    (ha : (args = [u, u2] ∧ kw = []) ∨ (args = [] ∧ kw = [(n, u), (n2, u2)]) ∨ (args = [] ∧ kw = [(n2, u2), (n, u)])) (I : Inv X pins σ H s) (r : RelV y u) (r2 : RelV y2 u2)
    (h : ∀ a dd, H a = none → H dd = none → dd ≠ a → Q (.ref a) (upd (upd H dd (.xd [(n, y), (n2, y2)])) a (XO (g.ca c) dd a))) : wpAny (model X.prog X.w) X.A (call (.ref (g.ca c)) args kw) (EP X pins σ Q) X.xe s := by
  obtain ⟨f, name, qual, params, scope, ar, p0, p1, p2, p3, p4, p5, p6, p7, p8, p9, q6, q7, q8, q9, msg, j, pl, Z, har, hpl, hn, hn2, hb⟩ := T.ex
  have kin : g.K.In s.heap := hK ▸ I.kIn
  obtain ⟨nm, N', qn, bs, bm, hdct, sn, sub, ab, col, dd0, k0, k1, k2, k3, k5, hC, hT⟩ := PySem.W.excInit_of kin Z.q
  obtain ⟨mb, hmb, hbb⟩ := I.mod.blt
  obtain ⟨hp0, gn, dr, tk, os⟩ := s
  have hal : args.length ≤ sizeLine := by
    rw [sizeLine_eq]
    rcases ha with ⟨rfl, _⟩ | ⟨rfl, _⟩ | ⟨rfl, _⟩ <;> simp
  have kk : ∀ b o, hp0.get? b = some o → ((hp0.push (PySem.W.kdv_tup args)).push (excO (g.ca c) hp0.objs.size)).get? b = some o := fun b o e => Heap.get?_push_of_some _ (Heap.get?_push_of_some _ e)
  have hx : ((hp0.push (PySem.W.kdv_tup args)).push (excO (g.ca c) hp0.objs.size)).get? (hp0.objs.size + 1) = some (excO (g.ca c) hp0.objs.size) := by heap_get
  have hxK : g.K.lookup (hp0.objs.size + 1) = none := by
    cases e : g.K.lookup (hp0.objs.size + 1) with
    | none => rfl
    | some o =>
      have := Heap.lt_size (kin _ _ e)
      exact absurd this (by show ¬ hp0.objs.size + 1 < hp0.objs.size; omega)
  rw [hp]
  have hr2 := hr.make (g.ca c) args kw
  refine wpAny_call (x_call hT hC (PySem.W.looks_findIn kin Z.init) (fun self => PySem.W.bind_fn kin self Z.ty) hal ?_)
  refine x_init2 (u := u) (u2 := u2) (mg := g.mg) (mb := mb) Z har hpl T.no hn T.sn T.nd T.no2 hn2 T.sn2 T.nd2 T.nn (fun b o e => kk b o (kin b o e)) ((hmg ▸ I.mod.glob).keeps fun b o e => kk b o (I.bk b o e)) (hmb.keeps fun b o e => kk b o (I.bk b o e)) ((hbb _ (by decide)).trans rfl) T.sup (I.nolimit.keeps kk) hr2.depth
    (fun fd e ed => ?_) hx hxK (fun h' t' t1 dx k3 l3 n3 e3 ns3 => ?_)
  · rcases ha with ⟨rfl, rfl⟩ | ⟨rfl, rfl⟩ | ⟨rfl, rfl⟩
    · exact (hb fd e ed _ _ _ _).1
    · exact (hb fd e ed _ _ _ _).2.1
    · exact (hb fd e ed _ _ _ _).2.2
  · have hk : ∀ b o, hp0.get? b = some o → h'.get? b = some o := fun b o e => k3 b o (Nat.ne_of_lt (Nat.lt_succ_of_lt (Heap.lt_size e))) (kk b o e)
    have la : hp0.objs.size ≤ hp0.objs.size + 1 := Nat.le_succ _
    have ld : hp0.objs.size ≤ dx := Nat.le_trans (by rw [Heap.size_push, Heap.size_push]; omega) l3
    have na : H (hp0.objs.size + 1) = none := I.hok.fresh la
    have nd : H dx = none := I.hok.fresh ld
    have ne : ∀ b o, hp0.get? b = some o → b ≠ hp0.objs.size + 1 ∧ b ≠ dx := fun b o e => ⟨Nat.ne_of_lt (Nat.lt_succ_of_lt (Heap.lt_size e)), Nat.ne_of_lt (Nat.lt_of_lt_of_le (Heap.lt_size e) ld)⟩
    have un : Un X.fs [] H (upd (upd H dx (.xd [(n, y), (n2, y2)])) (hp0.objs.size + 1) (XO (g.ca c) dx (hp0.objs.size + 1))) hp0 h' :=
      { keep := fun b o q _ _ _ => hk b o q
        slot := fun b o q _ _ _ => ⟨o.slots, hk b o q⟩
        free := fun b o q m _ => by rw [upd_ne (ne b o q).1, upd_ne (ne b o q).2]; exact m
        there := fun b o q _ => ⟨o, hk b o q⟩
        tups := fun b xs q => by rw [upd_ne (ne_of_none q na), upd_ne (ne_of_none q nd)]; exact q
        frzs := fun b o v q => by rw [upd_ne (ne_of_none q na), upd_ne (ne_of_none q nd)]; exact q
        tbls := fun b ps q => ⟨#[], by rw [upd_ne (ne_of_none q na), upd_ne (ne_of_none q nd), q]; simp⟩ }
    have I2 := I.un (t' := t') un fun b o q => by
      by_cases e1 : b = hp0.objs.size + 1
      · subst e1
        rw [upd_same] at q
        cases q
        exact ⟨⟨_, _, e3, ⟨rfl, rfl⟩, rfl⟩, ⟨_, e3⟩, fun h1 h2 ⟨oe, vs, z1, z2, z3⟩ z => ⟨oe, vs, z _ z1, z2, z3⟩⟩
      · rw [upd_ne e1] at q
        by_cases e2 : b = dx
        · subst e2
          rw [upd_same] at q
          cases q
          exact ns1_of2 T.nn r r2 ns3
        · rw [upd_ne e2] at q
          exact (I.hok b o q).stay (fun a v _ z => hk a v z) (fun a z => by rw [upd_ne (ne_of_none z na), upd_ne (ne_of_none z nd)]; exact z) fun a xs z => by rw [upd_ne (ne_of_none z na), upd_ne (ne_of_none z nd)]; exact z
    exact ⟨rfl, .ref (hp0.objs.size + 1), _, I2, rfl, h _ dx na nd n3⟩
def cMkx2 (c : Nat) (ca cb : CE) : CE := fun E A => (ca E A).bind fun d A1 => (cb E A1).bind fun e A2 => .ok (.exc c [d, e]) A2
/-- C(n2 = b, n = a): b is reckoned first -/
def cMkx2R (c : Nat) (cb ca : CE) : CE := fun E A => (cb E A).bind fun e A1 => (ca E A1).bind fun d A2 => .ok (.exc c [d, e]) A2
theorem mkx2_fin {g : G} {c : Nat} {n n2 : Str} (T : XCls2 g c n n2) {W : WX} {σ : St} {m : List Addr} {H : Hp} {A : HA} {d e : D} {y y2 : V} {Q : VK} (rh : RH g H m A) (dv : DV g H m d y) (dv2 : DV g H m e y2) (q : Po (rE g) g m H W σ (.ok (.exc c [d, e]) A) Q) (a dd : Addr) (na : H a = none) (nd : H dd = none) (ne : dd ≠ a) :
    Q (.ref a) (upd (upd H dd (.xd [(n, y), (n2, y2)])) a (XO (g.ca c) dd a)) := by
  have na' : upd H dd (.xd [(n, y), (n2, y2)]) a = none := by rw [upd_ne (Ne.symm ne)]; exact na
  have gr : Gr m m H (upd (upd H dd (.xd [(n, y), (n2, y2)])) a (XO (g.ca c) dd a)) := (Gr.new nd).trans (Gr.new na')
  refine q m _ _ gr ((rh.upd nd).upd na') ?_
  refine .exc upd_same (rh.new na) ?_ (rh.new nd) (by rw [T.ef]; rfl) (.cons (dv.mono gr) (.cons (dv2.mono gr) .nil))
  rw [upd_ne ne, upd_same, T.ef]
  rfl
theorem vals_two {v w : V} {us : List Value} (r : Vals [v, w] us) : ∃ u u2, us = [u, u2] ∧ RelV v u ∧ RelV w u2 := by
  obtain ⟨u, us', rfl, h, t⟩ := vals_cons r
  obtain ⟨u2, rfl, h2⟩ := vals_one t
  exact ⟨u, u2, rfl, h, h2⟩
theorem je_mkx2 {k : Nat} {x n n2 : Str} {c : Nat} {e e2 : Expr} {ca cb : CE} {p : Pos} (T : XCls2 F.g c n n2) (hk : F.k = k + 1) (hg : Gls F.scope x) (hm : F.g.mg x = some (.ref (F.g.ca c))) (he : JE F e ca) (he2 : JE F e2 cb) (hdb : (x == ("__debug__" : Str)) = false := by decide)
    (hs : ∀ X : Cx, starEach [e, e2] X.env = (false, eval e X.env) :: starEach [e2] X.env := by intro _; rfl) (hs2 : ∀ X : Cx, starEach [e2] X.env = (false, eval e2 X.env) :: starEach [] X.env := by intro _; rfl) (hpl : ∀ X : Cx, (backTo pos (starEach [e2] X.env)).any (·.1) = false := by intro _; rfl) :
    JE F (.Call (.Name x p) [e, e2] [] pos) (cMkx2 c ca cb) := by
  intro W X ok
  have hr : Room (k + 1) X.A := hk ▸ ok.room
  refine ⟨fun pins s σ H Q I h => ?_⟩
  obtain ⟨m, E, A, rh, rs, q⟩ := h
  refine wpAny_Call_Name_kw (ld_glob I (ok.gl hg) (by rw [ok.mg]; exact hm) ?_ hdb)
  have ha : PA X [e, e2] (tCons (TEx F.g W ca) (tCons (TEx F.g W cb) tNil)) := pa_cons (he W X ok) (pa_cons (he2 W X ok) pa_nil (hs2 X)) (hs X)
  refine PySem.W.callWith_K (h₀ := X.base) I.ok.mod.kin (by rw [ok.K]; exact T.kp) (thn (ha.run pos pins s σ H (fun vs H1 => ∃ m1 d y d2 y2 A1, vs = [y, y2] ∧ RH F.g H1 m1 A1 ∧ DV F.g H1 m1 d y ∧ DV F.g H1 m1 d2 y2 ∧ Po (rE F.g) F.g m1 H1 W σ (.ok (.exc c [d, d2]) A1) Q) I
    ⟨m, E, A, rh, rs, Po.bind q fun m1 H1 d y A1 g1 rh1 dx q1 => ⟨m1, E, A1, rh1, rs.mono g1, Po.bind q1 fun m2 H2 d2 y2 A2 g2 rh2 dx2 q2 => ⟨m2, d, y, d2, y2, A2, rfl, rh2, dx.mono g2, dx2, q2⟩⟩⟩) fun us s1 ⟨vs, H1, I1, r1, m1, d, y, d2, y2, A1, ev, rh1, dx, dx2, q1⟩ => ⟨I1.kIn, ?_⟩) (hs X) (hpl X)
  subst ev
  obtain ⟨u, u2, rfl, ru, ru2⟩ := vals_two r1
  exact run_x2 (W := W) T ok.prog ok.K ok.mg hr (.inl ⟨rfl, rfl⟩) I1 ru ru2 fun a dd na nd ne => mkx2_fin T rh1 dx dx2 q1 a dd na nd ne
/-- C(n2 = e2, n = e) -/
theorem je_mkx2R {k : Nat} {x n n2 : Str} {c : Nat} {e e2 : Expr} {ca cb : CE} {p kpos kpos2 : Pos} (T : XCls2 F.g c n n2) (hk : F.k = k + 1) (hg : Gls F.scope x) (hm : F.g.mg x = some (.ref (F.g.ca c))) (he2 : JE F e2 cb) (he : JE F e ca) (hdb : (x == ("__debug__" : Str)) = false := by decide)
    (hall : ∀ X : Cx, (backToKw pos (keywordEach [⟨some n2, e2, kpos2⟩, ⟨some n, e, kpos⟩] X.env)).all (·.1.isSome) = true := by intro _; rfl) (hks : ∀ X : Cx, (backToKw pos (keywordEach [⟨some n2, e2, kpos2⟩, ⟨some n, e, kpos⟩] X.env)).filterMap (·.1) = [n2, n] := by intro _; rfl)
    (hpl : ∀ X : Cx, ((backTo pos (starEach [] X.env)).any (·.1) || (backToKw pos (keywordEach [⟨some n2, e2, kpos2⟩, ⟨some n, e, kpos⟩] X.env)).any (·.1.isNone)) = false := by intro _; rfl) :
    JE F (.Call (.Name x p) [] [⟨some n2, e2, kpos2⟩, ⟨some n, e, kpos⟩] pos) (cMkx2R c cb ca) := by
  intro W X ok
  have hr : Room (k + 1) X.A := hk ▸ ok.room
  refine ⟨fun pins s σ H Q I h => ?_⟩
  obtain ⟨m, E, A, rh, rs, q⟩ := h
  refine wpAny_Call_Name_kw (ld_glob I (ok.gl hg) (by rw [ok.mg]; exact hm) ?_ hdb)
  have ha : PK X [⟨some n2, e2, kpos2⟩, ⟨some n, e, kpos⟩] (tCons (TEx F.g W cb) (tCons (TEx F.g W ca) tNil)) := pk_cons (he2 W X ok) (pk_cons (he W X ok) pk_nil)
  refine PySem.W.callWith_KW0 (h₀ := X.base) I.ok.mod.kin (by rw [ok.K]; exact T.kp) (hall X) (thn (ha.run pos pins s σ H (fun vs H1 => ∃ m1 d y d2 y2 A1, vs = [y2, y] ∧ RH F.g H1 m1 A1 ∧ DV F.g H1 m1 d y ∧ DV F.g H1 m1 d2 y2 ∧ Po (rE F.g) F.g m1 H1 W σ (.ok (.exc c [d, d2]) A1) Q) I
    ⟨m, E, A, rh, rs, Po.bind q fun m1 H1 d2 y2 A1 g1 rh1 dx2 q1 => ⟨m1, E, A1, rh1, rs.mono g1, Po.bind q1 fun m2 H2 d y A2 g2 rh2 dx q2 => ⟨m2, d, y, d2, y2, A2, rfl, rh2, dx, dx2.mono g2, q2⟩⟩⟩) fun us s1 ⟨vs, H1, I1, r1, m1, d, y, d2, y2, A1, ev, rh1, dx, dx2, q1⟩ => ⟨I1.kIn, ?_⟩) (hpl X)
  subst ev
  obtain ⟨u2, u, rfl, ru2, ru⟩ := vals_two r1
  rw [hks X]
  exact run_x2 (W := W) T ok.prog ok.K ok.mg hr (.inr (.inr ⟨rfl, rfl⟩)) I1 ru ru2 fun a dd na nd ne => mkx2_fin T rh1 dx dx2 q1 a dd na nd ne
end Sm

/-! Sm17: a, b = x, y; min of two; what is never reckoned -/
namespace Sm
open PySem PySem.Spec PyProof.Rows L2
variable {F : F} {pos : Pos}
/-- x, y = a, b -/
def cPar (i j : Nat) (ca cb : CE) : CS := fun E A => RSt.of (ca E A) E fun d A1 => RSt.of (cb E A1) E fun e A2 => .nx ((E.set i (some d)).set j (some e)) A2
theorem js_par {i j : Nat} {x y : Str} {a b : Expr} {ca cb : CE} {px py pt : Pos} {kt k2 : Nat} {pt2 : Pos} (hi : F.N[i]? = some x) (hj : F.N[j]? = some y) (hij : i ≠ j) (hx : F.scope.names.lookup x = some .local) (hy : F.scope.names.lookup y = some .local) (ha : JE F a ca) (hb : JE F b cb)
    (hw : ∀ X : Cx, X.env.scope = F.scope → swappedStores [.Tuple [.Name x px, .Name y py] kt pt] (.Tuple [a, b] k2 pt2) X.env = pure (some [x, y]))
    (hs : ∀ X : Cx, swapsWithSole [.Tuple [.Name x px, .Name y py] kt pt] (.Tuple [a, b] k2 pt2) pos.line X.env = pure false := by intro _; rfl)
    (h1 : ∀ X : Cx, starEach [a, b] X.env = (false, eval a X.env) :: starEach [b] X.env := by intro _; rfl) (h2 : ∀ X : Cx, starEach [b] X.env = (false, eval b X.env) :: starEach [] X.env := by intro _; rfl) :
    JS' F (.Assign [.Tuple [.Name x px, .Name y py] kt pt] (.Tuple [a, b] k2 pt2) pos) (cPar i j ca cb) := by
  intro W X ok
  refine PS.imp (ps_par ok.calm (by rw [ok.N]; exact ok.nd) (by rw [ok.N]; exact hi) (by rw [ok.N]; exact hj) hij (by rw [ok.sc]; exact hx) (by rw [ok.sc]; exact hy) (pa_cons (ha W X ok.toOk) (pa_cons (hb W X ok.toOk) pa_nil (h2 X)) (h1 X)) (hw X ok.sc) (hs X)) ?_
  rintro D σ H ⟨m, E, A, rh, rs, q⟩
  refine ⟨m, E, A, rh, rs, PoS.bind (ρ := rE F.g) rs q fun m1 H1 d v A1 g1 rh1 dv q1 => ⟨m1, E, A1, rh1, rs.mono g1, PoS.bind (ρ := rE F.g) (rs.mono g1) q1 fun m2 H2 e w A2 g2 rh2 dw q2 => ⟨v, w, rfl, q2.nx rh2 ((((rs.mono g1).mono g2).set i (dv.mono g2)).set j dw)⟩⟩⟩
def pMin2 : PF := fun ds A => match ds with
  | [.int i, .int j] => .ok (.int (if j < i then j else i)) A
  | _ => .no
theorem callF_min2 {g : G} : CallF g (.builtin "min") pMin2 := by
  refine callF_of (fun X hK hc => call_min2 hc) ?_
  intro W σ m H A ds vs Q rh dv q sz
  unfold pMin2 at q
  split at q
  · obtain ⟨v, w, rfl, d1, d2⟩ := dv.two
    have e1 := d1.int_inv; subst e1
    have e2 := d2.int_inv; subst e2
    exact ⟨_, _, rfl, Po.ok q rh (.int _)⟩
  · exact q.elim
/-- an expression that is never reckoned -/
def cNo : CE := fun _ _ => .no
theorem je_no {e : Expr} : JE F e cNo := fun W X ok => ⟨fun pins s σ H Q I h => by
  obtain ⟨m, E, A, rh, rs, q⟩ := h
  exact q.elim⟩
def cNoS : CS := fun _ _ => .no
theorem js_no {s : Stmt} : JS' F s cNoS := fun W X ok => ⟨fun pins s σ H D I h => by
  obtain ⟨m, E, A, rh, rs, q⟩ := h
  exact q.elim⟩
end Sm

/-! Sm18: raise C(..) -/
namespace Sm
open PySem PySem.Spec PyProof.Rows L2
variable {F : F} {pos : Pos}
structure XRs (g : G) (c : Nat) : Prop where
  sub : PySem.W.subIn g.K (.ref (g.ca c)) (.type "BaseException") = some true
  ty : PySem.W.typeIn g.K (.ref (g.ca c)) = some (.type "type")
theorem run_r1 {g : G} {c : Nat} {n : Str} (T : XCls g c n) {X : Cx} {W : WX} {k : Nat} (hp : X.prog = g.prog) (hK : X.K = g.K) (hmg : X.mg = g.mg) (hr : Room (k + 1) X.A) {pins : List (Addr × Obj)} {σ : St} {H : Hp} {s : Shared} {Q : L2.XK} {y : V} {u : Value} {args : List Value} {kw : List (Str × Value)}
    (ha : (args = [u] ∧ kw = []) ∨ (args = [] ∧ kw = [(n, u)])) (I : Inv X pins σ H s) (r : RelV y u)
    (rs : XRs g c) (h : ∀ dd, H dd = none → Q (.ref (g.ca c)) (some dd) (upd H dd (.xd [(n, y)]))) : wpAny (model X.prog X.w) X.A (call (.ref (g.ca c)) args kw) (MkP X pins σ Q) X.xe s := by
  obtain ⟨f, name, qual, params, scope, ar, p0, p1, p2, p3, p4, p5, p6, p7, p8, p9, msg, j, pl, Z, har, hpl, hn, hb⟩ := T.ex
  have kin : g.K.In s.heap := hK ▸ I.kIn
  obtain ⟨nm, N', qn, bs, bm, hdct, sn, sub, ab, col, dd0, k0, k1, k2, k3, k5, hC, hT⟩ := PySem.W.excInit_of kin Z.q
  obtain ⟨mb, hmb, hbb⟩ := I.mod.blt
  obtain ⟨hp0, gn, dr, tk, os⟩ := s
  have hal : args.length ≤ sizeLine := by
    rw [sizeLine_eq]
    rcases ha with ⟨rfl, _⟩ | ⟨rfl, _⟩ <;> simp
  have kk : ∀ b o, hp0.get? b = some o → ((hp0.push (PySem.W.kdv_tup args)).push (excO (g.ca c) hp0.objs.size)).get? b = some o := fun b o e => Heap.get?_push_of_some _ (Heap.get?_push_of_some _ e)
  have hx : ((hp0.push (PySem.W.kdv_tup args)).push (excO (g.ca c) hp0.objs.size)).get? (hp0.objs.size + 1) = some (excO (g.ca c) hp0.objs.size) := by heap_get
  have hxK : g.K.lookup (hp0.objs.size + 1) = none := by
    cases e : g.K.lookup (hp0.objs.size + 1) with
    | none => rfl
    | some o =>
      have := Heap.lt_size (kin _ _ e)
      exact absurd this (by show ¬ hp0.objs.size + 1 < hp0.objs.size; omega)
  rw [hp]
  have hr2 := hr.make (g.ca c) args kw
  refine wpAny_call (x_call hT hC (PySem.W.looks_findIn kin Z.init) (fun self => PySem.W.bind_fn kin self Z.ty) hal ?_)
  refine x_init1 (u := u) (mg := g.mg) (mb := mb) Z har hpl T.no hn T.sn T.nd (fun b o e => kk b o (kin b o e)) ((hmg ▸ I.mod.glob).keeps fun b o e => kk b o (I.bk b o e)) (hmb.keeps fun b o e => kk b o (I.bk b o e)) ((hbb _ (by decide)).trans rfl) T.sup (I.nolimit.keeps kk) hr2.depth
    (fun fd e ed => ?_) hx hxK (fun h' t' t1 dx k3 l3 n3 e3 ns3 => ?_)
  · rcases ha with ⟨rfl, rfl⟩ | ⟨rfl, rfl⟩
    · exact (hb fd e ed _ _ _).1
    · exact (hb fd e ed _ _ _).2
  · have hk : ∀ b o, hp0.get? b = some o → h'.get? b = some o := fun b o e => k3 b o (Nat.ne_of_lt (Nat.lt_succ_of_lt (Heap.lt_size e))) (kk b o e)
    have la : hp0.objs.size ≤ hp0.objs.size + 1 := Nat.le_succ _
    have ld : hp0.objs.size ≤ dx := Nat.le_trans (by rw [Heap.size_push, Heap.size_push]; omega) l3
    have na : H (hp0.objs.size + 1) = none := I.hok.fresh la
    have nd : H dx = none := I.hok.fresh ld
    have ne : ∀ b o, hp0.get? b = some o → b ≠ hp0.objs.size + 1 ∧ b ≠ dx := fun b o e => ⟨Nat.ne_of_lt (Nat.lt_succ_of_lt (Heap.lt_size e)), Nat.ne_of_lt (Nat.lt_of_lt_of_le (Heap.lt_size e) ld)⟩
    let G := PySem.W.hideAll h' [hp0.objs.size + 1]
    have hG : ∀ b o, b ≠ hp0.objs.size + 1 → h'.get? b = some o → G.get? b = some o := fun b o n e => PySem.W.hideAll_get _ e (by simpa using n)
    have gH : ∀ b o, G.get? b = some o → h'.get? b = some o := fun b o e => PySem.W.of_hideAll _ e
    have hk2 : ∀ b o, hp0.get? b = some o → G.get? b = some o := fun b o e => hG b o (ne b o e).1 (hk b o e)
    have un : Un X.fs [] H (upd H dx (.xd [(n, y)])) hp0 G :=
      { keep := fun b o q _ _ _ => hk2 b o q
        slot := fun b o q _ _ _ => ⟨o.slots, hk2 b o q⟩
        free := fun b o q m _ => by rw [upd_ne (ne b o q).2]; exact m
        there := fun b o q _ => ⟨o, hk2 b o q⟩
        tups := fun b xs q => by rw [upd_ne (ne_of_none q nd)]; exact q
        frzs := fun b o v q => by rw [upd_ne (ne_of_none q nd)]; exact q
        tbls := fun b ps q => ⟨#[], by rw [upd_ne (ne_of_none q nd), q]; simp⟩ }
    have nsG : ∀ mA, h'.Ns1 dx mA → G.Ns1 dx mA := fun mA ⟨od, es, ep, e, r⟩ => ⟨od, es, ep, hG _ _ n3 e, r⟩
    have I2 := I.un (t' := t') un fun b o q => by
      by_cases e2 : b = dx
      · subst e2
        rw [upd_same] at q
        cases q
        obtain ⟨mA, q1, q2⟩ := ns1_of r ns3
        exact ⟨mA, nsG mA q1, q2⟩
      · rw [upd_ne e2] at q
        exact (I.hok b o q).stay (fun a v _ z => hk2 a v z) (fun a z => by rw [upd_ne (ne_of_none z nd)]; exact z) fun a xs z => by rw [upd_ne (ne_of_none z nd)]; exact z
    have hnone : G.get? (hp0.objs.size + 1) = none := PySem.W.hideAll_none _ (by simp)
    exact ⟨rfl, hp0.objs.size + 1, _, _, _, _, .ref (g.ca c), some dx, rfl, I2, gH, hnone, e3, ⟨rfl, rfl⟩, rfl, rfl, by rw [upd_ne (Ne.symm n3)]; exact na, rfl, I2.bare, raises_own (hK ▸ rs.sub) (hK ▸ rs.ty), h dx nd⟩
theorem run_r2 {g : G} {c : Nat} {n n2 : Str} (T : XCls2 g c n n2) {X : Cx} {W : WX} {k : Nat} (hp : X.prog = g.prog) (hK : X.K = g.K) (hmg : X.mg = g.mg) (hr : Room (k + 1) X.A) {pins : List (Addr × Obj)} {σ : St} {H : Hp} {s : Shared} {Q : L2.XK} {y y2 : V} {u u2 : Value} {args : List Value} {kw : List (Str × Value)}
    (ha : (args = [u, u2] ∧ kw = []) ∨ (args = [] ∧ kw = [(n, u), (n2, u2)]) ∨ (args = [] ∧ kw = [(n2, u2), (n, u)])) (I : Inv X pins σ H s) (r : RelV y u) (r2 : RelV y2 u2)
    (rs : XRs g c) (h : ∀ dd, H dd = none → Q (.ref (g.ca c)) (some dd) (upd H dd (.xd [(n, y), (n2, y2)]))) : wpAny (model X.prog X.w) X.A (call (.ref (g.ca c)) args kw) (MkP X pins σ Q) X.xe s := by
  obtain ⟨f, name, qual, params, scope, ar, p0, p1, p2, p3, p4, p5, p6, p7, p8, p9, q6, q7, q8, q9, msg, j, pl, Z, har, hpl, hn, hn2, hb⟩ := T.ex
  have kin : g.K.In s.heap := hK ▸ I.kIn
  obtain ⟨nm, N', qn, bs, bm, hdct, sn, sub, ab, col, dd0, k0, k1, k2, k3, k5, hC, hT⟩ := PySem.W.excInit_of kin Z.q
  obtain ⟨mb, hmb, hbb⟩ := I.mod.blt
  obtain ⟨hp0, gn, dr, tk, os⟩ := s
  have hal : args.length ≤ sizeLine := by
    rw [sizeLine_eq]
    rcases ha with ⟨rfl, _⟩ | ⟨rfl, _⟩ | ⟨rfl, _⟩ <;> simp
  have kk : ∀ b o, hp0.get? b = some o → ((hp0.push (PySem.W.kdv_tup args)).push (excO (g.ca c) hp0.objs.size)).get? b = some o := fun b o e => Heap.get?_push_of_some _ (Heap.get?_push_of_some _ e)
  have hx : ((hp0.push (PySem.W.kdv_tup args)).push (excO (g.ca c) hp0.objs.size)).get? (hp0.objs.size + 1) = some (excO (g.ca c) hp0.objs.size) := by heap_get
  have hxK : g.K.lookup (hp0.objs.size + 1) = none := by
    cases e : g.K.lookup (hp0.objs.size + 1) with
    | none => rfl
    | some o =>
      have := Heap.lt_size (kin _ _ e)
      exact absurd this (by show ¬ hp0.objs.size + 1 < hp0.objs.size; omega)
  rw [hp]
  have hr2 := hr.make (g.ca c) args kw
  refine wpAny_call (x_call hT hC (PySem.W.looks_findIn kin Z.init) (fun self => PySem.W.bind_fn kin self Z.ty) hal ?_)
  refine x_init2 (u := u) (u2 := u2) (mg := g.mg) (mb := mb) Z har hpl T.no hn T.sn T.nd T.no2 hn2 T.sn2 T.nd2 T.nn (fun b o e => kk b o (kin b o e)) ((hmg ▸ I.mod.glob).keeps fun b o e => kk b o (I.bk b o e)) (hmb.keeps fun b o e => kk b o (I.bk b o e)) ((hbb _ (by decide)).trans rfl) T.sup (I.nolimit.keeps kk) hr2.depth
    (fun fd e ed => ?_) hx hxK (fun h' t' t1 dx k3 l3 n3 e3 ns3 => ?_)
  · rcases ha with ⟨rfl, rfl⟩ | ⟨rfl, rfl⟩ | ⟨rfl, rfl⟩
    · exact (hb fd e ed _ _ _ _).1
    · exact (hb fd e ed _ _ _ _).2.1
    · exact (hb fd e ed _ _ _ _).2.2
  · have hk : ∀ b o, hp0.get? b = some o → h'.get? b = some o := fun b o e => k3 b o (Nat.ne_of_lt (Nat.lt_succ_of_lt (Heap.lt_size e))) (kk b o e)
    have la : hp0.objs.size ≤ hp0.objs.size + 1 := Nat.le_succ _
    have ld : hp0.objs.size ≤ dx := Nat.le_trans (by rw [Heap.size_push, Heap.size_push]; omega) l3
    have na : H (hp0.objs.size + 1) = none := I.hok.fresh la
    have nd : H dx = none := I.hok.fresh ld
    have ne : ∀ b o, hp0.get? b = some o → b ≠ hp0.objs.size + 1 ∧ b ≠ dx := fun b o e => ⟨Nat.ne_of_lt (Nat.lt_succ_of_lt (Heap.lt_size e)), Nat.ne_of_lt (Nat.lt_of_lt_of_le (Heap.lt_size e) ld)⟩
    let G := PySem.W.hideAll h' [hp0.objs.size + 1]
    have hG : ∀ b o, b ≠ hp0.objs.size + 1 → h'.get? b = some o → G.get? b = some o := fun b o n e => PySem.W.hideAll_get _ e (by simpa using n)
    have gH : ∀ b o, G.get? b = some o → h'.get? b = some o := fun b o e => PySem.W.of_hideAll _ e
    have hk2 : ∀ b o, hp0.get? b = some o → G.get? b = some o := fun b o e => hG b o (ne b o e).1 (hk b o e)
    have un : Un X.fs [] H (upd H dx (.xd [(n, y), (n2, y2)])) hp0 G :=
      { keep := fun b o q _ _ _ => hk2 b o q
        slot := fun b o q _ _ _ => ⟨o.slots, hk2 b o q⟩
        free := fun b o q m _ => by rw [upd_ne (ne b o q).2]; exact m
        there := fun b o q _ => ⟨o, hk2 b o q⟩
        tups := fun b xs q => by rw [upd_ne (ne_of_none q nd)]; exact q
        frzs := fun b o v q => by rw [upd_ne (ne_of_none q nd)]; exact q
        tbls := fun b ps q => ⟨#[], by rw [upd_ne (ne_of_none q nd), q]; simp⟩ }
    have nsG : ∀ mA, h'.Ns1 dx mA → G.Ns1 dx mA := fun mA ⟨od, es, ep, e, r⟩ => ⟨od, es, ep, hG _ _ n3 e, r⟩
    have I2 := I.un (t' := t') un fun b o q => by
      by_cases e2 : b = dx
      · subst e2
        rw [upd_same] at q
        cases q
        obtain ⟨mA, q1, q2⟩ := ns1_of2 T.nn r r2 ns3
        exact ⟨mA, nsG mA q1, q2⟩
      · rw [upd_ne e2] at q
        exact (I.hok b o q).stay (fun a v _ z => hk2 a v z) (fun a z => by rw [upd_ne (ne_of_none z nd)]; exact z) fun a xs z => by rw [upd_ne (ne_of_none z nd)]; exact z
    have hnone : G.get? (hp0.objs.size + 1) = none := PySem.W.hideAll_none _ (by simp)
    exact ⟨rfl, hp0.objs.size + 1, _, _, _, _, .ref (g.ca c), some dx, rfl, I2, gH, hnone, e3, ⟨rfl, rfl⟩, rfl, rfl, by rw [upd_ne (Ne.symm n3)]; exact na, rfl, I2.bare, raises_own (hK ▸ rs.sub) (hK ▸ rs.ty), h dx nd⟩

def cRaise1 (c : Nat) (ce : CE) : CS := fun E A => RSt.of (ce E A) E fun d A1 => .exc c [d] E A1
def cRaise2 (c : Nat) (ca cb : CE) : CS := fun E A => RSt.of (ca E A) E fun d A1 => RSt.of (cb E A1) E fun e A2 => .exc c [d, e] E A2
theorem exr_new {g : G} {c : Nat} {H : Hp} {m : List Addr} {A : HA} {ds : List D} {ys : List V} {dd : Addr} (hl : (g.ef c).length = ds.length) (rh : RH g H m A) (dv : DVs g H m ds ys) (nd : H dd = none) : EXR g (upd H dd (.xd ((g.ef c).zip ys))) m c ds (.ref (g.ca c)) (some dd) :=
  ⟨rfl, dd, ys, rfl, upd_same, rh.new nd, hl, dv.mono (Gr.new nd)⟩
theorem js_raise1 {k : Nat} {x n : Str} {c : Nat} {e : Expr} {ce : CE} {p pos' : Pos} (T : XCls F.g c n) (rs : XRs F.g c) (hk : F.k = k + 1) (hg : Gls F.scope x) (hm : F.g.mg x = some (.ref (F.g.ca c))) (he : JE F e ce) (hdb : (x == ("__debug__" : Str)) = false := by decide)
    (hs : ∀ X : Cx, starEach [e] X.env = (false, eval e X.env) :: starEach [] X.env := by intro _; rfl) (hpl : ∀ X : Cx, (backTo pos (starEach [] X.env)).any (·.1) = false := by intro _; rfl) : JS' F (.Raise (some (.Call (.Name x p) [e] [] pos)) none pos') (cRaise1 c ce) := by
  intro W X ok
  have hr : Room (k + 1) X.A := hk ▸ ok.room
  have pm : PMk X (.Call (.Name x p) [e] [] pos) (fun σ H Q => TEx F.g W ce σ H fun y H1 => ∀ dd, H1 dd = none → Q (.ref (F.g.ca c)) (some dd) (upd H1 dd (.xd [(n, y)]))) := by
    intro pins s σ H Q I h
    refine wpAny_Call_Name_kw (ld_glob I (ok.gl hg) (by rw [ok.mg]; exact hm) ?_ hdb)
    have ha : PA X [e] (tCons (TEx F.g W ce) tNil) := pa_cons (he W X ok.toOk) pa_nil (hs X)
    refine PySem.W.callWith_K (h₀ := X.base) I.ok.mod.kin (by rw [ok.K]; exact T.kp) (thn (ha.run pos pins s σ H (fun vs H1 => ∃ y, vs = [y] ∧ ∀ dd, H1 dd = none → Q (.ref (F.g.ca c)) (some dd) (upd H1 dd (.xd [(n, y)]))) I (by
      obtain ⟨m, E, A, rh, rs', q⟩ := h
      refine ⟨m, E, A, rh, rs', ?_⟩
      cases hc : ce E A with
      | ok d A1 => rw [hc] at q; exact fun m' v H' a r x => ⟨v, rfl, q m' v H' a r x⟩
      | exc => rw [hc] at q; exact q
      | no => rw [hc] at q; exact q)) fun us s1 ⟨vs, H1, I1, r1, y, ev, q1⟩ => ⟨I1.kIn, ?_⟩) (hs X) (hpl X)
    subst ev
    obtain ⟨u, rfl, ru⟩ := Vals.one r1
    exact run_r1 (W := W) T ok.prog ok.K ok.mg hr (.inl ⟨rfl, rfl⟩) I1 ru rs q1
  refine PS.imp (ps_raise ok.calm ok.tk pm) ?_
  rintro D σ H ⟨m, E, A, rh, rs', q⟩
  refine ⟨m, E, A, rh, rs', PoS.bind (ρ := rE F.g) rs' q fun m1 H1 d y A1 g1 rh1 dv q1 => fun dd nd => ?_⟩
  have ex := exr_new (c := c) (ds := [d]) (ys := [y]) (by rw [T.ef]; rfl) rh1 (.cons dv .nil) nd
  rw [T.ef] at ex
  exact q1 m1 σ _ _ _ (Gr.new nd) (rh1.upd nd) ((rs'.mono g1).mono (Gr.new nd)) ex
theorem js_raise2 {k : Nat} {x n n2 : Str} {c : Nat} {e e2 : Expr} {ca cb : CE} {p pos' : Pos} (T : XCls2 F.g c n n2) (rs : XRs F.g c) (hk : F.k = k + 1) (hg : Gls F.scope x) (hm : F.g.mg x = some (.ref (F.g.ca c))) (he : JE F e ca) (he2 : JE F e2 cb) (hdb : (x == ("__debug__" : Str)) = false := by decide)
    (hs : ∀ X : Cx, starEach [e, e2] X.env = (false, eval e X.env) :: starEach [e2] X.env := by intro _; rfl) (hs2 : ∀ X : Cx, starEach [e2] X.env = (false, eval e2 X.env) :: starEach [] X.env := by intro _; rfl) (hpl : ∀ X : Cx, (backTo pos (starEach [e2] X.env)).any (·.1) = false := by intro _; rfl) :
    JS' F (.Raise (some (.Call (.Name x p) [e, e2] [] pos)) none pos') (cRaise2 c ca cb) := by
  intro W X ok
  have hr : Room (k + 1) X.A := hk ▸ ok.room
  have pm : PMk X (.Call (.Name x p) [e, e2] [] pos) (fun σ H Q => TEx F.g W ca σ H fun y H1 => TEx F.g W cb σ H1 fun y2 H2 => ∀ dd, H2 dd = none → Q (.ref (F.g.ca c)) (some dd) (upd H2 dd (.xd [(n, y), (n2, y2)]))) := by
    intro pins s σ H Q I h
    refine wpAny_Call_Name_kw (ld_glob I (ok.gl hg) (by rw [ok.mg]; exact hm) ?_ hdb)
    have ha : PA X [e, e2] (tCons (TEx F.g W ca) (tCons (TEx F.g W cb) tNil)) := pa_cons (he W X ok.toOk) (pa_cons (he2 W X ok.toOk) pa_nil (hs2 X)) (hs X)
    have im : ∀ {c : CE} {σ : St} {H : Hp} {P P' : V → Hp → Prop}, (∀ v H, P v H → P' v H) → TEx F.g W c σ H P → TEx F.g W c σ H P' := fun {c σ H P P'} k ⟨m, E, A, rh, rs', q⟩ => by
      refine ⟨m, E, A, rh, rs', ?_⟩
      cases hc : c E A with
      | ok d A1 => rw [hc] at q; exact fun m' v H' a r x => k _ _ (q m' v H' a r x)
      | exc => rw [hc] at q; exact q
      | no => rw [hc] at q; exact q
    refine PySem.W.callWith_K (h₀ := X.base) I.ok.mod.kin (by rw [ok.K]; exact T.kp) (thn (ha.run pos pins s σ H (fun vs H1 => ∃ y y2, vs = [y, y2] ∧ ∀ dd, H1 dd = none → Q (.ref (F.g.ca c)) (some dd) (upd H1 dd (.xd [(n, y), (n2, y2)]))) I
      (im (fun v H1 z => im (fun w H2 z2 => ⟨v, w, rfl, z2⟩) z) h)) fun us s1 ⟨vs, H1, I1, r1, y, y2, ev, q1⟩ => ⟨I1.kIn, ?_⟩) (hs X) (hpl X)
    subst ev
    obtain ⟨u, u2, rfl, ru, ru2⟩ := vals_two r1
    exact run_r2 (W := W) T ok.prog ok.K ok.mg hr (.inl ⟨rfl, rfl⟩) I1 ru ru2 rs q1
  refine PS.imp (ps_raise ok.calm ok.tk pm) ?_
  rintro D σ H ⟨m, E, A, rh, rs', q⟩
  refine ⟨m, E, A, rh, rs', PoS.bind (ρ := rE F.g) rs' q fun m1 H1 d y A1 g1 rh1 dv q1 => ⟨m1, E, A1, rh1, rs'.mono g1, PoS.bind (ρ := rE F.g) (rs'.mono g1) q1 fun m2 H2 e' y2 A2 g2 rh2 dv2 q2 => fun dd nd => ?_⟩⟩
  have ex := exr_new (c := c) (ds := [d, e']) (ys := [y, y2]) (by rw [T.ef]; rfl) rh2 (.cons (dv.mono g2) (.cons dv2 .nil)) nd
  rw [T.ef] at ex
  exact q2 m2 σ _ _ _ (Gr.new nd) (rh2.upd nd) (((rs'.mono g1).mono g2).mono (Gr.new nd)) ex
end Sm

/-! Sm19: try: .. / except C as e: name = e; the exception is a value from there on -/
namespace Sm
open PySem PySem.Spec PyProof.Rows L2
section
variable {X : Cx} {pins : List (Addr × Obj)} {σ : St} {H : Hp} {s : Shared}
/-- an object that stands in the state becomes a tracked one -/
theorem inv_adopt {a : Addr} {o : HO} (I : Inv X pins σ H s) (na : H a = none) (n0 : X.s_0.heap.get? a = none) (nL : a ≠ X.env.locals) (nC : ∀ y c, X.env.cells.lookup y = some c → c ≠ a) (nP : ∀ p ∈ X.pn ++ pins, p.1 ≠ a)
    (new : ObjOk X.prog X.w (upd H a o) s.heap a o) : Inv X pins σ (upd H a o) s :=
  { ok := I.ok, os := I.os, bare := I.bare, loc := I.loc, cell := I.cell, len := I.len
    base :=
      { keep := I.base.keep, slot := I.base.slot, there := I.base.there
        free := fun b ob q m e => by rw [upd_ne (fun z => by rw [z, n0] at q; cases q)]; exact I.base.free b ob q m e
        tups := fun b xs q => by
          have z := I.base.tups b xs q
          rw [upd_ne (ne_of_none z na)]; exact z
        frzs := fun b ob v q => by
          have z := I.base.frzs b ob v q
          rw [upd_ne (ne_of_none z na)]; exact z
        tbls := fun b ps q => by
          obtain ⟨more, z⟩ := I.base.tbls b ps q
          exact ⟨more, by rw [upd_ne (ne_of_none z na)]; exact z⟩ }
    free := by rw [upd_ne (Ne.symm nL)]; exact I.free
    freeC := fun y c e => by rw [upd_ne (nC y c e)]; exact I.freeC y c e
    pin := fun p hp => by
      obtain ⟨h1, h2, h3⟩ := I.pin p hp
      exact ⟨h1, by rw [upd_ne (nP p hp)]; exact h2, h3⟩
    hok := fun b ob q => by
      by_cases e : b = a
      · subst e
        rw [upd_same] at q; cases q
        exact new
      · rw [upd_ne e] at q
        exact (I.hok b ob q).stay (fun _ _ _ z => z) (fun c z => by rw [upd_ne (ne_of_none z na)]; exact z) fun c xs z => by rw [upd_ne (ne_of_none z na)]; exact z }
end

/-- what the clause «except x as n: y = n» wishes of an exception of the body -/
def wV (K : PySem.W.Frag) (c : Value) (i j : Nat) (Wout : WX) (D : Ends) : WX := fun cls d σ H =>
  ∃ b, PySem.W.exmOne K cls c = some b ∧ (b = true → ∃ C q, cls = .ref C ∧ d = some q ∧ ∀ a, H a = none → D.nx ((σ.set j (some (.ref a))).set i none) (upd H a (XO C q a))) ∧ (b = false → Wout cls d σ H)
section
variable {X : Cx} {x n y : Str} {c : Value} {i j : Nat} {body : List Stmt} {np nq py pos pos' ap : Pos} {tb : WX → TS} {Wout : WX}
theorem ps_tryv (hs : X.stack = X.env :: X.outer) (hf : X.env.frame = some X.env.locals) (hx : X.ex = []) (hN : X.N.Nodup) (hi : X.N[i]? = some n) (hln : X.env.kindOf n = some .local) (hj : X.N[j]? = some y) (hly : X.env.scope.names.lookup y = some .local) (hij : i ≠ j)
    (hnd : (n == ("__debug__" : Str)) = false) (hcd : (n == ("__classdict__" : Str)) = false) (hc : Names X x c) (tk : Takes X Wout)
    (hb : ∀ (W : WX) (pn : List (Addr × Obj)) (xe : Value → Shared → Prop), Takes (X.tr pn xe) W → PassesOwn (model X.prog X.w) X.A X.env xe → PSs (X.tr pn xe) body (tb W)) :
    PS X (.Try body [.ExceptHandler (some (.Name x np)) (some n) [.Assign [.Name y py] (.Name n nq) ap] pos'] [] [] pos) (fun D σ H => tb (wV X.K c i j Wout D) D σ H) := by
  refine ⟨fun pins s σ H D I h => ?_⟩
  have ok := I.ok
  have frm : X.A.frames = some (X.env :: X.outer) := ok.frames.trans (congrArg some hs)
  let cl : List ExceptHandler := [.ExceptHandler (some (.Name x np)) (some n) [.Assign [.Name y py] (.Name n nq) ap] pos']
  let xq : Value → Shared → Prop := fun e s₁ => wpAny (model X.prog X.w) X.A (noteFrame e X.env) (fun _ s₂ => wpAny (model X.prog X.w) X.A (setFlight e none) (fun _ s₃ => wpAny (model X.prog X.w) X.A (handleBy e X.env cl) (SP X pins D) X.xe s₃) X.xe s₂) X.xe s₁
  have caught : Takes (X.tr (X.pn ++ pins) xq) (wV X.K c i j Wout D) := by
    rintro u s' ⟨a, B, sI, pins', σ', H', cls, d, rfl, J', nb, up, sky, na, os, ag, b, hb1, hyes, hno⟩
    have J : Inv X pins σ' H' sI := J'.ofTry ok
    have sky2 : Sky B (X.env :: X.outer) a (Zc cls d) X.env.locals s'.heap := hs ▸ sky
    show wpAny (model X.prog X.w) X.A (noteFrame (.ref a) X.env) _ _ _
    refine Sky.land Zc.steady frm hf sky2 fun h3 fl3 up3 => ?_
    obtain ⟨oe3, vs3, he3, hz3, hd3⟩ := fl3.there
    have J3 : Inv X pins σ' H' { s' with heap := h3 } := J.landed nb fl3.1 (up.trans up3) os ag
    have nfr : a ∉ frs (X.env :: X.outer) := fun hm => by
      obtain ⟨_, o', e', hnf⟩ := fl3.2.2.1.mem hm
      rw [he3] at e'; cases e'
      exact hnf _ hd3
    have nL : a ≠ X.env.locals := fun z => nfr (List.mem_filterMap.mpr ⟨X.env, List.mem_cons_self, by rw [hf, z]⟩)
    have nF : a ∉ X.fs := fun hm => by
      obtain ⟨e, he, q⟩ := List.mem_filterMap.mp hm
      exact nfr (List.mem_filterMap.mpr ⟨e, List.mem_cons_of_mem _ he, q⟩)
    have new : sI.heap.get? a = none := by
      cases q : sI.heap.get? a with
      | none => rfl
      | some o =>
        have z := nb a o q (by rw [show (X.tr (X.pn ++ pins) xq).stack = X.env :: X.outer from hs]; exact nfr)
        rw [fl3.2.1] at z; cases z
    refine wpAny_handleBy_cons (codeAny_handlers_test ?_) (by intro q; cases q)
    have LT : PySem.W.Looks (model X.prog X.w) h3 (typeOf (.ref a)) cls := fun A Q E s k q => wpAny_typeOf_ref (k _ _ he3) (by rw [hz3.1]; exact q)
    have LM := PySem.W.exm_one (M := model X.prog X.w) J3.kIn LT hb1
    have S3 := J3.suite he3 hd3 na nL nF
    have test : ∀ {Q : Value → Shared → Prop} {E : Value → Shared → Prop}, Q c { s' with heap := h3 } → wpAny (model X.prog X.w) (X.A.mark (some (.ref a))) (eval (.Name x np) X.env) Q E { s' with heap := h3 } := fun {Q E} q => by
      obtain ⟨hg, hdb, hm | ⟨hm, hv, hnn⟩⟩ := hc
      · exact ld_glob (X := X.suite a ((a, oe3) :: (X.pn ++ pins))) S3 hg hm q hdb
      · exact ld_blt (X := X.suite a ((a, oe3) :: (X.pn ++ pins))) S3 hg hm hv q hnn hdb
    refine test (LM.here ?_)
    cases b with
    | false =>
      show wpAny _ X.A (handleBy (.ref a) X.env []) _ _ _
      refine wpAny_handleBy_nil ?_
      obtain ⟨_, _, _, oe, vs, T, oT, ts', he, hz, hd, h1, hr⟩ := id fl3
      unfold PySem.passOn
      refine wpAny_bind (wpAny_field he hd h1 ?_)
      rw [if_neg (show ¬ ((Value.ref T == Value.none) = true) from by simp)]
      have fin : wpAny (model X.prog X.w) X.A (setFlight (.ref a) X.env.frame) (fun _ s4 => wpAny (model X.prog X.w) X.A (throw (.ref a) : Sem Flow) (SP X pins D) X.xe s4) X.xe { s' with heap := h3 } := by
        rw [hf]
        exact HandSPX.setFlight_upZ fl3 fun h4 hh4 up4 => wpAny_throw (tk _ _ ⟨a, B, sI, pins, σ', H', cls, d, rfl, J, nb, (up.trans up3).trans up4, .inr (.inr (by rw [hs]; exact hh4)), na, os, ag, hno rfl⟩)
      first
        | exact wpAny_bind (wpAny_pure (wpAny_bind fin))
        | exact wpAny_bind fin
    | true =>
      obtain ⟨C, q, ec, ed, hD⟩ := hyes rfl
      refine codeAny_handlers_suite_as ?_
      refine HandSPX.lands_againZ fl3 fun h4 fl4 up4 => ?_
      have J4 : Inv X pins σ' H' { s' with heap := h4 } := J.landed nb fl4.1 ((up.trans up3).trans up4) os ag
      obtain ⟨oe4, vs4, he4, hz4, hd4⟩ := fl4.there
      have S4 := J4.suite he4 hd4 na nL nF
      refine store_ok (X := X.suite a ((a, oe4) :: (X.pn ++ pins))) (v := .ref a) S4 hN hi (.inl hln) rfl (fun s5 S5 => ?_) (.inr hln)
      have rule : PSs (X.suite a ((a, oe4) :: (X.pn ++ pins))) [.Assign [.Name y py] (.Name n nq) ap] _ := pss_one (ps_set (i := j) hN hj (.inl hly) (pe_var (i := i) hi (.inl hln) hnd hcd) (by rfl) (.inr hly))
      have hlen : i < σ'.length := by rw [J.len]; exact (List.getElem?_eq_some_iff.mp hi).1
      refine wpAny_mono (rule.run [] s5 _ H' { nx := fun σ6 H6 => σ6 = (σ'.set i (some (.ref a))).set j (some (.ref a)) ∧ H6 = H', rt := fun _ _ => False } S5 ⟨_, List.getElem?_set_self hlen, rfl, rfl⟩) (fun f s6 hsp => ?_) (fun _ _ z => False.elim z)
      cases f with
      | next =>
        obtain ⟨σ6, H6, S6, e1, e2⟩ := hsp
        subst e1
        subst e2
        have pin := S6.pin (a, oe4) (List.mem_append_left _ List.mem_cons_self)
        have J6 : Inv X pins ((σ'.set i (some (.ref a))).set j (some (.ref a))) H6 s6 := S6.unsuite ok
        have nIn : ∀ b o, sI.heap.get? b = some o → b ≠ a := fun b o e z => by rw [z, new] at e; cases e
        have J7 : Inv X pins ((σ'.set i (some (.ref a))).set j (some (.ref a))) (upd H6 a (XO C q a)) s6 := by
          refine inv_adopt J6 pin.2.1 ?_ nL (fun y' c' e => ?_) (fun p hp => ?_) ?_
          · cases z : X.s_0.heap.get? a with
            | none => rfl
            | some o =>
              obtain ⟨o', e⟩ := J.base.there a o z (by rw [hx]; simp)
              rw [new] at e; cases e
          · obtain ⟨w, z⟩ := J.cell y' c' e
            obtain ⟨o, e', _⟩ := z
            exact nIn _ _ e'
          · exact nIn _ _ (J.pin p hp).1
          · exact ⟨⟨oe4, vs4, pin.1, by rw [← ec, ← ed]; exact hz4, hd4⟩, ⟨oe4, pin.1⟩, fun h1 h2 ⟨oe, vs, z1, z2, z3⟩ z => ⟨oe, vs, z _ z1, z2, z3⟩⟩
        refine gone_ok J7 hN hi hln fun s7 I7 => ⟨_, _, I7, ?_⟩
        have e3 : ((σ'.set i (some (V.ref a))).set j (some (.ref a))).set i none = (σ'.set j (some (.ref a))).set i none := by
          rw [List.set_comm _ _ hij, List.set_set]
        rw [e3]
        exact hD a na
      | brk =>
        obtain ⟨_, _, _, z⟩ := hsp
        exact False.elim z
      | cont =>
        obtain ⟨_, _, _, z⟩ := hsp
        exact False.elim z
      | ret u =>
        obtain ⟨_, _, _, _, _, z⟩ := hsp
        exact False.elim z
  refine wpAny_Try_except (wpAny_mono ((hb (wV X.K c i j Wout D) (X.pn ++ pins) xq caught PassesOwn.looking).run [] s σ H D (I.toTry _) h) (fun f s1 hsp => ?_) fun _ _ z => z)
  cases f with
  | next =>
    obtain ⟨σ', H', J', q⟩ := hsp
    exact wpAny_execs_nil ⟨σ', H', J'.ofTry ok, q⟩
  | brk =>
    obtain ⟨σ', H', J', q⟩ := hsp
    exact ⟨σ', H', J'.ofTry ok, q⟩
  | cont =>
    obtain ⟨σ', H', J', q⟩ := hsp
    exact ⟨σ', H', J'.ofTry ok, q⟩
  | ret u =>
    obtain ⟨v, σ', H', J', r, q⟩ := hsp
    exact ⟨v, σ', H', J'.ofTry ok, r, q⟩
end
end Sm

/-! Sm20: try: .. / except C as e: name = e, as a code -/
namespace Sm
open PySem PySem.Spec PyProof.Rows L2
variable {F : F} {pos : Pos}
def cTryV (mt : Nat → Option Bool) (i j : Nat) (cb : CS) : CS := fun E A => match cb E A with
  | .exc c ds E1 A1 => match mt c with
    | some true => .nx ((E1.set j (some (.exc c ds))).set i none) A1
    | some false => .exc c ds E1 A1
    | none => .no
  | r => r
theorem js_tryv {x n y : Str} {i j k : Nat} {body : List Stmt} {np nq py pos' ap : Pos} {cb : CS} {mt : Nat → Option Bool} (hi : F.N[i]? = some n) (hln : F.scope.names.lookup n = some .local) (hj : F.N[j]? = some y) (hly : F.scope.names.lookup y = some .local) (hij : i ≠ j)
    (hg : Gls F.scope x) (hm : F.g.mg x = some (.ref (F.g.ca k))) (hmt : ∀ c b, mt c = some b → PySem.W.exmOne F.g.K (.ref (F.g.ca c)) (.ref (F.g.ca k)) = some b) (hb : JL F body cb)
    (hdb : (x == ("__debug__" : Str)) = false := by decide) (hnd : (n == ("__debug__" : Str)) = false := by decide) (hcd : (n == ("__classdict__" : Str)) = false := by decide) :
    JS' F (.Try body [.ExceptHandler (some (.Name x np)) (some n) [.Assign [.Name y py] (.Name n nq) ap] pos'] [] [] pos) (cTryV mt i j cb) := by
  intro W X ok
  have nm : Names X x (.ref (F.g.ca k)) := ⟨ok.gl hg, hdb, .inl (by rw [ok.mg]; exact hm)⟩
  refine PS.imp (ps_tryv (i := i) (j := j) (tb := fun W' => TSx F.g W' cb) (Wout := W) ok.hs ok.hf ok.ex (by rw [ok.N]; exact ok.nd) (by rw [ok.N]; exact hi) (by show X.env.scope.names.lookup n = _; rw [ok.sc]; exact hln) (by rw [ok.N]; exact hj) (by rw [ok.sc]; exact hly) hij hnd hcd nm ok.tk (fun W' pn xe tk pass => ?_)) ?_
  · exact hb W' _ { prog := ok.prog, w := ok.w, K := ok.K, mg := ok.mg, base := ok.base, N := ok.N, sc := ok.sc, nd := ok.nd, room := ok.room, calm := ok.calm, gd := ok.gd, tk := tk, fnb := ok.fnb, tabB := ok.tabB, fn := ok.fn, hs := ok.hs, hf := ok.hf, ex := ok.ex, pass := pass }
  · rintro D σ H ⟨m, E, A, rh, rs, q⟩
    refine ⟨m, E, A, rh, rs, ?_⟩
    unfold cTryV at q
    cases hc : cb E A with
    | nx => simp only [hc] at q; exact q
    | rt => simp only [hc] at q; exact q
    | bk => simp only [hc] at q; exact q
    | ct => simp only [hc] at q; exact q
    | no => simp only [hc] at q; exact q
    | exc c ds E1 A1 =>
      simp only [hc] at q
      intro m' σ' H' cls d gr rh' rs' ex
      obtain ⟨rfl, dd, vs, rfl, hq, hqm, hl, dv⟩ := ex
      cases hmc : mt c with
      | none => simp only [hmc] at q; exact q.elim
      | some b =>
        simp only [hmc] at q
        refine ⟨b, by rw [ok.K]; exact hmt c b hmc, fun eb => ?_, fun eb => ?_⟩
        · subst eb
          refine ⟨F.g.ca c, dd, rfl, rfl, fun a na => ?_⟩
          have g2 : Gr m' m' H' (upd H' a (XO (F.g.ca c) dd a)) := Gr.new na
          have ne : dd ≠ a := ne_of_none hq na
          refine q m' _ _ (gr.trans g2) (rh'.upd na) (RS.unset (RS.set (rs'.mono g2) j (.exc upd_same (rh'.new na) ?_ hqm hl (dv.mono g2))) i)
          rw [upd_ne ne]; exact hq
        · subst eb
          exact q m' σ' H' _ _ gr rh' rs' ⟨rfl, dd, vs, rfl, hq, hqm, hl, dv⟩
end Sm

/-! Sm21: calls apart from the heap; what a turn leaves behind is let go -/
namespace Sm
open PySem PySem.Spec PyProof.Rows L2
/-! ### values without references -/
mutual
def pureD : D → Bool
  | .ref _ => false
  | .tup ds => pureDs ds
  | .lst ds => pureDs ds
  | .dct _ ds => pureDs ds
  | .exc _ ds => pureDs ds
  | .lam _ ds => pureDs ds
  | _ => true
def pureDs : List D → Bool
  | [] => true
  | d :: ds => pureD d && pureDs ds
end
mutual
/-- .. and no dicts -/
def pureR : D → Bool
  | .ref _ => false
  | .dct _ _ => false
  | .lam _ _ => false
  | .tup ds => pureRs ds
  | .lst ds => pureRs ds
  | .exc _ ds => pureRs ds
  | _ => true
def pureRs : List D → Bool
  | [] => true
  | d :: ds => pureR d && pureRs ds
end
section
variable {g : G} {H : Hp} {m : List Addr}
theorem CellsV.to0 {cl : List (Str × Addr)} : ∀ {xs : List Str} {vs : List V}, CellsV H m cl xs vs → CellsV H [] cl xs vs
  | _, _, .nil => .nil
  | _, _, .cons h1 h2 h3 h4 h5 h6 => .cons h1 h2 (by simp) h4 h5 (CellsV.to0 h6)
theorem CellsQ.to0 {cl : List (Str × Addr)} {xs : List Str} {vs : List V} (h : CellsQ H m cl xs vs) : CellsQ H [] cl xs vs := ⟨h.ok, h.v.to0⟩
mutual
theorem DV.to0 : ∀ {d : D} {v : V}, pureD d = true → DV g H m d v → DV g H [] d v
  | _, _, _, .non => .non
  | _, _, _, .bl b => .bl b
  | _, _, _, .int i => .int i
  | _, _, _, .str x => .str x
  | _, _, _, .ty n => .ty n
  | _, _, e, .tup h hs => .tup (h.imp (fun h => ⟨h.1, by simp⟩) id) (DVs.to0 (by unfold pureD at e; exact e) hs)
  | _, _, e, .lst h hs => .lst (h.imp (fun ⟨o, h1, _⟩ => ⟨o, h1, by simp⟩) id) (DVs.to0 (by unfold pureD at e; exact e) hs)
  | _, _, e, .dct ⟨o, h1, _⟩ hl hs => .dct ⟨o, h1, by simp⟩ hl (DVs.to0 (by unfold pureD at e; exact e) hs)
  | _, _, e, .ref h => by unfold pureD at e; cases e
  | _, _, _, .cls c => .cls c
  | _, _, _, .fn f => .fn f
  | _, _, e, .exc h1 h2 h3 h4 h6 h5 => .exc h1 (by simp) h3 (by simp) h6 (DVs.to0 (by unfold pureD at e; exact e) h5)
  | _, _, e, .lam h1 h2 h3 h4 h5 h6 => .lam h1 (by simp) h3 (by simp) h5.to0 (DVs.to0 (by unfold pureD at e; exact e) h6)
theorem DVs.to0 : ∀ {ds : List D} {vs : List V}, pureDs ds = true → DVs g H m ds vs → DVs g H [] ds vs
  | _, _, _, .nil => .nil
  | _, _, e, .cons h hs => by
    unfold pureDs at e
    rw [Bool.and_eq_true] at e
    exact .cons (DV.to0 e.1 h) (DVs.to0 e.2 hs)
end
/-- what stands at the abstract heap's addresses -/
theorem AOR.kind {o : AO} {p : Addr} (h : AOR g H m o p) : ∃ u, H p = some u ∧ (∀ xs, u ≠ .tup xs) ∧ (∀ ob xs, u ≠ .frz ob (.lst xs)) ∧ (∀ φ, u ≠ .ext φ) ∧ (∀ fs, u ≠ .xd fs) := by
  cases o with
  | lst ds => obtain ⟨_, h, _⟩ := h; exact ⟨_, h, by simp, by simp, by simp, by simp⟩
  | dct lk kvs =>
    cases lk with
    | false => obtain ⟨_, h, _⟩ := h; exact ⟨_, h, by simp, by simp, by simp, by simp⟩
    | true => obtain ⟨_, _, h, _⟩ := h; exact ⟨_, h, by simp, by simp, by simp, by simp⟩
  | dtt lk kvs =>
    cases lk with
    | false => obtain ⟨_, h, _⟩ := h; exact ⟨_, h, by simp, by simp, by simp, by simp⟩
    | true => obtain ⟨_, _, h, _⟩ := h; exact ⟨_, h, by simp, by simp, by simp, by simp⟩
  | ins c fs => obtain ⟨_, _, h, _⟩ := h; exact ⟨_, h, by simp, by simp, by simp, by simp⟩
theorem RH.not_in {A : HA} (rh : RH g H m A) {p : Addr} {u : HO} (e : H p = some u) (k : (∃ xs, u = .tup xs) ∨ (∃ ob xs, u = .frz ob (.lst xs)) ∨ (∃ φ, u = .ext φ) ∨ (∃ fs, u = .xd fs)) : p ∉ m := fun hp => by
  obtain ⟨o, h⟩ := Paired.memL rh.at_ hp
  obtain ⟨u', e', k1, k2, k3, k4⟩ := AOR.kind h
  rw [e] at e'
  cases e'
  rcases k with ⟨_, z⟩ | ⟨_, _, z⟩ | ⟨_, z⟩ | ⟨_, z⟩
  · exact k1 _ z
  · exact k2 _ _ z
  · exact k3 _ z
  · exact k4 _ z
mutual
theorem DV.toM {A : HA} {m' : List Addr} (rh : RH g H m' A) : ∀ {d : D} {v : V}, pureR d = true → DV g H m d v → DV g H m' d v
  | _, _, _, .non => .non
  | _, _, _, .bl b => .bl b
  | _, _, _, .int i => .int i
  | _, _, _, .str x => .str x
  | _, _, _, .ty n => .ty n
  | _, _, e, .tup h hs => .tup (h.imp (fun h => ⟨h.1, rh.not_in h.1 (.inl ⟨_, rfl⟩)⟩) id) (DVs.toM rh (by unfold pureR at e; exact e) hs)
  | _, _, e, .lst h hs => .lst (h.imp (fun ⟨o, h1, _⟩ => ⟨o, h1, rh.not_in h1 (.inr (.inl ⟨_, _, rfl⟩))⟩) id) (DVs.toM rh (by unfold pureR at e; exact e) hs)
  | _, _, e, .dct _ _ _ => by unfold pureR at e; cases e
  | _, _, e, .ref h => by unfold pureR at e; cases e
  | _, _, e, .lam _ _ _ _ _ _ => by unfold pureR at e; cases e
  | _, _, _, .cls c => .cls c
  | _, _, _, .fn f => .fn f
  | _, _, e, .exc h1 h2 h3 h4 h6 h5 => .exc h1 (rh.not_in h1 (.inr (.inr (.inl ⟨_, rfl⟩)))) h3 (rh.not_in h3 (.inr (.inr (.inr ⟨_, rfl⟩)))) h6 (DVs.toM rh (by unfold pureR at e; exact e) h5)
theorem DVs.toM {A : HA} {m' : List Addr} (rh : RH g H m' A) : ∀ {ds : List D} {vs : List V}, pureRs ds = true → DVs g H m ds vs → DVs g H m' ds vs
  | _, _, _, .nil => .nil
  | _, _, e, .cons h hs => by
    unfold pureRs at e
    rw [Bool.and_eq_true] at e
    exact .cons (DV.toM rh e.1 h) (DVs.toM rh e.2 hs)
end
end
/-! ### calls apart from the heap -/
def isoF (c : CF) : CF := fun ds A => if pureDs ds = true then match c ds [] with
    | .ok d _ => if pureR d = true then .ok d A else .no
    | .exc k es _ => if pureRs es = true then .exc k es A else .no
    | .no => .no
  else .no
theorem SpC.iso {g : G} {c : CF} {n : Nat} {vs : List V} {H : Hp} {Q : VK} {E : L2.XK} (h : SpC g (isoF c) n vs H Q E) : SpC g c n vs H Q E := by
  obtain ⟨m, ds, A, rh, dv, hl, q⟩ := h
  unfold isoF at q
  by_cases hp : pureDs ds = true
  · rw [if_pos hp] at q
    have grow : ∀ {m' : List Addr} {H' : Hp} {A' : HA}, Gr [] m' H H' → RH g H' m' A' → Gr m m H H' ∧ RH g H' m A := fun {m' H' A'} gr r' => by
      have g2 : Gr m m H H' := ⟨⟨[], by simp, by simp⟩, fun p o e _ ht => gr.keep p o e (by simp) ht, gr.tbl, gr.non⟩
      exact ⟨g2, rh.nd, Paired.mapR rh.at_ fun p o r => r.mono g2 (by obtain ⟨u, hu, k1, _⟩ := r.kinds; rw [gr.keep p u hu (by simp) k1, hu]), r'.tb, rh.tbm⟩
    refine ⟨[], ds, [], ⟨List.nodup_nil, .nil, rh.tb, fun _ _ => by simp⟩, DVs.to0 hp dv, hl, ?_⟩
    cases hc : c ds [] with
    | ok d h =>
      simp only [hc] at q
      by_cases hr : pureR d = true
      · rw [if_pos hr] at q
        intro m' v H' gr rh' dv'
        obtain ⟨g2, rh2⟩ := grow gr rh'
        exact q m v H' g2 rh2 (DV.toM rh2 hr dv')
      · rw [if_neg hr] at q; exact q.elim
    | exc k es h =>
      simp only [hc] at q
      by_cases hr : pureRs es = true
      · rw [if_pos hr] at q
        intro m' H' cls d gr rh' ex
        obtain ⟨g2, rh2⟩ := grow gr rh'
        obtain ⟨e1, dd, us, e2, e3, e4, e5, e6⟩ := ex
        exact q m H' cls d g2 rh2 ⟨e1, dd, us, e2, e3, rh2.not_in e3 (.inr (.inr (.inr ⟨_, rfl⟩))), e5, DVs.toM rh2 hr e6⟩
      · rw [if_neg hr] at q; exact q.elim
    | no => simp only [hc] at q
  · rw [if_neg hp] at q; exact q.elim
theorem CallOk.iso {g : G} {k : Nat} {a : Addr} {ps : List Str} {c : CF} (h : CallOk g k a ps c) : CallOk g k a ps (isoF c) := by
  obtain ⟨⟨fd, f, b⟩, kp⟩ := h
  exact ⟨⟨fd, ⟨fun vs H Q E q => f.len vs H Q E q.iso, fun A outer s H args us vs Q E hr hg e0 hb hv q => f.run A outer s H args us vs Q E hr hg e0 hb hv q.iso⟩, b⟩, kp⟩
theorem iso_ok {c : CF} {ds : List D} {d : D} {A0 A : HA} (hp : pureDs ds = true) (h : c ds [] = .ok d A0) (hr : pureR d = true) : isoF c ds A = .ok d A := by
  unfold isoF
  rw [if_pos hp, h]
  exact if_pos hr
theorem iso_exc {c : CF} {ds es : List D} {k : Nat} {A0 A : HA} (hp : pureDs ds = true) (h : c ds [] = .exc k es A0) (hr : pureRs es = true) : isoF c ds A = .exc k es A := by
  unfold isoF
  rw [if_pos hp, h]
  exact if_pos hr
/-! ### what is left behind is let go -/
mutual
def refsLt (k : Nat) : D → Bool
  | .ref a => decide (a < k)
  | .tup ds => refsLts k ds
  | .lst ds => refsLts k ds
  | .dct _ ds => refsLts k ds
  | .exc _ ds => refsLts k ds
  | .lam _ ds => refsLts k ds
  | _ => true
def refsLts (k : Nat) : List D → Bool
  | [] => true
  | d :: ds => refsLt k d && refsLts k ds
end
def aoLt (k : Nat) : AO → Bool
  | .lst ds => refsLts k ds
  | .dct _ kvs => kvs.all fun p => refsLt k p.2
  | .dtt _ kvs => kvs.all fun p => refsLt k p.2
  | .ins _ fs => fs.all fun p => refsLt k p.2
section
variable {g : G} {H : Hp} {m n : List Addr}
theorem CellsV.less {cl : List (Str × Addr)} : ∀ {xs : List Str} {vs : List V}, CellsV H (m ++ n) cl xs vs → CellsV H m cl xs vs
  | _, _, .nil => .nil
  | _, _, .cons h1 h2 h3 h4 h5 h6 => .cons h1 h2 (fun z => h3 (List.mem_append_left _ z)) h4 h5 (CellsV.less h6)
theorem CellsQ.less {cl : List (Str × Addr)} {xs : List Str} {vs : List V} (h : CellsQ H (m ++ n) cl xs vs) : CellsQ H m cl xs vs := ⟨h.ok, h.v.less⟩
mutual
theorem DV.less : ∀ {d : D} {v : V}, refsLt m.length d = true → DV g H (m ++ n) d v → DV g H m d v
  | _, _, _, .non => .non
  | _, _, _, .bl b => .bl b
  | _, _, _, .int i => .int i
  | _, _, _, .str x => .str x
  | _, _, _, .ty n => .ty n
  | _, _, e, .tup h hs => .tup (h.imp (fun h => ⟨h.1, fun z => h.2 (List.mem_append_left _ z)⟩) id) (DVs.less (by unfold refsLt at e; exact e) hs)
  | _, _, e, .lst h hs => .lst (h.imp (fun ⟨o, h1, h2⟩ => ⟨o, h1, fun z => h2 (List.mem_append_left _ z)⟩) id) (DVs.less (by unfold refsLt at e; exact e) hs)
  | _, _, e, .dct ⟨o, h1, h2⟩ hl hs => .dct ⟨o, h1, fun z => h2 (List.mem_append_left _ z)⟩ hl (DVs.less (by unfold refsLt at e; exact e) hs)
  | _, _, e, .ref h => .ref (by unfold refsLt at e; rw [List.getElem?_append_left (of_decide_eq_true e)] at h; exact h)
  | _, _, _, .cls c => .cls c
  | _, _, _, .fn f => .fn f
  | _, _, e, .exc h1 h2 h3 h4 h6 h5 => .exc h1 (fun z => h2 (List.mem_append_left _ z)) h3 (fun z => h4 (List.mem_append_left _ z)) h6 (DVs.less (by unfold refsLt at e; exact e) h5)
  | _, _, e, .lam h1 h2 h3 h4 h5 h6 => .lam h1 (fun z => h2 (List.mem_append_left _ z)) h3 (fun z => h4 (List.mem_append_left _ z)) h5.less (DVs.less (by unfold refsLt at e; exact e) h6)
theorem DVs.less : ∀ {ds : List D} {vs : List V}, refsLts m.length ds = true → DVs g H (m ++ n) ds vs → DVs g H m ds vs
  | _, _, _, .nil => .nil
  | _, _, e, .cons h hs => by
    unfold refsLts at e
    rw [Bool.and_eq_true] at e
    exact .cons (DV.less e.1 h) (DVs.less e.2 hs)
end
theorem paired_less {α β : Type} {R R' : α → β → Prop} {t : α → Bool} : ∀ {l₁ : List α} {l₂ : List β}, Paired R l₁ l₂ → l₁.all t = true → (∀ a b, t a = true → R a b → R' a b) → Paired R' l₁ l₂
  | _, _, .nil, _, _ => .nil
  | _, _, .cons r p, e, f => by
    rw [List.all_cons, Bool.and_eq_true] at e
    exact .cons (f _ _ e.1 r) (paired_less p e.2 f)
theorem AOR.less {o : AO} {p : Addr} (e : aoLt m.length o = true) (h : AOR g H (m ++ n) o p) : AOR g H m o p := by
  cases o with
  | lst ds => obtain ⟨vs, h1, h2⟩ := h; exact ⟨vs, h1, DVs.less e h2⟩
  | dct lk kvs =>
    cases lk with
    | false => obtain ⟨ks, h1, h2⟩ := h; exact ⟨ks, h1, paired_less h2 e fun a b t r => ⟨r.1, DV.less t r.2⟩⟩
    | true => obtain ⟨o, ks, h1, h2⟩ := h; exact ⟨o, ks, h1, paired_less h2 e fun a b t r => ⟨r.1, DV.less t r.2⟩⟩
  | dtt lk kvs =>
    cases lk with
    | false => obtain ⟨ks, h1, h2⟩ := h; exact ⟨ks, h1, paired_less h2 e fun a b t r => ⟨r.1, DV.less t r.2⟩⟩
    | true => obtain ⟨o, ks, h1, h2⟩ := h; exact ⟨o, ks, h1, paired_less h2 e fun a b t r => ⟨r.1, DV.less t r.2⟩⟩
  | ins c fs => obtain ⟨dx, us, h1, h2⟩ := h; exact ⟨dx, us, h1, paired_less h2 e fun a b t r => ⟨r.1, DV.less t r.2⟩⟩
theorem paired_take {α β : Type} {R : α → β → Prop} : ∀ {l₁ k : List α} {l₂ : List β}, Paired R (l₁ ++ k) l₂ → Paired R l₁ (l₂.take l₁.length)
  | [], _, _, _ => by simp; exact .nil
  | _ :: _, _, _, .cons r p => .cons r (paired_take p)
theorem paired_lessR {α β : Type} {R R' : α → β → Prop} {t : β → Bool} : ∀ {l₁ : List α} {l₂ : List β}, Paired R l₁ l₂ → l₂.all t = true → (∀ a b, t b = true → R a b → R' a b) → Paired R' l₁ l₂
  | _, _, .nil, _, _ => .nil
  | _, _, .cons r p, e, f => by
    rw [List.all_cons, Bool.and_eq_true] at e
    exact .cons (f _ _ e.1 r) (paired_lessR p e.2 f)
theorem RH.less {A : HA} (rh : RH g H (m ++ n) A) (e : (A.take m.length).all (aoLt m.length) = true) : RH g H m (A.take m.length) :=
  ⟨(List.nodup_append.mp rh.nd).1, paired_lessR (paired_take rh.at_) e fun a b t r => AOR.less t r, rh.tb, fun q hq z => rh.tbm q hq (List.mem_append_left _ z)⟩
end
def gcE (k : Nat) (E : SA) : SA := E.map fun o => match o with
  | some d => if refsLt k d = true then some d else none
  | none => none
theorem RS.less {g : G} {H : Hp} {m n : List Addr} {E : SA} {σ : St} (h : RS g H (m ++ n) E σ) : RS g H m (gcE m.length E) σ := by
  refine ⟨by unfold gcE; rw [List.length_map]; exact h.len, fun i d e => ?_⟩
  unfold gcE at e
  rw [List.getElem?_map] at e
  cases h1 : E[i]? with
  | none => rw [h1] at e; cases e
  | some o =>
    rw [h1] at e
    cases o with
    | none => simp at e
    | some d' =>
      simp only [Option.map_some, Option.some.injEq] at e
      split at e
      · rename_i hr
        cases e
        obtain ⟨v, h2, h3⟩ := h.at_ i d h1
        exact ⟨v, h2, DV.less hr h3⟩
      · cases e
/-- behind c all new objects are let go -/
def gcS (k : Nat) (r : RSt) : RSt := match r with
  | .nx E A => if (A.take k).all (aoLt k) = true then .nx (gcE k E) (A.take k) else .no
  | .ct E A => if (A.take k).all (aoLt k) = true then .ct (gcE k E) (A.take k) else .no
  | r => r
def cGc (c : CS) : CS := fun E A => gcS A.length (c E A)
theorem Paired.lenR {α β : Type} {R : α → β → Prop} : ∀ {l₁ : List α} {l₂ : List β}, Paired R l₁ l₂ → l₁.length = l₂.length
  | _, _, .nil => rfl
  | _, _, .cons _ p => by simp [Paired.lenR p]
theorem TSx.gc {g : G} {W : WX} {c : CS} {D : Ends} {σ : St} {H : Hp} (h : TSx g W (cGc c) D σ H) : TSx g W c D σ H := by
  obtain ⟨m, E, A, rh, rs, q⟩ := h
  refine ⟨m, E, A, rh, rs, ?_⟩
  unfold cGc at q
  have hl : A.length = m.length := (Paired.lenR rh.at_).symm
  rw [hl] at q
  cases hc : c E A with
  | nx E1 A1 =>
    rw [hc] at q
    have q : PoS g m H W (if (A1.take m.length).all (aoLt m.length) = true then .nx (gcE m.length E1) (A1.take m.length) else .no) D := q
    split at q
    · rename_i he
      intro m' σ' H' gr rh' rs'
      obtain ⟨n, rfl, hn⟩ := gr.ext
      exact q m σ' H' ⟨⟨[], by simp, by simp⟩, fun p o e hm ht => gr.keep p o e hm ht, gr.tbl, gr.non⟩ (rh'.less he) rs'.less
    · exact q.elim
  | ct E1 A1 =>
    rw [hc] at q
    have q : PoS g m H W (if (A1.take m.length).all (aoLt m.length) = true then .ct (gcE m.length E1) (A1.take m.length) else .no) D := q
    split at q
    · rename_i he
      intro m' σ' H' gr rh' rs'
      obtain ⟨n, rfl, hn⟩ := gr.ext
      exact q m σ' H' ⟨⟨[], by simp, by simp⟩, fun p o e hm ht => gr.keep p o e hm ht, gr.tbl, gr.non⟩ (rh'.less he) rs'.less
    · exact q.elim
  | rt => rw [hc] at q; exact q
  | bk => rw [hc] at q; exact q
  | exc => rw [hc] at q; exact q
  | no => rw [hc] at q; exact q
theorem jl_gc {F : F} {s : List Stmt} {c : CS} (h : JL F s c) : JL F s (cGc c) := fun W X ok => PSs.imp (h W X ok) fun _ _ _ q => q.gc
theorem js_gc {F : F} {s : Stmt} {c : CS} (h : JS' F s c) : JS' F s (cGc c) := fun W X ok => PS.imp (h W X ok) fun _ _ _ q => q.gc
end Sm

/-! Sm22: instances of the text's own classes: fields, making, methods; calls without arguments -/
namespace Sm
open PySem PySem.Spec PyProof.Rows L2
variable {F : F} {pos : Pos}
theorem DVs.cons_inv {g : G} {H : Hp} {m : List Addr} {ds : List D} {v : V} {vs : List V} (h : DVs g H m ds (v :: vs)) : ∃ d es, ds = d :: es ∧ DV g H m d v ∧ DVs g H m es vs := by
  cases h with
  | cons h hs => exact ⟨_, _, rfl, h, hs⟩
/-! ### fields -/
def lookF (fs : List (Str × D)) (f : Str) : Option D := match fs with
  | [] => none
  | (k, d) :: r => if k = f then some d else lookF r f
def putFD (f : Str) (v : D) : List (Str × D) → List (Str × D)
  | [] => [(f, v)]
  | (k, d) :: r => if k = f then (k, v) :: r else (k, d) :: putFD f v r
theorem lookF_rel {g : G} {H : Hp} {m : List Addr} {f : Str} : ∀ {fs : List (Str × D)} {us : List (Str × V)}, FVR g H m fs us → (∀ d, lookF fs f = some d → ∃ v, us.lookup f = some v ∧ DV g H m d v) ∧ (lookF fs f = none → us.lookup f = none)
  | _, _, .nil => ⟨fun d e => (by cases e), fun _ => rfl⟩
  | (k, d) :: fs, (k', v) :: us, .cons r t => by
    obtain ⟨h1, h2⟩ := lookF_rel (f := f) t
    obtain ⟨rk, rd⟩ := r
    obtain rfl : k = k' := rk
    have e : List.lookup f ((k, v) :: us) = if k = f then some v else List.lookup f us := by
      rw [List.lookup_cons]
      by_cases q : k = f
      · subst q; simp
      · rw [if_neg q]
        have : (f == k) = false := by rw [beq_eq_false_iff_ne]; exact fun z => q z.symm
        rw [this]
    rw [e]
    unfold lookF
    by_cases q : k = f
    · rw [if_pos q, if_pos q]
      exact ⟨fun d' z => by cases z; exact ⟨v, rfl, rd⟩, fun z => by cases z⟩
    · rw [if_neg q, if_neg q]
      exact ⟨h1, h2⟩
theorem putFD_rel {g : G} {H : Hp} {m : List Addr} {f : Str} {d : D} {v : V} (h : DV g H m d v) : ∀ {fs : List (Str × D)} {us : List (Str × V)}, FVR g H m fs us → FVR g H m (putFD f d fs) (putF f v us)
  | _, _, .nil => .cons ⟨rfl, h⟩ .nil
  | (k, d') :: fs, (k', v') :: us, .cons r t => by
    obtain ⟨rk, rd⟩ := r
    obtain rfl : k = k' := rk
    unfold putFD putF
    by_cases q : k = f
    · rw [if_pos q, if_pos q]; exact .cons ⟨rfl, h⟩ t
    · rw [if_neg q, if_neg q]; exact .cons ⟨rfl, rd⟩ (putFD_rel h t)
/-- the class c has instances with own dicts -/
abbrev ClsOk (g : G) (c : Nat) : Prop := Cls g.K (g.ca c)
abbrev FldOk (g : G) (c : Nat) (f : Str) : Prop := NoAttr g.K (g.ca c) f
def cFld (cs : List Nat) (f : Str) (co : CE) : CE := fun E A => (co E A).bind fun d A1 => match d with
  | .ref a => match A1[a]? with
    | some (.ins c fs) => if c ∈ cs then (match lookF fs f with
      | some v => .ok v A1
      | none => .no) else .no
    | _ => .no
  | _ => .no
theorem je_fld {cs : List Nat} {f : Str} {o : Expr} {co : CE} (hc : ∀ c ∈ cs, ClsOk F.g c ∧ FldOk F.g c f) (ho : JE F o co) (hb : ∀ X : Cx, attributeBase o f X.env (eval o X.env) = eval o X.env := by intro _; rfl) : JE F (.Attribute o f pos) (cFld cs f co) := by
  intro W X ok
  refine PE.imp (pe_fld (ho W X ok) (hb X)) ?_
  rintro σ H Q ⟨m, E, A, rh, rs, q⟩
  refine ⟨m, E, A, rh, rs, Po.bind q fun m1 H1 d x A1 g1 rh1 dx q1 => ?_⟩
  split at q1
  · rename_i a
    split at q1
    · rename_i c fs ha
      split at q1
      · rename_i hm
        obtain ⟨p, rfl, hp⟩ := dx.ref_inv
        obtain ⟨p', hp', dd, us, h1, h2⟩ := rh1.get ha
        rw [hp] at hp'; cases hp'
        obtain ⟨k1, k2⟩ := hc c hm
        cases hl : lookF fs f with
        | none => rw [hl] at q1; exact q1.elim
        | some v =>
          rw [hl] at q1
          obtain ⟨w, hw, dw⟩ := (lookF_rel h2).1 v hl
          exact ⟨p, F.g.ca c, dd, us, w, rfl, h1, by rw [ok.K]; exact k1, by rw [ok.K]; exact k2, hw, Po.ok q1 rh1 dw⟩
      · exact q1.elim
    · exact q1.elim
  · exact q1.elim
def setFld (cs : List Nat) (f : Str) (d v : D) (A : HA) : Option HA := match d with
  | .ref a => match A[a]? with
    | some (.ins c fs) => if c ∈ cs ∧ fs.length < 1000 then some (A.set a (.ins c (putFD f v fs))) else none
    | _ => none
  | _ => none
theorem setFld_rel {g : G} {H : Hp} {m : List Addr} {A A' : HA} {cs : List Nat} {f : Str} {d v : D} {x y : V} (hc : ∀ c ∈ cs, ClsOk g c ∧ FldOk g c f) (rh : RH g H m A) (dx : DV g H m d x) (dy : DV g H m v y) (h : setFld cs f d v A = some A') :
    ∃ a C dd us, x = .ref a ∧ H a = some (.ins C dd us) ∧ Cls g.K C ∧ NoAttr g.K C f ∧ us.length < 1000 ∧ RH g (L2.upd H a (.ins C dd (putF f y us))) m A' ∧ Gr m m H (L2.upd H a (.ins C dd (putF f y us))) := by
  unfold setFld at h
  split at h
  · rename_i a
    split at h
    · rename_i c fs ha
      split at h
      · rename_i hm
        cases h
        obtain ⟨p, rfl, hp⟩ := dx.ref_inv
        obtain ⟨p', hp', dd, us, h1, h2⟩ := rh.get ha
        rw [hp] at hp'; cases hp'
        obtain ⟨k1, k2⟩ := hc c hm.1
        have gr : Gr m m H (L2.upd H p (.ins (g.ca c) dd (putF f y us))) := Gr.chg hp ⟨_, h1, by simp⟩
        refine ⟨p, g.ca c, dd, us, rfl, h1, k1, k2, by rw [← Paired.lenR h2]; exact hm.2, rh.set hp ⟨_, h1⟩ ⟨dd, _, upd_same, ?_⟩, gr⟩
        exact putFD_rel (dy.mono gr) (Paired.mapR h2 fun _ _ z => ⟨z.1, z.2.mono gr⟩)
      · cases h
    · cases h
  · cases h
/-- o.f = e -/
def cSetF (cs : List Nat) (f : Str) (co ce : CE) : CS := fun E A => RSt.of (ce E A) E fun v A1 => RSt.of (co E A1) E fun d A2 => match setFld cs f d v A2 with
  | some A3 => .nx E A3
  | none => .no
theorem js_setf {cs : List Nat} {f : Str} {o e : Expr} {co ce : CE} {pos' : Pos} (hc : ∀ c ∈ cs, ClsOk F.g c ∧ FldOk F.g c f) (ho : JE F o co) (he : JE F e ce) (hs : ∀ X : Cx, swapsWith e (some (.Attribute o f pos')) pos.line X.env = pure false := by intro _; rfl) :
    JS' F (.Assign [.Attribute o f pos'] e pos) (cSetF cs f co ce) := by
  intro W X ok
  refine PS.imp (ps_fld (ho W X ok.toOk) (he W X ok.toOk) (hs X)) ?_
  rintro D σ H ⟨m, E, A, rh, rs, q⟩
  refine ⟨m, E, A, rh, rs, PoS.bind (ρ := rE F.g) rs q fun m1 H1 v y A1 g1 rh1 dy q1 => ⟨m1, E, A1, rh1, rs.mono g1, PoS.bind (ρ := rE F.g) (rs.mono g1) q1 fun m2 H2 d x A2 g2 rh2 dx q2 => ?_⟩⟩
  split at q2
  · rename_i A3 h3
    obtain ⟨a, C, dd, us, e1, e2, e3, e4, e5, e6, e7⟩ := setFld_rel hc rh2 dx (dy.mono g2) h3
    exact ⟨a, C, dd, us, e1, e2, by rw [ok.K]; exact e3, by rw [ok.K]; exact e4, e5, q2 m2 σ _ e7 e6 (((rs.mono g1).mono g2).mono e7)⟩
  · exact q2.elim
/-- an attribute as a target -/
theorem pg_attr {X : Cx} {o : Expr} {f : Str} {to : TE} {pos : Pos} (ho : PE X o to) : PG X (.Attribute o f pos) (fun v σ H Q => to σ H fun x H2 => ∃ a C dx fs, x = .ref a ∧ H2 a = some (.ins C dx fs) ∧ Cls X.K C ∧ NoAttr X.K C f ∧ fs.length < 1000 ∧ Q σ (upd H2 a (.ins C dx (putF f v fs)))) := by
  refine ⟨fun pins s σ H v u Q I r h => ?_⟩
  rw [assign_Attribute]
  refine wpAny_bind (wpAny_holding (thn (ho.run pins s σ H _ I h) fun ov s1 ⟨x, H1, I1, r1, a, C, dx, fs, ex, ea, c, n, l, q⟩ => ?_))
  subst ex
  obtain rfl : ov = Value.ref a := r1
  refine wpAny_bind (wpAny_standAt (wpAny_bind (wpAny_holding (setattr_ok I1 ea c n l r fun s2 I2 => ?_))))
  exact wpAny_release ⟨σ, _, I2, q⟩
def gAttr (cs : List Nat) (f : Str) (co : CE) : CG := fun v E A => match co E A with
  | .ok d A1 => match setFld cs f d v A1 with
    | some A2 => .nx E A2
    | none => .no
  | _ => .no
theorem jg_attr {cs : List Nat} {f : Str} {o : Expr} {co : CE} {vs : List Nat} (hc : ∀ c ∈ cs, ClsOk F.g c ∧ FldOk F.g c f) (ho : JE F o co) : JG F vs (.Attribute o f pos) (gAttr cs f co) := by
  intro W X ok fc
  refine PG.imp (pg_attr (ho W X ok)) ?_
  rintro y σ H Q ⟨m, E, A, v, rh, rs, dy, q⟩
  unfold gAttr at q
  refine ⟨m, E, A, rh, rs, ?_⟩
  cases h : co E A with
  | ok d A1 =>
    rw [h] at q
    intro m1 x H1 g1 rh1 dx
    cases h3 : setFld cs f d v A1 with
    | none => simp only [h3] at q; exact q.elim
    | some A2 =>
      simp only [h3] at q
      obtain ⟨a, C, dd, us, e1, e2, e3, e4, e5, e6, e7⟩ := setFld_rel hc rh1 dx (dy.mono g1) h3
      exact ⟨a, C, dd, us, e1, e2, by rw [ok.K]; exact e3, by rw [ok.K]; exact e4, e5, q m1 σ _ (g1.trans e7) e6 ((rs.mono g1).mono e7) rfl⟩
  | exc => rw [h] at q; exact q.elim
  | no => rw [h] at q; exact q.elim
end Sm

/-! Sm23: calls without arguments; methods; instances made -/
namespace Sm
open PySem PySem.Spec PyProof.Rows L2
variable {F : F} {pos : Pos}
/-- f() -/
theorem je_call0 {x : Str} {a : Addr} {c : CF} {p : Pos} (h : CallOk F.g F.k a [] c) (hg : Gls F.scope x) (hm : F.g.mg x = some (.ref a)) (hdb : (x == ("__debug__" : Str)) = false := by decide) : JE F (.Call (.Name x p) [] [] pos) (cCall c cNil) := by
  intro W X ok
  obtain ⟨fd, f, b⟩ := h.ex
  refine ⟨fun pins s σ H Q I hq => ?_⟩
  obtain ⟨m, E, A, rh, rs, q⟩ := hq
  refine wpAny_Call_Name_kw (ld_glob I (ok.gl hg) (by rw [ok.mg]; exact hm) ?_ hdb)
  refine PySem.W.callWith_K0 I.kIn (by rw [ok.K]; exact h.kp) (run_g (us := []) (vs := []) (E := fun σ cls d H2 => W cls d σ H2) ok f b (passAt ok.tk σ) I .nil ?_)
  refine ⟨m, [], A, rh, .nil, rfl, ?_⟩
  have q : Po (rE F.g) F.g m H W σ (c [] A) Q := q
  cases hc : c [] A with
  | ok d h => rw [hc] at q; exact q
  | exc => rw [hc] at q; exact q
  | no => rw [hc] at q; exact q.elim
/-! ### methods -/
structure MethOk (g : G) (k : Nat) (c : Nat) (m : Str) (n : Nat) (cf : CF) : Prop where
  cl : ClsOk g c
  ex : ∃ (f : Addr) (fd : FuncData) (ps : List Str), Meth g.K (g.ca c) m f ∧ FnG g k f fd ps (SpC g cf ps.length) ∧ Binds g.K fd ps [] ∧ ps.length = n + 1
theorem MethOk.mono {g : G} {j k c n : Nat} {m : Str} {cf : CF} (h : MethOk g j c m n cf) (z : j ≤ k) : MethOk g k c m n cf := ⟨h.cl, let ⟨f, fd, ps, a, b, c, d⟩ := h.ex; ⟨f, fd, ps, a, b.mono z, c, d⟩⟩
def MethTab (g : G) (k : Nat) (m : Str) (n : Nat) (tbl : List (Nat × CF)) : Prop := ∀ p ∈ tbl, MethOk g k p.1 m n p.2
def tabGet (tbl : List (Nat × CF)) (c : Nat) : Option CF := match tbl with
  | [] => none
  | (k, cf) :: r => if k = c then some cf else tabGet r c
theorem tabGet_mem {c : Nat} {cf : CF} : ∀ {tbl : List (Nat × CF)}, tabGet tbl c = some cf → (c, cf) ∈ tbl
  | [], e => by cases e
  | (k, f) :: r, e => by
    unfold tabGet at e
    split at e
    · rename_i h
      cases e
      subst h
      exact List.mem_cons_self
    · exact List.mem_cons_of_mem _ (tabGet_mem e)
def cMethI (tbl : List (Nat × CF)) (m : Str) (co : CE) (ca : CA) : CE := fun E A => (co E A).bind fun d A1 => match d with
  | .ref a => match A1[a]? with
    | some (.ins c fs) => match tabGet tbl c, lookF fs m with
      | some cf, none => (ca E A1).bind fun ds A2 => cf (.ref a :: ds) A2
      | _, _ => .no
    | _ => .no
  | _ => .no
theorem SpC.of {g : G} {W : WX} {σ : St} {cf : CF} {n : Nat} {m : List Addr} {H : Hp} {A : HA} {ds : List D} {vs : List V} {Q : VK} (rh : RH g H m A) (dv : DVs g H m ds vs) (hl : ds.length = n) (q : Po (rE g) g m H W σ (cf ds A) Q) : SpC g cf n vs H Q (fun cls d H2 => W cls d σ H2) := by
  refine ⟨m, ds, A, rh, dv, hl, ?_⟩
  cases hc : cf ds A with
  | ok d h => rw [hc] at q; exact q
  | exc => rw [hc] at q; exact q
  | no => rw [hc] at q; exact q.elim
theorem je_methI {tbl : List (Nat × CF)} {m : Str} {o e : Expr} {es : List Expr} {co : CE} {ca : CA} {apos : Pos} {n : Nat} {pl : Cx → Sem Bool} (hT : MethTab F.g F.k m n tbl) (ho : JE F o co) (ha : JA F (e :: es) ca) (hn : Len ca n)
    (hst : ∀ X : Cx, starEach (e :: es) X.env = (false, eval e X.env) :: starEach es X.env := by intro _; rfl) (hpl : ∀ X : Cx, (backTo pos (starEach es X.env)).any (·.1) = false := by intro _; rfl)
    (ht : ∀ X : Cx, eval (.Call (.Attribute o m apos) (e :: es) [] pos) X.env = (do
      let ov ← eval o X.env
      standAt apos.atName
      let (f, first) ← holding [ov] (getMethod ov m (pl X))
      callWith pos f first (backTo pos (starEach (e :: es) X.env)) (backToKw pos (keywordEach [] X.env))) := by intro _; rfl) :
    JE F (.Call (.Attribute o m apos) (e :: es) [] pos) (cMethI tbl m co ca) := by
  intro W X ok
  refine ⟨fun pins s σ H Q I hq => ?_⟩
  obtain ⟨m0, E, A, rh, rs, q⟩ := hq
  refine PySem.W.methodCall_KW (pl := pl X) (thn ((ho W X ok).run pins s σ H (fun x H1 => ∃ a c dd us cf f fd ps, x = .ref a ∧ H1 a = some (.ins (F.g.ca c) dd us) ∧ ClsOk F.g c ∧ us.lookup m = none ∧ Meth F.g.K (F.g.ca c) m f ∧ FnG F.g F.k f fd ps (SpC F.g cf ps.length) ∧ Binds F.g.K fd ps [] ∧ ps.length = n + 1 ∧
      TAx F.g W ca σ H1 fun vs H2 => SpC F.g cf (n + 1) (.ref a :: vs) H2 Q fun cls d H2 => W cls d σ H2) I ⟨m0, E, A, rh, rs, Po.bind q fun m1 H1 d x A1 g1 rh1 dx q1 => ?_⟩) fun u s1 ⟨x, H1, I1, rx, a, c, dd, us, cf, f, fd, ps, ex, ea, k1, k2, k3, k4, k5, k6, q⟩ => ?_) (ht X)
  · split at q1
    · rename_i a
      split at q1
      · rename_i c fs hA
        split at q1
        · rename_i cf h1 h2
          obtain ⟨p, rfl, hp⟩ := dx.ref_inv
          obtain ⟨p', hp', dd, us, e1, e2⟩ := rh1.get hA
          rw [hp] at hp'; cases hp'
          obtain ⟨k1, f, fd, ps, k3, k4, k5, k6⟩ := hT _ (tabGet_mem h1)
          refine ⟨p, c, dd, us, cf, f, fd, ps, rfl, e1, k1, (lookF_rel e2).2 h2, k3, k4, k5, k6, m1, E, A1, rh1, rs.mono g1, Po.bindL hn q1 fun m2 H2 ds vs A2 g2 rh2 dvs hl q2 => ?_⟩
          exact SpC.of rh2 (.cons (.ref (g2.get hp)) dvs) (by rw [List.length_cons, dvs.length, hl]) q2
        · exact q1.elim
      · exact q1.elim
    · exact q1.elim
  · subst ex
    obtain rfl : u = Value.ref a := rx
    have hK := ok.K
    refine getmeth_ok I1 ea (by rw [hK]; exact k1) (by rw [hK]; exact k3) k2 ?_
    refine PySem.W.callWith_K (first := [.ref a]) (h₀ := X.base) I1.ok.mod.kin (by rw [hK]; exact k3.kp) (thn ((ha W X ok).run pos pins s1 σ H1 _ I1 q) fun us s2 ⟨vs, H2, I2, r, q2⟩ => ⟨I2.kIn, ?_⟩) (hst X) (hpl X)
    exact run_g (us := .ref a :: us) (vs := .ref a :: vs) (E := fun σ cls d H2 => W cls d σ H2) ok k4 k5 (passAt ok.tk σ) I2 (.cons rfl r) (by rw [k6]; exact q2)
theorem je_methI0 {tbl : List (Nat × CF)} {m : Str} {o : Expr} {co : CE} {apos : Pos} {pl : Cx → Sem Bool} (hT : MethTab F.g F.k m 0 tbl) (ho : JE F o co)
    (ht : ∀ X : Cx, eval (.Call (.Attribute o m apos) [] [] pos) X.env = (do
      let ov ← eval o X.env
      standAt apos.atName
      let (f, first) ← holding [ov] (getMethod ov m (pl X))
      callWith pos f first (backTo pos (starEach [] X.env)) (backToKw pos (keywordEach [] X.env))) := by intro _; rfl) :
    JE F (.Call (.Attribute o m apos) [] [] pos) (cMethI tbl m co cNil) := by
  intro W X ok
  refine ⟨fun pins s σ H Q I hq => ?_⟩
  obtain ⟨m0, E, A, rh, rs, q⟩ := hq
  refine PySem.W.methodCall_KW (pl := pl X) (thn ((ho W X ok).run pins s σ H (fun x H1 => ∃ a c dd us cf f fd ps, x = .ref a ∧ H1 a = some (.ins (F.g.ca c) dd us) ∧ ClsOk F.g c ∧ us.lookup m = none ∧ Meth F.g.K (F.g.ca c) m f ∧ FnG F.g F.k f fd ps (SpC F.g cf ps.length) ∧ Binds F.g.K fd ps [] ∧ ps.length = 0 + 1 ∧
      SpC F.g cf 1 [.ref a] H1 Q fun cls d H2 => W cls d σ H2) I ⟨m0, E, A, rh, rs, Po.bind q fun m1 H1 d x A1 g1 rh1 dx q1 => ?_⟩) fun u s1 ⟨x, H1, I1, rx, a, c, dd, us, cf, f, fd, ps, ex, ea, k1, k2, k3, k4, k5, k6, q⟩ => ?_) (ht X)
  · split at q1
    · rename_i a
      split at q1
      · rename_i c fs hA
        split at q1
        · rename_i cf h1 h2
          obtain ⟨p, rfl, hp⟩ := dx.ref_inv
          obtain ⟨p', hp', dd, us, e1, e2⟩ := rh1.get hA
          rw [hp] at hp'; cases hp'
          obtain ⟨k1, f, fd, ps, k3, k4, k5, k6⟩ := hT _ (tabGet_mem h1)
          exact ⟨p, c, dd, us, cf, f, fd, ps, rfl, e1, k1, (lookF_rel e2).2 h2, k3, k4, k5, k6, SpC.of rh1 (.cons (.ref hp) .nil) rfl q1⟩
        · exact q1.elim
      · exact q1.elim
    · exact q1.elim
  · subst ex
    obtain rfl : u = Value.ref a := rx
    have hK := ok.K
    refine getmeth_ok I1 ea (by rw [hK]; exact k1) (by rw [hK]; exact k3) k2 ?_
    exact PySem.W.callWith_K0 (first := [.ref a]) I1.kIn (by rw [hK]; exact k3.kp) (run_g (us := [.ref a]) (vs := [.ref a]) (E := fun σ cls d H2 => W cls d σ H2) ok k4 k5 (passAt ok.tk σ) I1 (.cons rfl .nil) (by rw [k6]; exact q))
/-! ### instances made -/
structure MkOk (g : G) (k : Nat) (c : Nat) (n : Nat) (cf : CF) : Prop where
  ex : ∃ (f : Addr) (fd : FuncData) (ps : List Str), Mk g.K (g.ca c) f ∧ FnG g k f fd ps (SpC g cf ps.length) ∧ Binds g.K fd ps [] ∧ ps.length = n + 1
theorem MkOk.mono {g : G} {j k c n : Nat} {cf : CF} (h : MkOk g j c n cf) (z : j ≤ k) : MkOk g k c n cf := ⟨let ⟨f, fd, ps, a, b, c, d⟩ := h.ex; ⟨f, fd, ps, a, b.mono z, c, d⟩⟩
def mkRun (c : Nat) (cf : CF) (ds : List D) (A : HA) : R D := match cf (.ref A.length :: ds) (A ++ [.ins c []]) with
  | .ok .non A2 => .ok (.ref A.length) A2
  | .exc k es A2 => .exc k es A2
  | _ => .no
def cMake (c : Nat) (cf : CF) (ca : CA) : CE := fun E A => (ca E A).bind fun ds A1 => mkRun c cf ds A1
theorem run_mk {W : WX} {X : Cx} {j c n : Nat} {cf : CF} (ok : Ok F W X) {f : Addr} {fd : FuncData} {ps : List Str} (M : Mk F.g.K (F.g.ca c) f) (fn : FnG F.g j f fd ps (SpC F.g cf ps.length)) (hb : Binds F.g.K fd ps []) (hn : ps.length = n + 1) (hk : j + 1 ≤ F.k)
    {pins : List (Addr × Obj)} {σ : St} {H : Hp} {s : Shared} {Q : VK} {us : List Value} {vs : List V} {m : List Addr} {ds : List D} {A : HA} (I : Inv X pins σ H s) (r : Vals vs us) (rh : RH F.g H m A) (dv : DVs F.g H m ds vs) (hl : ds.length = n) (q : Po (rE F.g) F.g m H W σ (mkRun c cf ds A) Q) :
    wpAny (model X.prog X.w) X.A (call (.ref (F.g.ca c)) us) (EP X pins σ Q) X.xe s := by
  let C := F.g.ca c
  let x := s.heap.objs.size + 1
  let dx := s.heap.objs.size
  have n1 : H x = none := I.hok.fresh (Nat.le_succ _)
  have n2 : H dx = none := I.hok.fresh (Nat.le_refl _)
  have ne : x ≠ dx := Nat.ne_of_gt (Nat.lt_succ_self _)
  let H1 := L2.upd H dx (.own x)
  let H2 := L2.upd H1 x (.ins C dx [])
  have n3 : H1 x = none := by show L2.upd H dx (.own x) x = none; rw [upd_ne ne]; exact n1
  have I2 : Inv X pins σ H2 _ := Inv.made (C := C) I
  have ga : Gr m m H H1 := Gr.new n2
  have gb : Gr m (m ++ [x]) H1 H2 := Gr.push n3
  have rh2 : RH F.g H2 (m ++ [x]) (A ++ [.ins c []]) := RH.push (rh.upd n2) n3 ⟨dx, [], upd_same, .nil⟩
  have hlA : A.length = m.length := (Paired.lenR rh.at_).symm
  have hq : SpC F.g cf ps.length (.ref x :: vs) H2 (fun v H3 => v = .non ∧ Q (.ref x) H3) (fun cls d H3 => W cls d σ H3) := by
    refine ⟨m ++ [x], .ref A.length :: ds, A ++ [.ins c []], rh2, .cons (.ref (by rw [hlA]; simp)) ((dv.mono ga).mono gb), by rw [hn, List.length_cons, hl], ?_⟩
    unfold mkRun at q
    cases hc : cf (.ref A.length :: ds) (A ++ [.ins c []]) with
    | ok d h =>
      simp only [hc] at q
      intro m' v H' gr rh' dv'
      cases d with
      | non =>
        cases dv'
        exact ⟨rfl, q m' (.ref x) H' (ga.trans (gb.trans gr)) rh' (.ref (gr.get (by rw [hlA]; simp)))⟩
      | _ => exact q.elim
    | exc k' xs h =>
      simp only [hc] at q
      intro m' H' cls d gr rh' ex
      exact q m' H' cls d (ga.trans (gb.trans gr)) rh' ex
    | no => simp only [hc] at q; exact q.elim
  have e0 : Env0 F.g.prog F.g.w F.g.K F.g.mg F.g.base X.A X.stack { s with heap := (s.heap.push PySem.W.emptyDict).push (PySem.W.instObj C s.heap.objs.size) } H2 := by
    have := I2.env0
    rw [ok.prog, ok.w, ok.K, ok.mg, ok.base] at this
    exact this
  have r2 : Vals (V.ref x :: vs) (Value.ref x :: us) := .cons rfl r
  have kin : F.g.K.In s.heap := ok.K ▸ I.kIn
  have hlen : (Value.ref x :: us).length = ps.length := by rw [← r2.length]; exact fn.len _ _ _ _ hq
  have b := hb { s with heap := (s.heap.push PySem.W.emptyDict).push (PySem.W.instObj C s.heap.objs.size) } (Value.ref x :: us) (ok.K ▸ I2.kIn) (by rw [List.append_nil]; exact hlen)
  rw [List.append_nil] at b
  have gd : (X.A.under (.builtin "type.__call__" ⟨.ref C :: us, []⟩)).guards = some [] := by
    simp [Around.under, Code.guards, pushGuards, ok.gd, guardIds, Code.isGuard]
  have rm : Room j (X.A.under (.builtin "type.__call__" ⟨.ref C :: us, []⟩)) := (ok.room.mono hk).make C us []
  have run := fn.run _ X.stack _ H2 ⟨Value.ref x :: us, []⟩ (Value.ref x :: us) (V.ref x :: vs) _ _ rm gd (e0.make C us []) b r2 hq
  rw [← ok.prog, ← ok.w] at run
  refine wpAny_call (make_map (f := f) kin M.makes M.init (beq_iff_eq.mp M.fn) (codeAny_mono run fun r s' hq' => ?_))
  cases r with
  | error e => exact passAt ok.tk σ pins H2 _ e s' I2 hq'
  | ok fl =>
    cases fl with
    | ret u =>
      obtain ⟨v, H', I3, rv, ev, q3⟩ := I2.after hq'
      subst ev
      exact ⟨rv, ⟨V.ref x, H', I3, rfl, q3⟩⟩
    | next => exact False.elim hq'
    | brk => exact False.elim hq'
    | cont => exact False.elim hq'
theorem je_make {x : Str} {j c n : Nat} {cf : CF} {e : Expr} {es : List Expr} {ca : CA} {p : Pos} (h : MkOk F.g j c n cf) (hk : j + 1 ≤ F.k) (hg : Gls F.scope x) (hm : F.g.mg x = some (.ref (F.g.ca c))) (ha : JA F (e :: es) ca) (hn : Len ca n) (hdb : (x == ("__debug__" : Str)) = false := by decide)
    (he : ∀ X : Cx, starEach (e :: es) X.env = (false, eval e X.env) :: starEach es X.env := by intro _; rfl) (hpl : ∀ X : Cx, (backTo pos (starEach es X.env)).any (·.1) = false := by intro _; rfl) :
    JE F (.Call (.Name x p) (e :: es) [] pos) (cMake c cf ca) := by
  intro W X ok
  obtain ⟨f, fd, ps, M, fn, b, hps⟩ := h.ex
  refine ⟨fun pins s σ H Q I hq => ?_⟩
  obtain ⟨m, E, A, rh, rs, q⟩ := hq
  refine wpAny_Call_Name_kw (ld_glob I (ok.gl hg) (by rw [ok.mg]; exact hm) ?_ hdb)
  refine PySem.W.callWith_K (h₀ := X.base) I.ok.mod.kin (by rw [ok.K]; exact M.kp) (thn ((ha W X ok).run pos pins s σ H (fun vs H1 => ∃ m1 ds A1, RH F.g H1 m1 A1 ∧ DVs F.g H1 m1 ds vs ∧ ds.length = n ∧ Po (rE F.g) F.g m1 H1 W σ (mkRun c cf ds A1) Q) I ⟨m, E, A, rh, rs, Po.bindL hn q fun m1 H1 ds xs A1 g1 rh1 dxs hl1 q1 => ⟨m1, ds, A1, rh1, dxs, by rw [dxs.length, hl1], q1⟩⟩) fun us s1 ⟨vs, H1, I1, r1, m1, ds, A1, rh1, dvs, hl, q1⟩ => ⟨I1.kIn, ?_⟩) (he X) (hpl X)
  exact run_mk ok M fn b hps hk I1 r1 rh1 dvs hl q1
theorem je_make0 {x : Str} {j c : Nat} {cf : CF} {p : Pos} (h : MkOk F.g j c 0 cf) (hk : j + 1 ≤ F.k) (hg : Gls F.scope x) (hm : F.g.mg x = some (.ref (F.g.ca c))) (hdb : (x == ("__debug__" : Str)) = false := by decide) : JE F (.Call (.Name x p) [] [] pos) (cMake c cf cNil) := by
  intro W X ok
  obtain ⟨f, fd, ps, M, fn, b, hps⟩ := h.ex
  refine ⟨fun pins s σ H Q I hq => ?_⟩
  obtain ⟨m, E, A, rh, rs, q⟩ := hq
  refine wpAny_Call_Name_kw (ld_glob I (ok.gl hg) (by rw [ok.mg]; exact hm) ?_ hdb)
  exact PySem.W.callWith_K0 I.kIn (by rw [ok.K]; exact M.kp) (run_mk (us := []) (vs := []) (ds := []) ok M fn b hps hk I .nil rh .nil rfl q)
end Sm

/-! Sm24: captured cells told and hidden; values that hold neither references nor functions -/
namespace Sm
open PySem PySem.Spec PyProof.Rows L2
/-! ### plain data -/
mutual
/-- no reference, no lambda, no exception -/
def pureL : D → Bool
  | .ref _ => false
  | .lam _ _ => false
  | .exc _ _ => false
  | .tup ds => pureLs ds
  | .lst ds => pureLs ds
  | .dct _ ds => pureLs ds
  | _ => true
def pureLs : List D → Bool
  | [] => true
  | d :: ds => pureL d && pureLs ds
end
/-- nothing is locked -/
def noLk (A : HA) : Bool := A.all fun o => match o with
  | .dct true _ => false
  | .dtt true _ => false
  | _ => true
/-! ### cells -/
abbrev Cs := List (Addr × Obj)
def addC (cs : Cs) (H : Hp) : Hp := fun b => match cs.lookup b with
  | some o => some (CellX b o)
  | none => H b
def remC (cs : Cs) (H : Hp) : Hp := fun b => match cs.lookup b with
  | some _ => none
  | none => H b
theorem addC_in {cs : Cs} {H : Hp} {b : Addr} {o : Obj} (h : cs.lookup b = some o) : addC cs H b = some (CellX b o) := by unfold addC; rw [h]
theorem addC_out {cs : Cs} {H : Hp} {b : Addr} (h : cs.lookup b = none) : addC cs H b = H b := by unfold addC; rw [h]
theorem remC_in {cs : Cs} {H : Hp} {b : Addr} {o : Obj} (h : cs.lookup b = some o) : remC cs H b = none := by unfold remC; rw [h]
theorem remC_out {cs : Cs} {H : Hp} {b : Addr} (h : cs.lookup b = none) : remC cs H b = H b := by unfold remC; rw [h]
/-- an object that is no other description's -/
def NotX (u : HO) : Prop := ∀ φ, u ≠ .ext φ
/-- what H tells stands in H' -/
def KeepX (H H' : Hp) : Prop := ∀ p u, H p = some u → NotX u → H' p = some u
section
variable {g : G} {H H' : Hp} {m m' : List Addr}
mutual
theorem DV.plain (k : KeepX H H') (nm : ∀ p u, H p = some u → ((∃ xs, u = .tup xs) ∨ (∃ ob xs, u = .frz ob (.lst xs)) ∨ ∃ ob xs, u = .frz ob (.dK xs)) → p ∉ m → p ∉ m') : ∀ {d : D} {v : V}, pureL d = true → DV g H m d v → DV g H' m' d v
  | _, _, _, .non => .non
  | _, _, _, .bl b => .bl b
  | _, _, _, .int i => .int i
  | _, _, _, .str x => .str x
  | _, _, _, .ty n => .ty n
  | _, _, e, .tup h hs => .tup (h.imp (fun h => ⟨k _ _ h.1 (fun _ z => by cases z), nm _ _ h.1 (.inl ⟨_, rfl⟩) h.2⟩) id) (DVs.plain k nm (by unfold pureL at e; exact e) hs)
  | _, _, e, .lst h hs => .lst (h.imp (fun ⟨o, h1, h2⟩ => ⟨o, k _ _ h1 (fun _ z => by cases z), nm _ _ h1 (.inr (.inl ⟨_, _, rfl⟩)) h2⟩) id) (DVs.plain k nm (by unfold pureL at e; exact e) hs)
  | _, _, e, .dct ⟨o, h1, h2⟩ hl hs => .dct ⟨o, k _ _ h1 (fun _ z => by cases z), nm _ _ h1 (.inr (.inr ⟨_, _, rfl⟩)) h2⟩ hl (DVs.plain k nm (by unfold pureL at e; exact e) hs)
  | _, _, e, .ref h => by unfold pureL at e; cases e
  | _, _, _, .cls c => .cls c
  | _, _, _, .fn f => .fn f
  | _, _, e, .exc _ _ _ _ _ _ => by unfold pureL at e; cases e
  | _, _, e, .lam _ _ _ _ _ _ => by unfold pureL at e; cases e
theorem DVs.plain (k : KeepX H H') (nm : ∀ p u, H p = some u → ((∃ xs, u = .tup xs) ∨ (∃ ob xs, u = .frz ob (.lst xs)) ∨ ∃ ob xs, u = .frz ob (.dK xs)) → p ∉ m → p ∉ m') : ∀ {ds : List D} {vs : List V}, pureLs ds = true → DVs g H m ds vs → DVs g H' m' ds vs
  | _, _, _, .nil => .nil
  | _, _, e, .cons h hs => by
    unfold pureLs at e
    rw [Bool.and_eq_true] at e
    exact .cons (DV.plain k nm e.1 h) (DVs.plain k nm e.2 hs)
end
/-- back into the caller's abstract heap -/
theorem nm_back {A : HA} {mx : List Addr} (rh : RH g H' m A) (k : KeepX H H') (lk : noLk A = true) : ∀ p u, H p = some u → ((∃ xs, u = .tup xs) ∨ (∃ ob xs, u = .frz ob (.lst xs)) ∨ ∃ ob xs, u = .frz ob (.dK xs)) → p ∉ mx → p ∉ m := by
  intro p u e hu _ hp
  have e' : H' p = some u := k p u e (by rcases hu with ⟨_, rfl⟩ | ⟨_, _, rfl⟩ | ⟨_, _, rfl⟩ <;> exact fun _ z => by cases z)
  obtain ⟨i, hi⟩ := List.mem_iff_getElem?.mp hp
  have hil : i < A.length := by rw [← Paired.lenR rh.at_]; exact (List.getElem?_eq_some_iff.mp hi).1
  obtain ⟨q, hq, r⟩ := rh.get (List.getElem?_eq_getElem hil)
  rw [hi] at hq
  cases hq
  have hlk := List.all_eq_true.mp lk A[i] (List.getElem_mem hil)
  generalize A[i] = o at r hlk
  cases o with
  | lst ds => obtain ⟨_, h, _⟩ := r; rw [e'] at h; rcases hu with ⟨_, rfl⟩ | ⟨_, _, rfl⟩ | ⟨_, _, rfl⟩ <;> cases h
  | dct l kvs =>
    cases l with
    | false => obtain ⟨_, h, _⟩ := r; rw [e'] at h; rcases hu with ⟨_, rfl⟩ | ⟨_, _, rfl⟩ | ⟨_, _, rfl⟩ <;> cases h
    | true => cases hlk
  | dtt l kvs =>
    cases l with
    | false => obtain ⟨_, h, _⟩ := r; rw [e'] at h; rcases hu with ⟨_, rfl⟩ | ⟨_, _, rfl⟩ | ⟨_, _, rfl⟩ <;> cases h
    | true => cases hlk
  | ins c fs => obtain ⟨_, _, h, _⟩ := r; rw [e'] at h; rcases hu with ⟨_, rfl⟩ | ⟨_, _, rfl⟩ | ⟨_, _, rfl⟩ <;> cases h
end
/-! ### the hand layer's facts with cells told, or hidden -/
section
variable {P : Program} {w : World} {H H' : Hp} {h h' : Heap} {cs : Cs}
/-- the cells stand in the heap and are not told by H -/
def CsFree (cs : Cs) (H : Hp) (h : Heap) : Prop := ∀ b o, cs.lookup b = some o → H b = none ∧ h.get? b = some o
/-- .. are told -/
def CsTold (cs : Cs) (H : Hp) : Prop := ∀ b o, cs.lookup b = some o → H b = some (CellX b o)
theorem cellX_ok {b : Addr} {o : Obj} (e : h.get? b = some o) : ObjOk P w H h b (CellX b o) := ⟨e, ⟨o, e⟩, fun h1 h2 x st => st _ x⟩
theorem hok_add (hok : HOk P w H h) (c : CsFree cs H h) : HOk P w (addC cs H) h := fun b u e => by
  cases hl : cs.lookup b with
  | some o =>
    rw [addC_in hl] at e
    cases e
    exact cellX_ok (c b o hl).2
  | none =>
    rw [addC_out hl] at e
    refine (hok b u e).stay (fun _ _ _ z => z) (fun d z => ?_) (fun d xs z => ?_)
    · cases hd : cs.lookup d with
      | some o => rw [(c d o hd).1] at z; cases z
      | none => rw [addC_out hd]; exact z
    · cases hd : cs.lookup d with
      | some o => rw [(c d o hd).1] at z; cases z
      | none => rw [addC_out hd]; exact z
theorem hok_rem (hok : HOk P w H h) (c : CsTold cs H) : HOk P w (remC cs H) h := fun b u e => by
  cases hl : cs.lookup b with
  | some o =>
    rw [remC_in hl] at e
    cases e
  | none =>
    rw [remC_out hl] at e
    refine (hok b u e).stay (fun _ _ _ z => z) (fun d z => ?_) (fun d xs z => ?_)
    · cases hd : cs.lookup d with
      | some o => rw [c d o hd] at z; cases z
      | none => rw [remC_out hd]; exact z
    · cases hd : cs.lookup d with
      | some o => rw [c d o hd] at z; cases z
      | none => rw [remC_out hd]; exact z
theorem told_get (hok : HOk P w H h) (c : CsTold cs H) {b : Addr} {o : Obj} (hl : cs.lookup b = some o) : h.get? b = some o := (hok b _ (c b o hl)).1
/-- a call entered with the cells told, seen from outside where they are not -/
theorem un_add {fs : List Addr} (c : CsFree cs H h) (hok : HOk P w H' h') (c' : CsTold cs H') (u : Un fs [] (addC cs H) H' h h') : Un fs [] H (remC cs H') h h' where
  keep := fun b o e n hb hx => by
    cases hl : cs.lookup b with
    | some o' =>
      rw [(c b o' hl).2] at e
      cases e
      exact told_get hok c' hl
    | none => exact u.keep b o e (by rw [addC_out hl]; exact n) hb hx
  slot := fun b o e n hb hx => by
    cases hl : cs.lookup b with
    | some o' =>
      rw [(c b o' hl).2] at e
      cases e
      exact ⟨o.slots, told_get hok c' hl⟩
    | none => exact u.slot b o e (by rw [addC_out hl]; exact n) hb hx
  free := fun b o e n hx => by
    cases hl : cs.lookup b with
    | some o' => exact remC_in hl
    | none => rw [remC_out hl]; exact u.free b o e (by rw [addC_out hl]; exact n) hx
  there := fun b o e hx => u.there b o e hx
  tups := fun b xs e => by
    cases hl : cs.lookup b with
    | some o' => rw [(c b o' hl).1] at e; cases e
    | none => rw [remC_out hl]; exact u.tups b xs (by rw [addC_out hl]; exact e)
  frzs := fun b o x e => by
    cases hl : cs.lookup b with
    | some o' => rw [(c b o' hl).1] at e; cases e
    | none => rw [remC_out hl]; exact u.frzs b o x (by rw [addC_out hl]; exact e)
  tbls := fun b ps e => by
    cases hl : cs.lookup b with
    | some o' => rw [(c b o' hl).1] at e; cases e
    | none => rw [remC_out hl]; exact u.tbls b ps (by rw [addC_out hl]; exact e)
/-- a call entered with the cells hidden, seen from outside where they are told -/
theorem un_rem {fs : List Addr} (hok : HOk P w H h) (c : CsTold cs H) (u : Un fs [] (remC cs H) H' h h') : Un fs [] H (addC cs H') h h' where
  keep := fun b o e n hb hx => u.keep b o e (by
    cases hl : cs.lookup b with
    | some o' => exact remC_in hl
    | none => rw [remC_out hl]; exact n) hb hx
  slot := fun b o e n hb hx => u.slot b o e (by
    cases hl : cs.lookup b with
    | some o' => exact remC_in hl
    | none => rw [remC_out hl]; exact n) hb hx
  free := fun b o e n hx => by
    cases hl : cs.lookup b with
    | some o' => rw [c b o' hl] at n; cases n
    | none => rw [addC_out hl]; exact u.free b o e (by rw [remC_out hl]; exact n) hx
  there := fun b o e hx => u.there b o e hx
  tups := fun b xs e => by
    cases hl : cs.lookup b with
    | some o' => rw [c b o' hl] at e; cases e
    | none => rw [addC_out hl]; exact u.tups b xs (by rw [remC_out hl]; exact e)
  frzs := fun b o x e => by
    cases hl : cs.lookup b with
    | some o' => rw [c b o' hl] at e; cases e
    | none => rw [addC_out hl]; exact u.frzs b o x (by rw [remC_out hl]; exact e)
  tbls := fun b ps e => by
    cases hl : cs.lookup b with
    | some o' => rw [c b o' hl] at e; cases e
    | none => rw [addC_out hl]; exact u.tbls b ps (by rw [remC_out hl]; exact e)
theorem ub_rem {fs : List Addr} {B : Heap} (c : CsTold cs H) (u : UB fs (remC cs H) H' h B h') : UB fs H (addC cs H') h B h' where
  keep := fun b o e n hb => u.keep b o e (by
    cases hl : cs.lookup b with
    | some o' => exact remC_in hl
    | none => rw [remC_out hl]; exact n) hb
  slot := fun b o e hb => u.slot b o e hb
  free := fun b o e n => by
    cases hl : cs.lookup b with
    | some o' => rw [c b o' hl] at n; cases n
    | none => rw [addC_out hl]; exact u.free b o e (by rw [remC_out hl]; exact n)
  there := fun b o e hb => u.there b o e hb
  tups := fun b xs e => by
    cases hl : cs.lookup b with
    | some o' => rw [c b o' hl] at e; cases e
    | none => rw [addC_out hl]; exact u.tups b xs (by rw [remC_out hl]; exact e)
  frzs := fun b o x e => by
    cases hl : cs.lookup b with
    | some o' => rw [c b o' hl] at e; cases e
    | none => rw [addC_out hl]; exact u.frzs b o x (by rw [remC_out hl]; exact e)
  tbls := fun b ps e => by
    cases hl : cs.lookup b with
    | some o' => rw [c b o' hl] at e; cases e
    | none => rw [addC_out hl]; exact u.tbls b ps (by rw [remC_out hl]; exact e)
theorem tabs_add {T : List (Addr × Str)} (t : LamX.Tabs T H) (n : ∀ b o, cs.lookup b = some o → H b = none) : LamX.Tabs T (addC cs H) := t.ext fun b u e => by
  cases hl : cs.lookup b with
  | some o => rw [n b o hl] at e; cases e
  | none => rw [addC_out hl]; exact e
/-- code objects are no cells -/
theorem codeX {h : Heap} {b : Addr} {q : Str} {o : Obj} {v : Option Value} (hg : h.get? b = some o) (e : H b = some (LamX.CodeO b q)) (e' : H b = some (CellX b o)) (hd : o.data = .cell v) : False := by
  rw [e] at e'
  have e2 : LamX.CodeO b q = CellX b o := Option.some.inj e'
  unfold LamX.CodeO CellX at e2
  injection e2 with e2
  have e3 : ∃ (oc : Obj) (vs : Array Value) (t : Tok), h.get? b = some oc ∧ oc.data = .fields vs ∧ vs[1]? = some (.str q t) := (congrFun e2 h).mpr hg
  obtain ⟨oc, vs, t, h1, h2, h3⟩ := e3
  rw [hg] at h1
  cases h1
  rw [h2] at hd
  cases hd
theorem tabs_rem {T : List (Addr × Str)} (hg : ∀ b o, cs.lookup b = some o → h.get? b = some o) (t : LamX.Tabs T H) (c : CsTold cs H) (hd : ∀ b o, cs.lookup b = some o → ∃ v, o.data = .cell v) : LamX.Tabs T (remC cs H) := fun p hp => by
  obtain ⟨ps, e1, e2, e3⟩ := t p hp
  refine ⟨ps, ?_, e2, fun pos cv hc => ?_⟩
  · cases hl : cs.lookup p.1 with
    | some o => rw [c _ o hl] at e1; cases e1
    | none => rw [remC_out hl]; exact e1
  · obtain ⟨a, k1, k2⟩ := e3 pos cv hc
    refine ⟨a, k1, ?_⟩
    cases hl : cs.lookup a with
    | some o =>
      obtain ⟨v, hv⟩ := hd a o hl
      exact (codeX (hg a o hl) k2 (c a o hl) hv).elim
    | none => rw [remC_out hl]; exact k2
end
end Sm

/-! Sm25: lambdas made, handed to a def, called there -/
namespace Sm
open PySem PySem.Spec PyProof.Rows L2
/-! ### a lambda is made -/
structure GrL (H H1 : Hp) : Prop where
  keep : ∀ b o, H b = some o → (∀ ps, o ≠ .tbl ps) → H1 b = some o
  tbl : ∀ b ps, H b = some (.tbl ps) → ∃ more, H1 b = some (.tbl (ps ++ more))
  non : ∀ b, H1 b = none → H b = none
theorem lam_new {X : Cx} {pins : List (Addr × Obj)} {σ : L2.St} {H : Hp} {s : Shared} {T : List (Addr × Str)} {c P : Addr} {L : LamRec} {pos : Pos} {E Q : Value → Shared → Prop} (I : Inv X pins σ H s) (TB : LamX.TabB X.base X.mg c P) (hcode : X.env.code = .ref c) (hq : X.env.qual ++ "<lambda>" = L.q)
    (hm : (P, L.q) ∈ T) (hu : ∀ p ∈ T, p.1 = P → p.2 = L.q) (hT : LamX.Tabs T H) (hdef : defaultsOf L.params X.env = ([], [])) (hfree : ∀ y ∈ L.scope.names, y.2 = .free → ∃ c, X.env.cells.lookup y.1 = some c)
    (h : ∀ (f c' : Addr) (H1 : Hp) (s' : Shared), Inv X pins σ H1 s' → GrL H H1 → LamX.Tabs T H1 → H f = none → H c' ≠ some (.tbl #[]) → H1 f = some (LamO L (cloFrom X.env.cells L.scope.names []) c' f) → H1 c' = some (LamX.CodeO c' L.q) → Q (.ref f) s') :
    wpAny (model X.prog X.w) X.A (eval (.Lambda L.params L.body L.scope pos) X.env) Q E s := by
  obtain ⟨ps, hP, ht, ha⟩ := hT _ hm
  refine PySem.W.kla_eval hdef ?_
  have bP : s.heap.BuiltinsAt X.mg P := TB.bm.keeps I.bk
  have gP : s.heap.get? P = some { cls := .none, data := .fields ps } := I.hok P _ hP
  have lay : ∀ {H1 : Hp} {h1 : Heap} {tk tk2 : Nat} {c' : Addr} {ctv : Value}, Inv X pins σ H1 { s with heap := h1, toks := tk } → Inv X pins σ (L2.upd H1 h1.objs.size (LamO L (cloFrom X.env.cells L.scope.names []) c' h1.objs.size)) { s with heap := h1.push (PySem.W.kla_obj "<lambda>" L.q L.params L.body L.scope (cloFrom X.env.cells L.scope.names []) ((X.mg "__name__").getD .none) c' ctv), toks := tk2 } := by
    intro H1 h1 tk tk2 c' ctv J
    exact J.laid (t' := tk2) (a := h1.objs.size) (h' := h1.push (PySem.W.kla_obj "<lambda>" L.q L.params L.body L.scope (cloFrom X.env.cells L.scope.names []) ((X.mg "__name__").getD .none) c' ctv)) (o := LamO L (cloFrom X.env.cells L.scope.names []) c' h1.objs.size) (fun b u e => Heap.get?_push_of_some _ e) (Nat.le_refl _) (by
      have e := Heap.get?_push_size h1 (o := PySem.W.kla_obj "<lambda>" L.q L.params L.body L.scope (cloFrom X.env.cells L.scope.names []) ((X.mg "__name__").getD .none) c' ctv) rfl
      exact ⟨⟨_, _, e⟩, ⟨_, e⟩, fun h1 h2 ⟨pm, ct, z⟩ st => ⟨pm, ct, st _ z⟩⟩)
  rw [hq]
  cases hc : codeAmong pos ps.toList with
  | none =>
    refine PySem.W.kla_makeFunction (mg := X.mg) (c := c) (P := P) (ps := ps) (L2.closure_ok hfree) I.ok.glob (I.mod.glob.keeps I.bk) hcode (TB.code.keeps I.bk) gP ht hc TB.gP bP fun c' ctv h' tk hx hge hlt hrec htb => ?_
    obtain ⟨c2, oc, vs, t, e2, hoc, hd, hv⟩ := hrec
    cases e2
    have nC : H c' = none := I.hok.fresh hge
    have nPc : P ≠ c' := ne_of_none hP nC
    have I1 := LamX.inv_table (t' := tk) (more := #[rawInt pos.line, rawInt pos.col, .ref c']) (h' := h') I hP (fun b o hb e => hx b o hb e) htb hge ⟨oc, vs, t, hoc, hd, hv⟩
    have nF : (L2.upd (L2.upd H P (.tbl (ps ++ #[rawInt pos.line, rawInt pos.col, .ref c']))) c' (LamX.CodeO c' L.q)) h'.objs.size = none := I1.hok.fresh (Nat.le_refl _)
    have nF0 : H h'.objs.size = none := I.hok.fresh (Nat.le_trans hge (Nat.le_of_lt hlt))
    have fc : c' ≠ h'.objs.size := Nat.ne_of_lt hlt
    have fP : P ≠ h'.objs.size := ne_of_none hP nF0
    refine h h'.objs.size c' _ _ (lay I1) ⟨fun b o e nt => ?_, fun b qs e => ?_, fun b e => ?_⟩ ?_ nF0 (by rw [nC]; simp) upd_same ?_
    · rw [upd_ne (ne_of_none e nF0), upd_ne (ne_of_none e nC), upd_ne (fun z => by rw [z, hP] at e; cases e; exact nt ps rfl)]
      exact e
    · by_cases hb : b = P
      · rw [hb, hP] at e
        cases e
        exact ⟨#[rawInt pos.line, rawInt pos.col, .ref c'], by rw [hb, upd_ne fP, upd_ne nPc, upd_same]⟩
      · exact ⟨#[], by rw [upd_ne (ne_of_none e nF0), upd_ne (ne_of_none e nC), upd_ne hb, e]; simp⟩
    · exact NdefX.upd_none (NdefX.upd_none (NdefX.upd_none e))
    · have keep : ∀ b q, H b = some (LamX.CodeO b q) → (L2.upd (L2.upd (L2.upd H P (.tbl (ps ++ #[rawInt pos.line, rawInt pos.col, .ref c']))) c' (LamX.CodeO c' L.q)) h'.objs.size (LamO L (cloFrom X.env.cells L.scope.names []) c' h'.objs.size)) b = some (LamX.CodeO b q) := fun b q e => by
        rw [upd_ne (ne_of_none e nF0), upd_ne (ne_of_none e nC), upd_ne (fun z => by rw [z, hP] at e; exact LamX.codeO_ne _ (Option.some.inj e).symm)]
        exact e
      intro p hp
      by_cases hb : p.1 = P
      · rw [show p.2 = L.q from hu p hp hb, hb]
        have eL : (ps ++ #[rawInt pos.line, rawInt pos.col, .ref c']).toList = ps.toList ++ [rawInt pos.line, rawInt pos.col, .ref c'] := by simp
        refine ⟨_, by rw [upd_ne fP, upd_ne nPc, upd_same], by rw [eL]; exact PySem.TriplesOk_snoc _ _ _ _ ht, fun p' cv hcv => ?_⟩
        rw [eL] at hcv
        rcases LamX.among_app _ ht hcv with z | z
        · obtain ⟨c0, e1, e2⟩ := ha p' cv z
          exact ⟨c0, e1, keep c0 _ e2⟩
        · exact ⟨c', z, by rw [upd_ne fc, upd_same]⟩
      · obtain ⟨qs, a1, a2, a3⟩ := hT p hp
        refine ⟨qs, by rw [upd_ne (ne_of_none a1 nF0), upd_ne (ne_of_none a1 nC), upd_ne hb]; exact a1, a2, fun p' cv hcv => ?_⟩
        obtain ⟨c0, e1, e2⟩ := a3 p' cv hcv
        exact ⟨c0, e1, keep c0 _ e2⟩
    · rw [upd_ne fc, upd_same]
  | some cv =>
    obtain ⟨c', e, hco⟩ := ha pos cv hc
    subst e
    refine PySem.W.kla_makeFunctionHit (mg := X.mg) (c := c) (P := P) (ps := ps) (L2.closure_ok hfree) I.ok.glob (I.mod.glob.keeps I.bk) hcode (TB.code.keeps I.bk) gP ht hc bP fun ctv h' tk hx hsz => ?_
    have I1 : Inv X pins σ H { s with heap := h', toks := tk } := I.kept hx
    have nF0 : H h'.objs.size = none := I.hok.fresh hsz
    have kp : ∀ b o, H b = some o → (L2.upd H h'.objs.size (LamO L (cloFrom X.env.cells L.scope.names []) c' h'.objs.size)) b = some o := fun b o e => by rw [upd_ne (ne_of_none e nF0)]; exact e
    refine h h'.objs.size c' _ _ (lay I1) ⟨fun b o e _ => kp b o e, fun b qs e => ⟨#[], by rw [kp b _ e]; simp⟩, fun b e => NdefX.upd_none e⟩ (hT.ext kp) nF0 (by rw [hco]; intro z; exact LamX.codeO_ne _ (Option.some.inj z)) upd_same (kp _ _ hco)
end Sm

section
set_option autoImplicit false
/-! Sm26: a def called with a lambda -/
namespace Sm
open PySem PySem.Spec PyProof.Rows L2
variable {F : F} {pos : Pos}
def rAL (X : Cx) (g : G) (j : Nat) : Rl (List D) (List V) := fun H m ds vs => ∃ vs1 f c', vs = vs1 ++ [.ref f] ∧ DVs g H m ds vs1 ∧ H f = some (LamO (g.lm j) (cloFrom X.env.cells (g.lm j).scope.names []) c' f) ∧ f ∉ m ∧ H c' = some (LamX.CodeO c' (g.lm j).q) ∧ c' ∉ m
def TALx (X : Cx) (g : G) (j : Nat) (W : WX) (c : CA) : TA := Tx (rAL X g j) g W c
/-- arguments, a lambda the last -/
def JAL (F : Sm.F) (j : Nat) (es : List Expr) (c : CA) : Prop := ∀ W X, Ok F W X → PA X es (TALx X F.g j W c)
/-- what the text must show of a lambda where it stands -/
structure LamAt (F : Sm.F) (j : Nat) : Prop where
  tab : ∃ P, (P, (F.g.lm j).q) ∈ F.ltb ∧ (P, (F.g.lm j).q) ∈ F.g.tabs ∧ ∀ p ∈ F.g.tabs, p.1 = P → p.2 = (F.g.lm j).q
  dp : F.deep = false
  fr : ∀ y ∈ (F.g.lm j).scope.names, y.2 = .free → F.scope.names.lookup y.1 = some .cell ∨ F.scope.names.lookup y.1 = some .free
  sub : ∀ y ∈ (F.g.lm j).scope.names, y.2 = .free → y.1 ∈ (F.g.lm j).fr
  sup : ∀ y ∈ (F.g.lm j).fr, (y, NameKind.free) ∈ (F.g.lm j).scope.names
theorem Gr.ofL {m : List Addr} {H H1 : Hp} (a : GrL H H1) : Gr m m H H1 := ⟨⟨[], by simp, by simp⟩, fun p o h _ ht => a.keep p o h ht, a.tbl, a.non⟩
theorem RH.ofL {g : G} {m : List Addr} {H H1 : Hp} {A : HA} (a : GrL H H1) (t : LamX.Tabs g.tabs H1) (rh : RH g H m A) : RH g H1 m A :=
  ⟨rh.nd, Paired.mapR rh.at_ fun p o r => r.mono (Gr.ofL a) (by obtain ⟨u, hu, k1, _⟩ := r.kinds; rw [a.keep p u hu k1, hu]), t, rh.tbm⟩
theorem lam_free {j : Nat} {W : WX} {X : Cx} (ok : Ok F W X) (L : LamAt F j) {pins : List (Addr × Obj)} {σ : St} {H : Hp} {s : Shared} (I : Inv X pins σ H s) : ∀ y ∈ (F.g.lm j).scope.names, y.2 = .free → ∃ c, X.env.cells.lookup y.1 = some c := fun y hy e => by
  rcases L.fr y hy e with z | z
  · exact I.ok.has _ (.inl (by show X.env.scope.names.lookup y.1 = _; rw [ok.sc]; exact z))
  · exact I.ok.has _ (.inr (by show X.env.scope.names.lookup y.1 = _; rw [ok.sc]; exact z))
theorem jal_nil {j : Nat} {params : Arguments} {body : Expr} {scope : Scope} {lpos : Pos} (L : LamAt F j) (e1 : (F.g.lm j).params = params := by rfl) (e2 : (F.g.lm j).body = body := by rfl) (e3 : (F.g.lm j).scope = scope := by rfl)
    (hdef : ∀ X : Cx, defaultsOf params X.env = ([], []) := by intro _; rfl)
    (hs : ∀ X : Cx, starEach [.Lambda params body scope lpos] X.env = (false, eval (.Lambda params body scope lpos) X.env) :: starEach [] X.env := by intro _; rfl) : JAL F j [.Lambda params body scope lpos] cNil := by
  subst e1 e2 e3
  intro W X ok
  obtain ⟨P, h1, h2, h3⟩ := L.tab
  obtain ⟨c, k1, k2, k3⟩ := ok.tabB _ h1
  have pl : PE X (.Lambda (F.g.lm j).params (F.g.lm j).body (F.g.lm j).scope lpos) (fun σ H Q => LamX.Tabs F.g.tabs H ∧ ∀ (f c' : Addr) (H1 : Hp), GrL H H1 → LamX.Tabs F.g.tabs H1 → H f = none → H1 f = some (LamO (F.g.lm j) (cloFrom X.env.cells (F.g.lm j).scope.names []) c' f) → H1 c' = some (LamX.CodeO c' (F.g.lm j).q) → Q (.ref f) H1) :=
    ⟨fun pins s σ H Q I q => lam_new I k2 k1 k3 h2 h3 q.1 (hdef X) (lam_free ok L I) fun f c' H1 s' I1 a t n _ l1 l2 => ⟨.ref f, H1, I1, rfl, q.2 f c' H1 a t n l1 l2⟩⟩
  refine PA.imp (pa_cons pl pa_nil (hs X)) ?_
  rintro σ H Q ⟨m, E, A, rh, rs, q⟩
  refine ⟨rh.tb, fun f c' H1 a t n l1 l2 => ?_⟩
  have rh1 := rh.ofL a t
  refine q m [.ref f] H1 (Gr.ofL a) rh1 ⟨[], f, c', rfl, .nil, l1, rh.new n, l2, fun z => ?_⟩
  obtain ⟨u, hu, _, k⟩ := rh1.kinds z
  rw [l2] at hu
  cases hu
  exact k _ rfl
theorem jal_cons {j : Nat} {e : Expr} {es : List Expr} {ca : CE} {cr : CA} (ha : JE F e ca) (hr : JAL F j es cr) (hs : ∀ X : Cx, starEach (e :: es) X.env = (false, eval e X.env) :: starEach es X.env := by intro _; rfl) : JAL F j (e :: es) (cCons ca cr) := by
  intro W X ok
  refine PA.imp (pa_cons (ha W X ok) (hr W X ok) (hs X)) ?_
  rintro σ H Q ⟨m, E, A, rh, rs, q⟩
  have q : Po (rAL X F.g j) F.g m H W σ ((ca E A).bind fun d A1 => (cr E A1).bind fun ds A2 => .ok (d :: ds) A2) Q := q
  refine ⟨m, E, A, rh, rs, ?_⟩
  refine Po.bind (ρ := rE F.g) (ρ' := rAL X F.g j) (k := fun d A1 => (cr E A1).bind fun ds A2 => .ok (d :: ds) A2) q ?_
  intro m1 H1 d x A1 g1 rh1 dx q1
  refine ⟨m1, E, A1, rh1, rs.mono g1, ?_⟩
  refine Po.bind (ρ := rAL X F.g j) (ρ' := rAL X F.g j) (k := fun ds A2 => .ok (d :: ds) A2) q1 ?_
  intro m2 H2 ds xs A2 g2 rh2 dxs q2
  obtain ⟨vs1, f, c', rfl, dv, l1, l2, l3, l4⟩ := dxs
  exact q2 m2 (x :: (vs1 ++ [.ref f])) H2 (Gr.refl _ _) rh2 ⟨x :: vs1, f, c', rfl, .cons (dx.mono g2) dv, l1, l2, l3, l4⟩
/-! ### the captured values -/
def getCaps : List Nat → SA → Option (List D)
  | [], _ => some []
  | i :: r, E => match E[i]? with
    | some (some d) => (getCaps r E).map (d :: ·)
    | _ => none
inductive CellsW (cl : List (Str × Addr)) (cs : Cs) : List Str → List V → Prop
  | nil : CellsW cl cs [] []
  | cons {x : Str} {c : Addr} {o : Obj} {u : Value} {v : V} {xs : List Str} {vs : List V} : cl.lookup x = some c → (c, o) ∈ cs → o.data = .cell (some u) → RelV v u → CellsW cl cs xs vs → CellsW cl cs (x :: xs) (v :: vs)
theorem CellsW.more {cl : List (Str × Addr)} {cs cs' : Cs} (k : ∀ p ∈ cs, p ∈ cs') : ∀ {xs : List Str} {vs : List V}, CellsW cl cs xs vs → CellsW cl cs' xs vs
  | _, _, .nil => .nil
  | _, _, .cons h1 h2 h3 h4 h5 => .cons h1 (k _ h2) h3 h4 (CellsW.more k h5)
theorem lookup_memL : ∀ (cs : Cs) (c : Addr) (o : Obj), cs.lookup c = some o → (c, o) ∈ cs
  | [], _, _, h => by cases h
  | (a, b) :: r, c, o, h => by
    rw [List.lookup_cons] at h
    cases e : c == a with
    | true =>
      rw [e] at h
      have e2 : c = a := eq_of_beq e
      have h : some b = some o := h
      cases h
      rw [e2]
      exact List.mem_cons_self
    | false =>
      rw [e] at h
      exact List.mem_cons_of_mem _ (lookup_memL r c o h)
theorem lookup_mem {cs : Cs} {c : Addr} {o : Obj} (h : cs.lookup c = some o) : (c, o) ∈ cs := lookup_memL cs c o h
theorem mem_lookup' : ∀ (cs : Cs) (c : Addr) (o : Obj), (c, o) ∈ cs → ∃ o', cs.lookup c = some o'
  | [], _, _, h => absurd h (List.not_mem_nil)
  | (a, b) :: r, c, o, h => by
    rw [List.lookup_cons]
    cases e : c == a with
    | true => exact ⟨b, rfl⟩
    | false =>
      rcases List.mem_cons.mp h with z | z
      · have e2 : c = a := congrArg Prod.fst z
        rw [e2, beq_self_eq_true] at e
        cases e
      · exact mem_lookup' r c o z
/-- an object that a cell of the running frame is -/
structure CellAt (X : Cx) (H : Hp) (h : Heap) (p : Addr × Obj) : Prop where
  fr : H p.1 = none
  at_ : h.get? p.1 = some p.2
  cl : ∃ v, p.2.data = .cell v
  nm : ∃ x, X.env.cells.lookup x = some p.1
theorem caps_cells {W : WX} {X : Cx} (ok : Ok F W X) {pins : List (Addr × Obj)} {σ : St} {H : Hp} {s : Shared} (I : Inv X pins σ H s) {m : List Addr} {E : SA} (rs : RS F.g H m E σ) {cl : List (Str × Addr)} (hcl : ∀ y c, X.env.cells.lookup y = some c → (∃ z, cl.lookup y = some z) → cl.lookup y = some c)
    : ∀ (js : List Nat) (fr : List Str) (caps : List D), js.map (fun j => F.N[j]?) = fr.map some → (∀ y ∈ fr, (F.scope.names.lookup y = some .cell ∨ F.scope.names.lookup y = some .free) ∧ ∃ z, cl.lookup y = some z) → getCaps js E = some caps →
      ∃ (vs : List V) (cs : Cs), DVs F.g H m caps vs ∧ (∀ p ∈ cs, CellAt X H s.heap p) ∧ CellsW cl cs fr vs
  | [], fr, caps, e, _, hc => by
    cases fr with
    | nil => cases hc; exact ⟨[], [], .nil, by simp, .nil⟩
    | cons => cases e
  | j :: js, fr, caps, e, k, hc => by
    cases fr with
    | nil => cases e
    | cons y fr =>
      rw [List.map_cons, List.map_cons] at e
      injection e with e1 e2
      unfold getCaps at hc
      split at hc
      · rename_i d hd
        obtain ⟨caps', h1, rfl⟩ := Option.map_eq_some_iff.mp hc
        obtain ⟨vs, cs, dv, ca, cw⟩ := caps_cells ok I rs hcl js fr caps' e2 (fun y hy => k y (List.mem_cons_of_mem _ hy)) h1
        obtain ⟨v, hv, dvv⟩ := rs.at_ j d hd
        obtain ⟨hk, hz⟩ := k y List.mem_cons_self
        have hk' : X.env.scope.names.lookup y = some .cell ∨ X.env.scope.names.lookup y = some .free := by rw [ok.sc]; exact hk
        obtain ⟨mm, hn, hl⟩ := I.loc
        obtain ⟨u, ru, l⟩ := hl j y v (by rw [ok.N]; exact e1) hv (hk'.elim (fun z => .inr (.inl z)) fun z => .inr (.inr z))
        rcases l with ⟨z, _⟩ | ⟨_, c, hc', o, ho, hdat⟩
        · have z' : X.env.scope.names.lookup y = some .local := z
          rcases hk' with k | k <;> rw [k] at z' <;> cases z'
        · refine ⟨v :: vs, (c, o) :: cs, .cons dvv dv, fun p hp => ?_, .cons (hcl y c hc' hz) List.mem_cons_self hdat ru (cw.more fun p hp => List.mem_cons_of_mem _ hp)⟩
          rcases List.mem_cons.mp hp with rfl | hp
          · exact ⟨I.freeC y c hc', ho, ⟨_, hdat⟩, ⟨y, hc'⟩⟩
          · exact ca p hp
      · cases hc
theorem CellsW.told {cl : List (Str × Addr)} {cs : Cs} {H : Hp} {h : Heap} (ca : ∀ p ∈ cs, h.get? p.1 = some p.2) : ∀ {xs : List Str} {vs : List V}, CellsW cl cs xs vs → CellsV (addC cs H) [] cl xs vs
  | _, _, .nil => .nil
  | _, _, .cons (c := c) (o := o) h1 h2 h3 h4 h5 => by
    obtain ⟨o', ho⟩ := mem_lookup' _ _ _ h2
    have e1 := ca _ h2
    have e2 := ca _ (lookup_mem ho)
    have e1 : h.get? c = some o := e1
    have e2 : h.get? c = some o' := e2
    rw [e1] at e2
    cases e2
    exact .cons h1 (addC_in ho) (by simp) h3 h4 (CellsW.told ca h5)
/-! ### the call -/
def okR (d : D) (A : HA) : Bool := pureL d && (pureR d || noLk A)
/-- f(.., lambda), the lambda j with the captured slots js -/
def cCallL (c : CF) (j : Nat) (js : List Nat) (cpre : CA) : CE := fun E A => (cpre E A).bind fun ds A1 => match getCaps js E with
  | some caps => if pureLs ds = true ∧ pureLs caps = true then (match c (ds ++ [.lam j caps]) [] with
    | .ok d _ => if okR d A1 = true then .ok d A1 else .no
    | _ => .no) else .no
  | none => .no
/-- a value that is kept beside the caller's heap -/
theorem okR_back {g : G} {H H' : Hp} {m mx : List Addr} {A : HA} {d : D} {v : V} (h : okR d A = true) (rh : RH g H' m A) (k : KeepX H H') (dv : DV g H mx d v) : DV g H' m d v := by
  unfold okR at h
  rw [Bool.and_eq_true, Bool.or_eq_true] at h
  rcases h.2 with z | z
  · exact DV.toM rh z (DV.plain (m' := []) k (fun _ _ _ _ _ => by simp) h.1 dv)
  · exact DV.plain k (nm_back rh k z) h.1 dv
theorem je_callL {x : Str} {a : Addr} {ps : List Str} {c : CF} {j n : Nat} {js : List Nat} {e : Expr} {es : List Expr} {cpre : CA} {p : Pos} (h : CallOk F.g F.k a ps c) (hg : Gls F.scope x) (hm : F.g.mg x = some (.ref a)) (L : LamAt F j) (ha : JAL F j (e :: es) cpre) (hn : Len cpre n)
    (hjs : js.map (fun i => F.N[i]?) = (F.g.lm j).fr.map some) (hl : n + 1 = ps.length := by rfl) (hdb : (x == ("__debug__" : Str)) = false := by decide)
    (he : ∀ X : Cx, starEach (e :: es) X.env = (false, eval e X.env) :: starEach es X.env := by intro _; rfl) (hpl : ∀ X : Cx, (backTo pos (starEach es X.env)).any (·.1) = false := by intro _; rfl) :
    JE F (.Call (.Name x p) (e :: es) [] pos) (cCallL c j js cpre) := by
  intro W X ok
  obtain ⟨fd, fn, b⟩ := h.ex
  refine ⟨fun pins s σ H Q I hq => ?_⟩
  obtain ⟨m, E, A, rh, rs, q⟩ := hq
  have q : Po (rE F.g) F.g m H W σ ((cpre E A).bind fun ds A1 => match getCaps js E with
    | some caps => if pureLs ds = true ∧ pureLs caps = true then (match c (ds ++ [.lam j caps]) [] with
      | .ok d _ => if okR d A1 = true then .ok d A1 else .no
      | _ => .no) else .no
    | none => .no) Q := q
  refine wpAny_Call_Name_kw (ld_glob I (ok.gl hg) (by rw [ok.mg]; exact hm) ?_ hdb)
  refine PySem.W.callWith_K (h₀ := X.base) I.ok.mod.kin (by rw [ok.K]; exact h.kp) (thn ((ha W X ok).run pos pins s σ H (fun vs H1 => ∃ m1 ds A1, RH F.g H1 m1 A1 ∧ RS F.g H1 m1 E σ ∧ rAL X F.g j H1 m1 ds vs ∧ ds.length = n ∧ Po (rE F.g) F.g m1 H1 W σ (match getCaps js E with
    | some caps => if pureLs ds = true ∧ pureLs caps = true then (match c (ds ++ [.lam j caps]) [] with
      | .ok d _ => if okR d A1 = true then .ok d A1 else .no
      | _ => .no) else .no
    | none => .no) Q) I ⟨m, E, A, rh, rs, ?_⟩) fun us s1 ⟨vs, H1, I1, r1, m1, ds, A1, rh1, rs1, al, hl1, q1⟩ => ⟨I1.kIn, ?_⟩) (he X) (hpl X)
  · cases hc : cpre E A with
    | ok ds A1 =>
      rw [hc] at q
      intro m' vs H' gr rh' al
      exact ⟨m', ds, A1, rh', rs.mono gr, al, hn _ _ _ _ hc, Po.from gr q⟩
    | exc => rw [hc] at q; exact q
    | no => rw [hc] at q; exact q
  · obtain ⟨vs1, f, c', rfl, dv, l1, l2, l3, l4⟩ := al
    cases hcap : getCaps js E with
    | none => rw [hcap] at q1; exact q1.elim
    | some caps =>
    simp only [hcap] at q1
    split at q1
    rotate_left
    · exact q1.elim
    rename_i hp
    have lf := lam_free ok L I1
    have hcl : ∀ y c, X.env.cells.lookup y = some c → (∃ z, (cloFrom X.env.cells (F.g.lm j).scope.names []).lookup y = some z) → (cloFrom X.env.cells (F.g.lm j).scope.names []).lookup y = some c := fun y c e ⟨z, hz⟩ => by
      have := NdefX.clo_cm lf hz
      rw [e] at this
      cases this
      exact hz
    obtain ⟨cvs, cs, dvc, ca, cw⟩ := caps_cells ok I1 rs1 hcl js (F.g.lm j).fr caps hjs (fun y hy => ⟨L.fr _ (L.sup y hy) rfl, by
      obtain ⟨z, hz⟩ := lf _ (L.sup y hy) rfl
      exact ⟨z, NdefX.clo_has lf (L.sup y hy) hz⟩⟩) hcap
    have cat : ∀ b o, cs.lookup b = some o → CellAt X H1 s1.heap (b, o) := fun b o z => ca _ (lookup_mem z)
    have free : CsFree cs H1 s1.heap := fun b o z => ⟨(cat b o z).fr, (cat b o z).at_⟩
    have newer : ∀ b o, cs.lookup b = some o → X.s_0.heap.objs.size ≤ b := fun b o z => by
      obtain ⟨y, hy⟩ := (cat b o z).nm
      exact I1.ok.cab y b (ok.fnb L.dp y) hy
    have noBase : ∀ b o, X.base.get? b = some o → cs.lookup b = none := fun b o e => by
      cases z : cs.lookup b with
      | none => rfl
      | some o' =>
        have := newer b o' z
        have := Heap.lt_size e
        have := I1.ok.bsz
        exact absurd (Nat.lt_of_lt_of_le (Heap.lt_size e) (Nat.le_trans I1.ok.bsz (newer b o' z))) (Nat.lt_irrefl _)
    have noFr : ∀ b ∈ frs X.stack, cs.lookup b = none := fun b hb => by
      cases z : cs.lookup b with
      | none => rfl
      | some o' =>
        rcases List.mem_cons.mp (I1.stkSub b hb) with e | e
        · obtain ⟨y, hy⟩ := (cat b o' z).nm
          exact absurd e (I1.cne y b hy)
        · obtain ⟨_, o2, ho2, _⟩ := I1.ok.funs.mem e
          exact absurd (Nat.lt_of_lt_of_le (Heap.lt_size ho2) (newer b o' z)) (Nat.lt_irrefl _)
    have e1 := I1.env0
    have e0 : Env0 F.g.prog F.g.w F.g.K F.g.mg F.g.base X.A X.stack s1 (addC cs H1) := by
      rw [← ok.prog, ← ok.w, ← ok.K, ← ok.mg, ← ok.base]
      exact ⟨e1.frames, e1.mod, fun b o e => ⟨(e1.bs b o e).1, by rw [addC_out (noBase b o e)]; exact (e1.bs b o e).2⟩, e1.bsz, e1.funs, fun b hb => by rw [addC_out (noFr b hb)]; exact e1.frf b hb, hok_add e1.hok free, e1.bare⟩
    have keepA : ∀ b o, H1 b = some o → addC cs H1 b = some o := fun b o e => by
      cases z : cs.lookup b with
      | none => rw [addC_out z]; exact e
      | some o' => rw [(free b o' z).1] at e; cases e
    have dargs : DVs F.g (addC cs H1) [] (ds ++ [.lam j caps]) (vs1 ++ [.ref f]) := by
      refine DVs.append (DVs.plain (fun b o e _ => keepA b o e) (fun _ _ _ _ _ => by simp) hp.1 dv) (.cons (.lam (keepA _ _ l1) (by simp) (keepA _ _ l3) (by simp) ⟨⟨fun y z hz => ?_, fun y y2 z h1 h2 => ?_⟩, cw.told fun p hp => (ca p hp).at_⟩ (DVs.plain (fun b o e _ => keepA b o e) (fun _ _ _ _ _ => by simp) hp.2 dvc)) .nil)
      · rcases cloFrom_mem (PySem.mem_of_lookup hz) with hmm | ⟨h1, _⟩
        · cases hmm
        · exact L.sub _ h1 rfl
      · exact I1.ok.inj y y2 z (NdefX.clo_cm lf h1) (NdefX.clo_cm lf h2)
    have cdat : ∀ b o, cs.lookup b = some o → ∃ v, o.data = .cell v := fun b o z => (cat b o z).cl
    cases hcr : c (ds ++ [.lam j caps]) [] with
    | exc => rw [hcr] at q1; exact q1.elim
    | no => rw [hcr] at q1; exact q1.elim
    | ok d hA =>
    simp only [hcr] at q1
    split at q1
    rotate_left
    · exact q1.elim
    rename_i hok
    let Q' : VK := fun v H' => CsTold cs H' ∧ Q v (remC cs H')
    have hsp : SpC F.g c ps.length (vs1 ++ [.ref f]) (addC cs H1) Q' (fun _ _ _ => False) := by
      refine ⟨[], ds ++ [.lam j caps], [], ⟨List.nodup_nil, .nil, tabs_add rh1.tb fun b o z => (free b o z).1, fun _ _ => by simp⟩, dargs, by rw [List.length_append, hl1]; exact hl, ?_⟩
      rw [hcr]
      intro m' v H' gr rh' dv'
      have told : CsTold cs H' := fun b o z => gr.keep b _ (addC_in z) (by simp)
      refine ⟨told, ?_⟩
      have outR : ∀ b o, H1 b = some o → remC cs H' b = H' b := fun b o e => by
        cases z : cs.lookup b with
        | none => exact remC_out z
        | some o' => rw [(free b o' z).1] at e; cases e
      have g2 : Gr m1 m1 H1 (remC cs H') := by
        refine ⟨⟨[], by simp, by simp⟩, fun b o e _ nt => ?_, fun b qs e => ?_, fun b e => ?_⟩
        · rw [outR b o e]; exact gr.keep b o (keepA b o e) (by simp) nt
        · rw [outR b _ e]; exact gr.tbl b qs (keepA b _ e)
        · cases z : cs.lookup b with
          | none => rw [remC_out z] at e; have := gr.non b e; rw [addC_out z] at this; exact this
          | some o' => exact (free b o' z).1
      have rh2 : RH F.g (remC cs H') m1 A1 := ⟨rh1.nd, Paired.mapR rh1.at_ fun b o r => r.mono g2 (by obtain ⟨u, hu, k1, _⟩ := r.kinds; rw [outR b u hu, gr.keep b u (keepA b u hu) (by simp) k1, hu]), tabs_rem (fun b o z => (free b o z).2) rh'.tb told cdat, rh1.tbm⟩
      have kx : KeepX H' (remC cs H') := fun b u e nx => by
        cases z : cs.lookup b with
        | none => rw [remC_out z]; exact e
        | some o' => rw [told b o' z] at e; cases e; exact absurd rfl (nx _)
      exact q1 m1 v _ g2 rh2 (okR_back hok rh2 kx dv')
    have r2 : Vals (vs1 ++ [.ref f]) us := r1
    have hlen : us.length = ps.length := by rw [← r2.length]; exact fn.len _ _ _ _ hsp
    have bb := b s1 us (ok.K ▸ I1.kIn) (by rw [List.append_nil]; exact hlen)
    rw [List.append_nil] at bb
    have run := fn.run X.A X.stack s1 (addC cs H1) ⟨us, []⟩ us (vs1 ++ [.ref f]) Q' (fun _ _ _ => False) ok.room ok.gd e0 bb r2 hsp
    rw [← ok.prog, ← ok.w] at run
    refine wpAny_call (codeAny_mono run fun r s' hq => ?_)
    cases r with
    | error e =>
      obtain ⟨_, _, _, _, _, _, _, _, _, _, _, _, z⟩ := hq
      exact z.elim
    | ok fl =>
      cases fl with
      | ret u =>
        obtain ⟨v, H', os, bare, un, hok', rv, told, hQ⟩ := hq
        exact I1.after ⟨v, remC cs H', os, bare, un_add free hok' told un, hok_rem hok' told, rv, hQ⟩
      | next => exact False.elim hq
      | brk => exact False.elim hq
      | cont => exact False.elim hq
end Sm

end
section
set_option autoImplicit false
/-! Sm27: a lambda, or a def, called by a parameter that holds it -/
namespace Sm
open PySem PySem.Spec PyProof.Rows L2
variable {pos : Pos}
/-- a lambda's body run apart, its captured values behind its arguments -/
def lamRun (n : Nat) (cb : CE) (caps : List D) : CF := fun ds A => if pureLs ds = true ∧ pureLs caps = true then (match cb (startA n (ds ++ caps)) [] with
    | .ok d _ => if okR d A = true then .ok d A else .no
    | .exc k es _ => if pureLs es = true ∧ (pureRs es = true ∨ noLk A = true) then .exc k es A else .no
    | .no => .no) else .no
/-- the fixed data of a lambda's body -/
abbrev lamF (g : G) (N : List Str) (j k : Nat) : Sm.F := ⟨g, N, (g.lm j).scope, k, [], true, []⟩
/-- the lambda j may be called at level k with n arguments -/
structure LamOk (g : G) (k j n : Nat) (N : List Str) (cb : CE) : Prop where
  sc : NdefX.NScope N (g.lm j).ps (g.lm j).fr (g.lm j).scope
  bnd : ∀ (cl : List (Str × Addr)) (pm cv ct : Value) (us : List Value), us.length = (g.lm j).ps.length → bindArgs (PySem.W.kla_fn "<lambda>" (g.lm j).q (g.lm j).params (g.lm j).body (g.lm j).scope cl pm cv ct) ⟨us, []⟩ = pure ((g.lm j).ps.zip us)
  np : (g.lm j).ps.length = n
  body : ∃ k', k' + 1 ≤ k ∧ JE (lamF g N j k') (g.lm j).body cb
theorem LamOk.mono {g : G} {i k j n : Nat} {N : List Str} {cb : CE} (h : LamOk g i j n N cb) (z : i ≤ k) : LamOk g k j n N cb := ⟨h.sc, h.bnd, h.np, let ⟨k', a, b⟩ := h.body; ⟨k', by omega, b⟩⟩
theorem cellsW_of {H : Hp} {m : List Addr} {cl : List (Str × Addr)} : ∀ {fr : List Str} {vs : List V}, CellsV H m cl fr vs → ∃ cs : Cs, (∀ p ∈ cs, H p.1 = some (CellX p.1 p.2) ∧ p.1 ∉ m ∧ (∃ v, p.2.data = .cell v)) ∧ CellsW cl cs fr vs
  | _, _, .nil => ⟨[], by simp, .nil⟩
  | _, _, .cons (c := c) (o := o) h1 h2 h3 h4 h5 h6 => by
    obtain ⟨cs, k1, k2⟩ := cellsW_of h6
    refine ⟨(c, o) :: cs, fun p hp => ?_, .cons h1 List.mem_cons_self h4 h5 (k2.more fun p hp => List.mem_cons_of_mem _ hp)⟩
    rcases List.mem_cons.mp hp with rfl | hp
    · exact ⟨h2, h3, _, h4⟩
    · exact k1 p hp
theorem cellsW_len {cl : List (Str × Addr)} {cs : Cs} : ∀ {fr : List Str} {vs : List V}, CellsW cl cs fr vs → vs.length = fr.length
  | _, _, .nil => rfl
  | _, _, .cons _ _ _ _ h => by rw [List.length_cons, List.length_cons, cellsW_len h]
theorem cellsW_at {cl : List (Str × Addr)} {cs : Cs} : ∀ {fr : List Str} {vs : List V}, CellsW cl cs fr vs → ∀ (i : Nat) (y : Str), fr[i]? = some y → ∃ c o u v, cl.lookup y = some c ∧ (c, o) ∈ cs ∧ o.data = .cell (some u) ∧ vs[i]? = some v ∧ RelV v u
  | _, _, .nil, i, y, e => by simp at e
  | _, _, .cons h1 h2 h3 h4 h5, 0, y, e => by
    simp at e
    subst e
    exact ⟨_, _, _, _, h1, h2, h3, rfl, h4⟩
  | _, _, .cons h1 h2 h3 h4 h5, i + 1, y, e => by
    obtain ⟨c, o, u, v, k1, k2, k3, k4, k5⟩ := cellsW_at h5 i y (by simpa using e)
    exact ⟨c, o, u, v, k1, k2, k3, by simpa using k4, k5⟩
theorem startF_eq (N : List Str) (vs cvs : List V) : NdefX.startF N vs (cvs.map some) = L2.start N (vs ++ cvs) := by
  unfold NdefX.startF L2.start
  rw [List.map_append, List.append_assoc, List.length_map, List.length_append, Nat.sub_sub]
/-- the lambda runs -/
theorem lam_run {g : G} {k j n : Nat} {N : List Str} {cb : CE} (L : LamOk g k j n N cb) {W : WX} {σ : St} {f c' : Addr} {cl : List (Str × Addr)} {A : Around} {outer : List Env} {s : Shared} {H : Hp} {m : List Addr} {HA0 : HA} {us : List Value} {vs cvs : List V} {ds caps : List D} {Q : VK}
    (hr : Room k A) (hgd : A.guards = some []) (e0 : Env0 g.prog g.w g.K g.mg g.base A outer s H) (rh : RH g H m HA0) (l1 : H f = some (LamO (g.lm j) cl c' f)) (l2 : H c' = some (LamX.CodeO c' (g.lm j).q)) (cq : CellsQ H m cl (g.lm j).fr cvs) (dc : DVs g H m caps cvs) (dv : DVs g H m ds vs) (r : Vals vs us) (hn : ds.length = n)
    (q : Po (rE g) g m H W σ (lamRun N.length cb caps ds HA0) Q) : codeAny (model g.prog g.w) A (.call (.ref f) ⟨us, []⟩) (CR (L2.CX g.prog g.w) outer g.prog g.w H s Q (fun cls d H2 => W cls d σ H2)) s := by
  obtain ⟨k', hk, body⟩ := L.body
  obtain ⟨cs, cin, cw⟩ := cellsW_of cq.v
  have told : CsTold cs H := fun b o z => (cin _ (lookup_mem z)).1
  have cdat : ∀ b o, cs.lookup b = some o → ∃ v, o.data = .cell v := fun b o z => (cin _ (lookup_mem z)).2.2
  have gets : ∀ b o, cs.lookup b = some o → s.heap.get? b = some o := fun b o z => told_get e0.hok told z
  have getm : ∀ b o, (b, o) ∈ cs → s.heap.get? b = some o := fun b o z => (e0.hok b _ (cin _ z).1).1
  let H0 := remC cs H
  have e1 : Env0 g.prog g.w g.K g.mg g.base A outer s H0 := ⟨e0.frames, e0.mod, fun b o e => ⟨(e0.bs b o e).1, by
      cases z : cs.lookup b with
      | none => show remC cs H b = none; rw [remC_out z]; exact (e0.bs b o e).2
      | some o' => exact remC_in z⟩, e0.bsz, e0.funs, fun b hb => by
      cases z : cs.lookup b with
      | none => show remC cs H b = none; rw [remC_out z]; exact e0.frf b hb
      | some o' => exact remC_in z, hok_rem e0.hok told, e0.bare⟩
  unfold lamRun at q
  split at q
  rotate_left
  · exact q.elim
  rename_i hp
  have kx0 : KeepX H H0 := fun b u e nx => by
    cases z : cs.lookup b with
    | none => show remC cs H b = some u; rw [remC_out z]; exact e
    | some o' => rw [told b o' z] at e; cases e; exact absurd rfl (nx _)
  have dv0 : DVs g H0 [] (ds ++ caps) (vs ++ cvs) := DVs.append (DVs.plain kx0 (fun _ _ _ _ _ => by simp) hp.1 dv) (DVs.plain kx0 (fun _ _ _ _ _ => by simp) hp.2 dc)
  have rh0 : RH g H0 [] [] := ⟨List.nodup_nil, .nil, tabs_rem gets rh.tb told cdat, fun _ _ => by simp⟩
  have C : NdefX.CellsAt cl (g.lm j).fr (cvs.map some) s.heap H0 := by
    refine ⟨by rw [List.length_map]; exact cellsW_len cw, fun y c e => ?_, fun x y c e e' => cq.ok.inj x y c e e', fun i y e => ?_⟩
    · obtain ⟨i, hi⟩ := List.mem_iff_getElem?.mp (cq.ok.sub y c e)
      obtain ⟨c2, o, u, v, k1, k2, k3, _, _⟩ := cellsW_at cw i y hi
      rw [e] at k1
      cases k1
      obtain ⟨o', ho⟩ := mem_lookup' _ _ _ k2
      exact ⟨remC_in ho, some u, o, getm c o k2, k3⟩
    · obtain ⟨c2, o, u, v, k1, k2, k3, k4, k5⟩ := cellsW_at cw i y e
      refine ⟨c2, k1, fun v' ev => ?_⟩
      rw [List.getElem?_map, k4] at ev
      cases ev
      exact ⟨u, k5, o, getm c2 o k2, k3⟩
  have lim : s.heap.NoLimit := e0.mod.nolimit.keeps fun b o e => (e0.bs b o e).1
  obtain ⟨⟨pm, ctv, ho⟩, _⟩ := e0.hok f _ l1
  obtain ⟨⟨oc, vs', t, hoc, hdc, hvc⟩, _⟩ := e0.hok c' _ l2
  have hlen : vs.length = (g.lm j).ps.length := by rw [← dv.length, hn, L.np]
  -- within
  let Q0 : VK := fun v H' => ∃ m' A', Gr [] m' H0 H' ∧ RH g H' m' A' ∧ ∃ d, cb (startA N.length (ds ++ caps)) [] = .ok d A' ∧ DV g H' m' d v
  let E0 : L2.XK := fun cls dd H' => ∃ m' A', Gr [] m' H0 H' ∧ RH g H' m' A' ∧ ∃ kk es, cb (startA N.length (ds ++ caps)) [] = .exc kk es A' ∧ EXR g H' m' kk es cls dd
  have inner : codeAny (model g.prog g.w) A (.call (.ref f) ⟨us, []⟩) (CR (L2.CX g.prog g.w) outer g.prog g.w H0 s Q0 E0) s := by
    have hrk : Room (k' + 1) A := hr.mono hk
    refine PySem.W.kla_callFunE hrk.depth ho rfl L.sc.co L.sc.gen rfl ⟨c', oc, vs', t, rfl, hoc, hdc, hvc⟩ ?_
    rw [L.bnd _ _ _ _ us (by rw [← r.length]; exact hlen)]
    refine wpAny_pure (wpAny_newFunctionEnv L.sc.nocell (fun ⟨y, _⟩ hy => L.sc.par y (List.of_mem_zip hy).1) (fun h₁ hns hsb => ⟨lim.fresh _ hsb, ?_⟩) L.sc.kind)
    let NF0 : NdefX.NF := ⟨"<lambda>", (g.lm j).q, (g.lm j).params, [], (g.lm j).scope, cl, c'⟩
    show codeAny _ _ (.expr (g.lm j).body (NdefX.envF NF0 f s.heap.objs.size)) _ _
    have kp : ∀ b o, s.heap.get? b = some o → h₁.get? b = some o := fun b o e => hsb.extBut b o (Nat.ne_of_lt (Heap.lt_size e)) (Heap.get?_push_of_some _ e)
    have I : Inv (NdefX.ncx (L2.CX g.prog g.w) g.prog g.w g.K g.mg g.base N NF0 f A outer s H0 E0) [] (NdefX.startF N vs (cvs.map some)) H0 { s with heap := h₁, toks := s.toks + ((g.lm j).ps.zip us).length } := NdefX.inv_startN L.sc hr.hd e1 hlen r C hns kp
    generalize hX : NdefX.ncx (L2.CX g.prog g.w) g.prog g.w g.K g.mg g.base N NF0 f A outer s H0 E0 = X at I
    have ok : Ok (lamF g N j k') (fun cls d _ H => E0 cls d H) X := by
      subst hX
      exact { prog := rfl, w := rfl, K := rfl, mg := rfl, base := rfl, N := rfl, sc := rfl, nd := L.sc.nd, room := hrk.deeper _, calm := rfl, gd := hgd, tk := takes_of rfl rfl rfl rfl, fnb := (fun z => by cases z), tabB := fun t z => by cases z }
    rw [startF_eq] at I
    have po : Po (rE g) g [] H0 (fun cls d _ H => E0 cls d H) (L2.start N (vs ++ cvs)) (cb (startA N.length (ds ++ caps)) []) Q0 := by
      cases hc : cb (startA N.length (ds ++ caps)) [] with
      | ok d A' => exact fun m' v H' gr rh' dv' => ⟨m', A', gr, rh', d, hc, dv'⟩
      | exc kk es A' => exact fun m' H' cls dd gr rh' ex => ⟨m', A', gr, rh', kk, es, hc, ex⟩
      | no => rw [hc] at q; exact q.elim
    have run := (body _ X ok).run [] _ _ H0 Q0 I ⟨[], startA N.length (ds ++ caps), [], rh0, rs_start dv0, po⟩
    subst hX
    refine PySem.W.kla_codeExpr (wpAny_mono run (fun u s' hq => ?_) fun e s' hq => hq)
    obtain ⟨v, H', J, rv, qq⟩ := hq
    exact ⟨v, H', J.os, J.bare, J.base, J.hok, rv, qq⟩
  -- from outside
  have free0 : ∀ {b : Addr} {o' : Obj}, cs.lookup b = some o' → H0 b = none := fun z => remC_in z
  have keepC : ∀ {m' : List Addr} {H' : Hp}, Gr [] m' H0 H' → ∀ b o, H b = some o → (∀ ps, o ≠ .tbl ps) → addC cs H' b = some o := fun {m' H'} gr b o e nt => by
    cases z : cs.lookup b with
    | none => rw [addC_out z]; exact gr.keep b o (by show remC cs H b = some o; rw [remC_out z]; exact e) (by simp) nt
    | some o' => rw [addC_in z]; rw [told b o' z] at e; exact e
  have grO : ∀ {m' : List Addr} {H' : Hp}, Gr [] m' H0 H' → Gr m m H (addC cs H') := fun {m' H'} gr => by
    refine ⟨⟨[], by simp, by simp⟩, fun b o e _ nt => keepC gr b o e nt, fun b qs e => ?_, fun b e => ?_⟩
    · cases z : cs.lookup b with
      | none => rw [addC_out z]; exact gr.tbl b qs (by show remC cs H b = _; rw [remC_out z]; exact e)
      | some o' => rw [told b o' z] at e; cases e
    · cases z : cs.lookup b with
      | none => rw [addC_out z] at e; have := gr.non b e; rwa [show H0 b = H b from remC_out z] at this
      | some o' => rw [addC_in z] at e; cases e
  have rhO : ∀ {m' : List Addr} {H' : Hp} {A' : HA}, Gr [] m' H0 H' → RH g H' m' A' → (∀ b o, cs.lookup b = some o → H' b = none) → RH g (addC cs H') m HA0 := fun {m' H' A'} gr rh' n =>
    ⟨rh.nd, Paired.mapR rh.at_ fun b o r => r.mono (grO gr) (by obtain ⟨u, hu, k1, _⟩ := r.kinds; rw [keepC gr b u hu k1, hu]), tabs_add rh'.tb n, rh.tbm⟩
  have kxO : ∀ {H' : Hp}, (∀ b o, cs.lookup b = some o → H' b = none) → KeepX H' (addC cs H') := fun {H'} n b u e _ => by
    cases z : cs.lookup b with
    | none => rw [addC_out z]; exact e
    | some o' => rw [n b o' z] at e; cases e
  refine codeAny_mono inner fun r s' hq => ?_
  cases r with
  | error e =>
    obtain ⟨a, B, H', cls, dd, e1, fz, hok, ub, na, os, bare, m', A', gr, rh', kk, es, hc, ex⟩ := hq
    have nn : ∀ b o, cs.lookup b = some o → H' b = none := fun b o z => ub.free b o (gets b o z) (free0 z)
    have toldB : ∀ b o, cs.lookup b = some o → B.get? b = some o := fun b o z => ub.keep b o (gets b o z) (free0 z) fun hb => by
      have := e0.frf b hb
      rw [told b o z] at this
      cases this
    rw [hc] at q
    split at q
    · rename_i h2; cases h2
    · rename_i h2
      cases h2
      split at q
      · rename_i hpe
        refine ⟨a, B, addC cs H', cls, dd, e1, fz, hok_add hok fun b o z => ⟨nn b o z, toldB b o z⟩, ub_rem told ub, ?_, os, bare, ?_⟩
        · cases z : cs.lookup a with
          | none => rw [addC_out z]; exact na
          | some o' =>
            obtain ⟨_, fa, _⟩ := fz
            rw [toldB a o' z] at fa
            cases fa
        · obtain ⟨x1, q2, us2, x2, x3, x4, x5, x6⟩ := ex
          have kx := kxO nn
          have rh2 := rhO gr rh' nn
          refine q m (addC cs H') cls dd (grO gr) rh2 ⟨x1, q2, us2, x2, kx _ _ x3 (fun φ z => by cases z), rh2.not_in (kx _ _ x3 (fun φ z => by cases z)) (.inr (.inr (.inr ⟨_, rfl⟩))), x5, ?_⟩
          rcases hpe.2 with z | z
          · exact DVs.toM rh2 z (DVs.plain (m' := []) kx (fun _ _ _ _ _ => by simp) hpe.1 x6)
          · exact DVs.plain kx (nm_back rh2 kx z) hpe.1 x6
      · exact q.elim
    · rename_i h2; cases h2
  | ok fl =>
    cases fl with
    | next => exact False.elim hq
    | brk => exact False.elim hq
    | cont => exact False.elim hq
    | ret u =>
      obtain ⟨v, H', os, bare, un, hok, rv, m', A', gr, rh', d, hc, dv'⟩ := hq
      have nn : ∀ b o, cs.lookup b = some o → H' b = none := fun b o z => un.free b o (gets b o z) (free0 z) (by simp)
      have keepH : ∀ b o, cs.lookup b = some o → s'.heap.get? b = some o := fun b o z => un.keep b o (gets b o z) (free0 z) (fun hb => by
        have := e0.frf b hb
        rw [told b o z] at this
        cases this) (by simp)
      rw [hc] at q
      split at q
      · rename_i h2
        cases h2
        split at q
        · rename_i hok2
          have rh2 := rhO gr rh' nn
          exact ⟨v, addC cs H', os, bare, un_rem e0.hok told un, hok_add hok fun b o z => ⟨nn b o z, keepH b o z⟩, rv, q m v _ (grO gr) rh2 (okR_back hok2 rh2 (kxO nn) dv')⟩
        · exact q.elim
      · rename_i h2; cases h2
      · rename_i h2; cases h2
end Sm

end
section
set_option autoImplicit false
/-! Sm28: a call of a parameter that holds a def or a lambda -/
namespace Sm
open PySem PySem.Spec PyProof.Rows L2
variable {F : F} {pos : Pos}
def TabF (g : G) (k n : Nat) (tf : Nat → Option CF) : Prop := ∀ f c, tf f = some c → ∃ ps : List Str, ps.length = n ∧ CallOk g k (g.fa f) ps c
def TabL (g : G) (k n : Nat) (tl : Nat → Option (Nat × CE)) : Prop := ∀ j N cb, tl j = some (N, cb) → ∃ Ns : List Str, Ns.length = N ∧ LamOk g k j n Ns cb
theorem TabF.mono {g : G} {i k n : Nat} {tf : Nat → Option CF} (h : TabF g i n tf) (z : i ≤ k) : TabF g k n tf := fun f c e => let ⟨ps, a, b⟩ := h f c e; ⟨ps, a, b.mono z⟩
theorem TabL.mono {g : G} {i k n : Nat} {tl : Nat → Option (Nat × CE)} (h : TabL g i n tl) (z : i ≤ k) : TabL g k n tl := fun f c d e => let ⟨ps, a, b⟩ := h f c d e; ⟨ps, a, b.mono z⟩
theorem TabF.non {g : G} {k n : Nat} : TabF g k n fun _ => none := fun _ _ e => by cases e
theorem TabL.non {g : G} {k n : Nat} : TabL g k n fun _ => none := fun _ _ _ e => by cases e
theorem TabF.one {g : G} {k n f : Nat} {c : CF} {ps : List Str} {tf : Nat → Option CF} (h : CallOk g k (g.fa f) ps c) (r : TabF g k n tf) (hn : ps.length = n := by rfl) : TabF g k n fun i => if i = f then some c else tf i := fun i c' e => by
  dsimp only at e
  split at e
  · rename_i z; subst z; cases e; exact ⟨ps, hn, h⟩
  · exact r i c' e
theorem TabL.one {g : G} {k n j : Nat} {cb : CE} {N : List Str} {tl : Nat → Option (Nat × CE)} (h : LamOk g k j n N cb) (r : TabL g k n tl) : TabL g k n fun i => if i = j then some (N.length, cb) else tl i := fun i N' c' e => by
  dsimp only at e
  split at e
  · rename_i z; subst z; cases e; exact ⟨N, rfl, h⟩
  · exact r i N' c' e
def vSel (tf : Nat → Option CF) (tl : Nat → Option (Nat × CE)) : D → Option CF
  | .fn f => tf f
  | .lam j caps => (tl j).map fun p => lamRun p.1 p.2 caps
  | _ => none
def cCallV (tf : Nat → Option CF) (tl : Nat → Option (Nat × CE)) (i : Nat) (ca : CA) : CE := fun E A => match E[i]? with
  | some (some d) => match vSel tf tl d with
    | some c => (ca E A).bind fun ds A1 => c ds A1
    | none => .no
  | _ => .no
theorem je_callV {tf : Nat → Option CF} {tl : Nat → Option (Nat × CE)} {i n : Nat} {x : Str} {e : Expr} {es : List Expr} {ca : CA} {p : Pos} (hN : F.N[i]? = some x) (hv : Vis F.scope x) (tF : TabF F.g F.k n tf) (tL : TabL F.g F.k n tl) (ha : JA F (e :: es) ca) (hn : Len ca n)
    (hd : (x == ("__debug__" : Str)) = false := by decide) (hcd : (x == ("__classdict__" : Str)) = false := by decide)
    (he : ∀ X : Cx, starEach (e :: es) X.env = (false, eval e X.env) :: starEach es X.env := by intro _; rfl) (hpl : ∀ X : Cx, (backTo pos (starEach es X.env)).any (·.1) = false := by intro _; rfl) :
    JE F (.Call (.Name x p) (e :: es) [] pos) (cCallV tf tl i ca) := by
  intro W X ok
  refine ⟨fun pins s σ H Q I hq => ?_⟩
  obtain ⟨m, E, A, rh, rs, q⟩ := hq
  unfold cCallV at q
  split at q
  rotate_left
  · exact q.elim
  rename_i d ed
  obtain ⟨v, hv1, dv⟩ := rs.at_ i d ed
  refine wpAny_Call_Name_kw (thn ((pe_var (pos := p) (by rw [ok.N]; exact hN) (by rw [ok.sc]; exact hv) hd hcd).run pins s σ H (fun w H1 => w = v ∧ H1 = H) I ⟨v, hv1, rfl, rfl⟩) fun u s1 ⟨w, H1, I1, r1, q1⟩ => ?_)
  obtain ⟨ev, eH⟩ := q1
  subst ev
  rw [eH] at I1
  split at q
  rotate_left
  · exact q.elim
  rename_i c hc
  cases d with
  | fn f =>
    have hc : tf f = some c := hc
    obtain ⟨ps, hl, h⟩ := tF f c hc
    obtain ⟨fd, fn, b⟩ := h.ex
    cases dv
    obtain rfl : u = .ref (F.g.fa f) := r1
    refine PySem.W.callWith_K (first := []) (h₀ := X.base) I1.ok.mod.kin (by rw [ok.K]; exact h.kp) (thn ((ha W X ok).run pos pins s1 σ H (fun vs H1 => SpC F.g c ps.length vs H1 Q fun cls d H2 => W cls d σ H2) I1 ⟨m, E, A, rh, rs, Po.bindL hn q fun m1 H1 ds xs A1 g1 rh1 dxs hl1 q1 => ?_⟩) fun us s1 ⟨vs, H1, I1, r1, q1⟩ => ⟨I1.kIn, ?_⟩) (he X) (hpl X)
    · refine ⟨m1, ds, A1, rh1, dxs, by rw [dxs.length, hl1, hl], ?_⟩
      cases hc : c ds A1 with
      | ok d h => rw [hc] at q1; exact q1
      | exc => rw [hc] at q1; exact q1
      | no => rw [hc] at q1; exact q1.elim
    · exact run_g (E := fun σ cls d H2 => W cls d σ H2) ok fn b (passAt ok.tk σ) I1 r1 q1
  | lam j caps =>
    obtain ⟨⟨N, cb⟩, hj, rfl⟩ := Option.map_eq_some_iff.mp (show (tl j).map (fun p => lamRun p.1 p.2 caps) = some c from hc)
    obtain ⟨Ns, rfl, L⟩ := tL j N cb hj
    cases dv with
    | lam h1 h2 h3 h4 h5 h6 =>
    rename_i f c' cl cvs
    obtain rfl : u = .ref f := r1
    have fnAt : ∀ {H : Hp} {s : Shared}, Inv X pins σ H s → H f = some (LamO (F.g.lm j) cl c' f) → PySem.W.FnAt f s.heap := fun I h => by
      obtain ⟨⟨pm, ctv, ho⟩, _⟩ := I.hok f _ h
      exact ⟨_, _, _, _, ho⟩
    refine PySem.W.callWith_F (first := []) (fnAt I1 h1) (thn ((ha W X ok).run pos pins s1 σ H (fun vs H1 => ∃ m1 ds A1, RH F.g H1 m1 A1 ∧ DVs F.g H1 m1 ds vs ∧ ds.length = n ∧ Gr m m1 H H1 ∧ Po (rE F.g) F.g m1 H1 W σ (lamRun Ns.length cb caps ds A1) Q) I1 ⟨m, E, A, rh, rs, ?_⟩) fun us s2 ⟨vs, H2, I2, r, m1, ds, A1, rh1, dxs, hl1, gr, q1⟩ => ⟨fnAt I2 (gr.keep _ _ h1 h2), ?_⟩) (he X) (hpl X)
    · cases hca : ca E A with
      | ok ds A1 =>
        rw [hca] at q
        intro m' vs H' gr rh' al
        exact ⟨m', ds, A1, rh', al, hn _ _ _ _ hca, gr, Po.from gr q⟩
      | exc => rw [hca] at q; exact q
      | no => rw [hca] at q; exact q
    · show wpAny _ _ (call (.ref f) us) _ _ _
      have e0 : Env0 F.g.prog F.g.w F.g.K F.g.mg F.g.base X.A X.stack s2 H2 := by
        have := I2.env0
        rw [ok.prog, ok.w, ok.K, ok.mg, ok.base] at this
        exact this
      have run := lam_run L ok.room ok.gd e0 rh1 (gr.keep _ _ h1 h2) (gr.keep _ _ h3 h4) (h5.mono gr) (h6.mono gr) dxs r hl1 q1
      rw [← ok.prog, ← ok.w] at run
      refine wpAny_call (codeAny_mono run fun r s' hq => ?_)
      cases r with
      | error e => exact passAt ok.tk σ pins H2 s2 e s' I2 hq
      | ok fl =>
        cases fl with
        | ret u => exact I2.after hq
        | next => exact False.elim hq
        | brk => exact False.elim hq
        | cont => exact False.elim hq
  | _ => cases hc
theorem je_callV0 {tf : Nat → Option CF} {tl : Nat → Option (Nat × CE)} {i : Nat} {x : Str} {p : Pos} (hN : F.N[i]? = some x) (hv : Vis F.scope x) (tF : TabF F.g F.k 0 tf) (tL : TabL F.g F.k 0 tl)
    (hd : (x == ("__debug__" : Str)) = false := by decide) (hcd : (x == ("__classdict__" : Str)) = false := by decide) :
    JE F (.Call (.Name x p) [] [] pos) (cCallV tf tl i cNil) := by
  intro W X ok
  refine ⟨fun pins s σ H Q I hq => ?_⟩
  obtain ⟨m, E, A, rh, rs, q⟩ := hq
  unfold cCallV at q
  split at q
  rotate_left
  · exact q.elim
  rename_i d ed
  obtain ⟨v, hv1, dv⟩ := rs.at_ i d ed
  refine wpAny_Call_Name_kw (thn ((pe_var (pos := p) (by rw [ok.N]; exact hN) (by rw [ok.sc]; exact hv) hd hcd).run pins s σ H (fun w H1 => w = v ∧ H1 = H) I ⟨v, hv1, rfl, rfl⟩) fun u s1 ⟨w, H1, I1, r1, q1⟩ => ?_)
  obtain ⟨ev, eH⟩ := q1
  subst ev
  rw [eH] at I1
  split at q
  rotate_left
  · exact q.elim
  rename_i c hc
  have q : Po (rE F.g) F.g m H W σ (c [] A) Q := q
  cases d with
  | fn f =>
    have hc : tf f = some c := hc
    obtain ⟨ps, hl, h⟩ := tF f c hc
    obtain ⟨fd, fn, b⟩ := h.ex
    cases dv
    obtain rfl : u = .ref (F.g.fa f) := r1
    refine PySem.W.callWith_K0 (first := []) I1.kIn (by rw [ok.K]; exact h.kp) (run_g (us := []) (vs := []) (E := fun σ cls d H2 => W cls d σ H2) ok fn b (passAt ok.tk σ) I1 .nil ?_)
    refine ⟨m, [], A, rh, .nil, hl.symm, ?_⟩
    cases hc : c [] A with
    | ok d h => rw [hc] at q; exact q
    | exc => rw [hc] at q; exact q
    | no => rw [hc] at q; exact q.elim
  | lam j caps =>
    obtain ⟨⟨N, cb⟩, hj, rfl⟩ := Option.map_eq_some_iff.mp (show (tl j).map (fun p => lamRun p.1 p.2 caps) = some c from hc)
    obtain ⟨Ns, rfl, L⟩ := tL j N cb hj
    cases dv with
    | lam h1 h2 h3 h4 h5 h6 =>
    rename_i f c' cl cvs
    obtain rfl : u = .ref f := r1
    obtain ⟨⟨pm, ctv, ho⟩, _⟩ := I1.hok f _ h1
    refine PySem.W.callWith_F0 (first := []) ⟨_, _, _, _, ho⟩ ?_
    show wpAny _ _ (call (.ref f) []) _ _ _
    have e0 : Env0 F.g.prog F.g.w F.g.K F.g.mg F.g.base X.A X.stack s1 H := by
      have := I1.env0
      rw [ok.prog, ok.w, ok.K, ok.mg, ok.base] at this
      exact this
    have run := lam_run L ok.room ok.gd e0 rh h1 h3 h5 h6 .nil .nil rfl q
    rw [← ok.prog, ← ok.w] at run
    refine wpAny_call (codeAny_mono run fun r s' hq => ?_)
    cases r with
    | error e => exact passAt ok.tk σ pins H s1 e s' I1 hq
    | ok fl =>
      cases fl with
      | ret u => exact I1.after hq
      | next => exact False.elim hq
      | brk => exact False.elim hq
      | cont => exact False.elim hq
  | _ => cases hc
/-! ### names of the text's defs as values -/
theorem je_fn {x : Str} {f : Nat} {a : Addr} (hg : Gls F.scope x) (hm : F.g.mg x = some (.ref a)) (ha : F.g.fa f = a := by rfl) (hd : (x == ("__debug__" : Str)) = false := by decide) : JE F (.Name x pos) (cC (.fn f)) := by
  subst ha
  intro W X ok
  refine PE.imp (pe_glob (v := .ref (F.g.fa f)) (u := .ref (F.g.fa f)) (ok.gl hg) (by rw [ok.mg]; exact hm) rfl hd) ?_
  rintro σ H Q ⟨m, E, A, rh, rs, q⟩
  exact Po.ok q rh (.fn f)
end Sm

end
section
set_option autoImplicit false
/-! Sm29: all, any, sum, max, min, tuple(..), list(..), slices, chains, zip, walks of texts -/
namespace Sm
open PySem PySem.Spec PyProof.Rows L2
variable {F : F} {pos : Pos}
def bool1 : D → Option Bool
  | .bl b => some b
  | _ => none
def int1 : D → Option Int
  | .int i => some i
  | _ => none
def optL {α : Type} (f : D → Option α) : List D → Option (List α)
  | [] => some []
  | d :: ds => match f d, optL f ds with
    | some x, some xs => some (x :: xs)
    | _, _ => none
section
variable {g : G} {H : Hp} {m : List Addr}
theorem bools_rel : ∀ {ds : List D} {bs : List Bool} {vs : List V}, optL bool1 ds = some bs → DVs g H m ds vs → vs = bs.map V.bl
  | [], bs, vs, e, r => by cases e; cases r; rfl
  | d :: ds, bs, vs, e, r => by
    cases r with
    | cons h hs =>
    unfold optL at e
    split at e
    · rename_i b bs' e1 e2
      cases e
      cases d <;> first | cases e1 | skip
      cases h
      rw [bools_rel e2 hs]
      rfl
    · cases e
theorem ints_rel : ∀ {ds : List D} {ns : List Int} {vs : List V}, optL int1 ds = some ns → DVs g H m ds vs → vs = ns.map V.int
  | [], bs, vs, e, r => by cases e; cases r; rfl
  | d :: ds, bs, vs, e, r => by
    cases r with
    | cons h hs =>
    unfold optL at e
    split at e
    · rename_i b bs' e1 e2
      cases e
      cases d <;> first | cases e1 | skip
      cases h
      rw [ints_rel e2 hs]
      rfl
    · cases e
end
def pBools (f : List Bool → Bool) : PF := fun ds A => match ds with
  | [d] => match (listOf A d).bind (optL bool1) with
    | some bs => .ok (.bl (f bs)) A
    | none => .no
  | _ => .no
abbrev pAll : PF := pBools fun bs => bs.all id
abbrev pAny : PF := pBools fun bs => bs.any id
theorem pBools_in {g : G} {W : WX} {σ : St} {m : List Addr} {H : Hp} {A : HA} {ds : List D} {vs : List V} {Q : VK} {f : List Bool → Bool} (rh : RH g H m A) (dv : DVs g H m ds vs) (q : Po (rE g) g m H W σ (pBools f ds A) Q) : ∃ a bs, vs = [.ref a] ∧ SqL g.K H a (bs.map V.bl) ∧ Q (.bl (f bs)) H := by
  unfold pBools at q
  split at q
  · obtain ⟨v, rfl, dv1⟩ := dv.one
    split at q
    · rename_i bs hb
      obtain ⟨ds, h1, h2⟩ := Option.bind_eq_some_iff.mp hb
      obtain ⟨p, ws, rfl, s, r⟩ := listOf_rel rh dv1 h1
      have := bools_rel h2 r
      subst this
      exact ⟨p, bs, rfl, s, Po.ok q rh (.bl _)⟩
    · exact q.elim
  · exact q.elim
theorem callF_all {g : G} : CallF g (.builtin "all") pAll := by
  refine callF_of (fun X hK hc => hK ▸ cr_all hc) ?_
  intro W σ m H A ds vs Q rh dv q sz
  exact pBools_in rh dv q
theorem callF_any {g : G} : CallF g (.builtin "any") pAny := by
  refine callF_of (fun X hK hc => hK ▸ cr_any hc) ?_
  intro W σ m H A ds vs Q rh dv q sz
  exact pBools_in rh dv q
def pSum : PF := fun ds A => match ds with
  | [d] => match (listOf A d).bind (optL int1) with
    | some ns => .ok (.int ns.sum) A
    | none => .no
  | _ => .no
theorem callF_sum {g : G} : CallF g (.builtin "sum") pSum := by
  refine callF_of (fun X hK hc => hK ▸ cr_sum hc) ?_
  intro W σ m H A ds vs Q rh dv q sz
  unfold pSum at q
  split at q
  · obtain ⟨v, rfl, dv1⟩ := dv.one
    split at q
    · rename_i bs hb
      obtain ⟨ds, h1, h2⟩ := Option.bind_eq_some_iff.mp hb
      obtain ⟨p, ws, rfl, s, r⟩ := listOf_rel rh dv1 h1
      have := ints_rel h2 r
      subst this
      exact ⟨p, bs, rfl, s, Po.ok q rh (.int _)⟩
    · exact q.elim
  · exact q.elim
/-- max, min of a list of ints; of two -/
def maxI : Int → List Int → Int
  | x, [] => x
  | x, y :: r => maxI (if x < y then y else x) r
def minI : Int → List Int → Int
  | x, [] => x
  | x, y :: r => minI (if y < x then y else x) r
theorem maxI_ge : ∀ (r : List Int) (x : Int), x ≤ maxI x r ∧ ∀ y ∈ r, y ≤ maxI x r
  | [], x => ⟨Int.le_refl x, by simp⟩
  | y :: r, x => by
    obtain ⟨h1, h2⟩ := maxI_ge r (if x < y then y else x)
    have k : x ≤ (if x < y then y else x) ∧ y ≤ (if x < y then y else x) := by split <;> omega
    unfold maxI
    refine ⟨Int.le_trans k.1 h1, fun z hz => ?_⟩
    rcases List.mem_cons.mp hz with rfl | hz
    · exact Int.le_trans k.2 h1
    · exact h2 z hz
theorem maxI_mem : ∀ (r : List Int) (x : Int), maxI x r ∈ x :: r
  | [], x => by simp [maxI]
  | y :: r, x => by
    have := maxI_mem r (if x < y then y else x)
    unfold maxI
    rcases List.mem_cons.mp this with e | e
    · rw [e]; split <;> simp
    · exact List.mem_cons_of_mem _ (List.mem_cons_of_mem _ e)
theorem minI_le : ∀ (r : List Int) (x : Int), minI x r ≤ x ∧ ∀ y ∈ r, minI x r ≤ y
  | [], x => ⟨Int.le_refl x, by simp⟩
  | y :: r, x => by
    obtain ⟨h1, h2⟩ := minI_le r (if y < x then y else x)
    have k : (if y < x then y else x) ≤ x ∧ (if y < x then y else x) ≤ y := by split <;> omega
    unfold minI
    refine ⟨Int.le_trans h1 k.1, fun z hz => ?_⟩
    rcases List.mem_cons.mp hz with rfl | hz
    · exact Int.le_trans h1 k.2
    · exact h2 z hz
theorem minI_mem : ∀ (r : List Int) (x : Int), minI x r ∈ x :: r
  | [], x => by simp [minI]
  | y :: r, x => by
    have := minI_mem r (if y < x then y else x)
    unfold minI
    rcases List.mem_cons.mp this with e | e
    · rw [e]; split <;> simp
    · exact List.mem_cons_of_mem _ (List.mem_cons_of_mem _ e)
def pMaxL : PF := fun ds A => match ds with
  | [d] => match (listOf A d).bind (optL int1) with
    | some (n :: ns) => .ok (.int (maxI n ns)) A
    | _ => .no
  | _ => .no
def pMinL : PF := fun ds A => match ds with
  | [d] => match (listOf A d).bind (optL int1) with
    | some (n :: ns) => .ok (.int (minI n ns)) A
    | _ => .no
  | _ => .no
theorem callF_maxL {g : G} : CallF g (.builtin "max") pMaxL := by
  refine callF_of (fun X hK hc => hK ▸ cr_max hc) ?_
  intro W σ m H A ds vs Q rh dv q sz
  unfold pMaxL at q
  split at q
  · obtain ⟨v, rfl, dv1⟩ := dv.one
    split at q
    · rename_i n ns hb
      obtain ⟨ds, h1, h2⟩ := Option.bind_eq_some_iff.mp hb
      obtain ⟨p, ws, rfl, s, r⟩ := listOf_rel rh dv1 h1
      have := ints_rel h2 r
      subst this
      refine ⟨p, n :: ns, rfl, s, by simp, fun k hk hle => ?_⟩
      have e : k = maxI n ns := by
        refine Int.le_antisymm ?_ (hle _ (maxI_mem ns n))
        rcases List.mem_cons.mp hk with rfl | hk
        · exact (maxI_ge ns _).1
        · exact (maxI_ge ns n).2 k hk
      rw [e]
      exact Po.ok q rh (.int _)
    · exact q.elim
  · exact q.elim
theorem callF_minL {g : G} : CallF g (.builtin "min") pMinL := by
  refine callF_of (fun X hK hc => hK ▸ cr_min hc) ?_
  intro W σ m H A ds vs Q rh dv q sz
  unfold pMinL at q
  split at q
  · obtain ⟨v, rfl, dv1⟩ := dv.one
    split at q
    · rename_i n ns hb
      obtain ⟨ds, h1, h2⟩ := Option.bind_eq_some_iff.mp hb
      obtain ⟨p, ws, rfl, s, r⟩ := listOf_rel rh dv1 h1
      have := ints_rel h2 r
      subst this
      refine ⟨p, n :: ns, rfl, s, by simp, fun k hk hle => ?_⟩
      have e : k = minI n ns := by
        refine Int.le_antisymm (hle _ (minI_mem ns n)) ?_
        rcases List.mem_cons.mp hk with rfl | hk
        · exact (minI_le ns _).1
        · exact (minI_le ns n).2 k hk
      rw [e]
      exact Po.ok q rh (.int _)
    · exact q.elim
  · exact q.elim
/-! ### tuple(..), list(..) -/
def pTupOf : PF := fun ds A => match ds with
  | [.tup xs] => .ok (.tup xs) A
  | [d] => match listOf A d with
    | some xs => .ok (.tup xs) A
    | none => .no
  | _ => .no
theorem callF_tupOf {g : G} : CallF g (.type "tuple") pTupOf := by
  refine callF_of (fun X hK hc => hK ▸ call_tuple_of) ?_
  intro W σ m H A ds vs Q rh dv q sz
  unfold pTupOf at q
  split at q
  · obtain ⟨v, rfl, dv1⟩ := dv.one
    cases dv1 with
    | tup h hs => exact ⟨_, _, rfl, .inr ⟨sqT_of h, Po.ok q rh (.tup h hs)⟩⟩
  · obtain ⟨v, rfl, dv1⟩ := dv.one
    split at q
    · rename_i xs hx
      obtain ⟨p, ws, rfl, s, r⟩ := listOf_rel rh dv1 hx
      refine ⟨p, ws, rfl, .inl ⟨s, fun l hl => ?_⟩⟩
      have gr : Gr m m H (upd H l (.tup ws)) := Gr.new hl
      exact Po.ok' q gr (rh.upd hl) (.tup (.inl ⟨upd_same, rh.new hl⟩) (r.mono gr))
    · exact q.elim
  · exact q.elim
def pLstOf (hot : Bool) : PF := fun ds A => match ds with
  | [d] => match (match d with | .tup xs => some xs | _ => listOf A d) with
    | some xs => if hot = true then .ok (.ref A.length) (A ++ [.lst xs]) else .ok (.lst xs) A
    | none => .no
  | _ => .no
theorem callF_lstOf {g : G} {hot : Bool} : CallF g (.type "list") (pLstOf hot) := by
  intro F W X e ok pins s σ H m A ds vs us Q I rh dv r q
  have hK : X.K = g.K := ok.K.trans (congrArg G.K e)
  unfold pLstOf at q
  split at q
  · rename_i d
    obtain ⟨v, rfl, dv1⟩ := dv.one
    split at q
    · rename_i xs hx
      have key : ∃ p ws, v = .ref p ∧ (SqL g.K H p ws ∨ SqT g.K H p ws) ∧ DVs g H m xs ws := by
        split at hx
        · cases hx
          cases dv1 with
          | tup h hs => exact ⟨_, _, rfl, .inr (sqT_of h), hs⟩
        · obtain ⟨p, ws, rfl, s, r⟩ := listOf_rel rh dv1 hx
          exact ⟨p, ws, rfl, .inl s, r⟩
      obtain ⟨p, ws, rfl, sq, rr⟩ := key
      cases hot with
      | true =>
        simp only [if_true] at q
        refine call_list_of (X := X) pins s σ H _ us Q I r ⟨p, ws, rfl, hK ▸ sq, fun l hl => ?_⟩
        have gr : Gr m (m ++ [l]) H (upd H l (.lst ws)) := Gr.push hl
        refine Po.ok' q gr (rh.push hl ⟨_, upd_same, rr.mono gr⟩) (.ref ?_)
        rw [← rh.len]; simp
      | false =>
        simp only [Bool.false_eq_true, if_false] at q
        refine ep_frz (call_list_of (X := X) pins s σ H _ us _ I r ⟨p, ws, rfl, hK ▸ sq, fun l hl => ⟨l, _, rfl, upd_same, fun o => ?_⟩⟩)
        rw [upd_upd]
        have gr : Gr m m H (upd H l (.frz o (.lst ws))) := Gr.new hl
        exact Po.ok' q gr (rh.upd hl) (.lst (.inl ⟨o, upd_same, rh.new hl⟩) (rr.mono gr))
    · exact q.elim
  · exact q.elim
/-! ### slices -/
abbrev CO := SA → HA → R (Option Int)
abbrev rO : Rl (Option Int) (Option Int) := fun _ _ a b => a = b
def JO (F : Sm.F) (e : Option Expr) (c : CO) : Prop := ∀ W X, Ok F W X → PO X e (Tx rO F.g W c)
theorem PO.imp {X : Cx} {e : Option Expr} {t t' : TO} (h : PO X e t) (k : ∀ σ H Q, t' σ H Q → t σ H Q) : PO X e t' := ⟨fun pins s σ H Q I q => h.run pins s σ H Q I (k σ H Q q)⟩
def cONone : CO := fun _ A => .ok none A
def cOSome (c : CE) : CO := fun E A => (c E A).bind fun d A1 => match d with
  | .int i => .ok (some i) A1
  | _ => .no
theorem jo_none : JO F none cONone := fun W X ok => PO.imp po_none fun σ H Q ⟨m, E, A, rh, rs, q⟩ => Po.ok q rh rfl
theorem jo_some {e : Expr} {c : CE} (h : JE F e c) : JO F (some e) (cOSome c) := by
  intro W X ok
  refine PO.imp (po_some (h W X ok)) ?_
  rintro σ H Q ⟨m, E, A, rh, rs, q⟩
  refine ⟨m, E, A, rh, rs, Po.bind q fun m1 H1 d x A1 g1 rh1 dx q1 => ?_⟩
  split at q1
  · have := dx.int_inv
    subst this
    exact ⟨_, rfl, Po.ok q1 rh1 rfl⟩
  · exact q1.elim
def rSlF (K : PySem.W.Frag) : V → Option Int → Option Int → Hp → VK → Prop := fun x lo hi H Q => ∃ a xs, x = .ref a ∧ SqL K H a xs ∧ ∀ p o, H p = none → Q (.ref p) (upd H p (.frz o (.lst (cutV xs lo hi))))
theorem sl_listF {X : Cx} : SlR X (rSlF X.K) := by
  intro pins s σ H x v vl vu lo hi sl Q I rx hs pl pu ⟨a, xs, e, hx, q⟩
  obtain ⟨T, id, h1, h2, h3⟩ := sl_list pins s σ H x v vl vu lo hi sl (fun v H' => ∃ p xs, v = .ref p ∧ H' p = some (.lst xs) ∧ ∀ o, Q v (upd H' p (.frz o (.lst xs)))) I rx hs pl pu ⟨a, xs, e, hx, fun p hp => ⟨p, _, rfl, upd_same, fun o => by rw [upd_upd]; exact q p o hp⟩⟩
  exact ⟨T, id, h1, h2, ep_frz h3⟩
def cutD (xs : List D) (lo hi : Option Int) : List D := (xs.drop (HT.sIx xs.length 0 lo)).take (HT.sIx xs.length xs.length hi - HT.sIx xs.length 0 lo)
theorem cut_rel {g : G} {H : Hp} {m : List Addr} {ds : List D} {vs : List V} (r : DVs g H m ds vs) (lo hi : Option Int) : DVs g H m (cutD ds lo hi) (cutV vs lo hi) := by
  unfold cutD cutV
  rw [r.length]
  exact (r.drop _).take _
def cSl (ce : CE) (cl ch : CO) : CE := fun E A => (ce E A).bind fun d A1 => (cl E A1).bind fun lo A2 => (ch E A2).bind fun hi A3 => match d with
  | .tup xs => .ok (.tup (cutD xs lo hi)) A3
  | _ => match listOf A3 d with
    | some xs => .ok (.lst (cutD xs lo hi)) A3
    | none => .no
theorem take_all {α : Type} (xs : List α) : xs.take xs.length = xs := List.take_length
theorem je_slice {e : Expr} {lo hi : Option Expr} {ce : CE} {cl ch : CO} {p2 : Pos} (he : JE F e ce) (hl : JO F lo cl) (hh : JO F hi ch) : JE F (.Subscript e (.Slice lo hi none p2) pos) (cSl ce cl ch) := by
  intro W X ok
  have h := pe_slice (pos := pos) (p2 := p2) (SlR.or (sl_listF (X := X)) (sl_tupA (X := X))) (he W X ok) (hl W X ok) (hh W X ok)
  rw [ok.K] at h
  refine PE.imp h ?_
  rintro σ H Q ⟨m, E, A, rh, rs, q⟩
  refine ⟨m, E, A, rh, rs, Po.bind q fun m1 H1 d x A1 g1 rh1 dx q1 => ⟨m1, E, A1, rh1, rs.mono g1, Po.bind (ρ := rO) q1 fun m2 H2 l l' A2 g2 rh2 el q2 => ⟨m2, E, A2, rh2, (rs.mono g1).mono g2, Po.bind (ρ := rO) q2 fun m3 H3 u u' A3 g3 rh3 eu q3 => ?_⟩⟩⟩
  cases el
  cases eu
  have dx := (dx.mono g2).mono g3
  split at q3
  · cases dx with
    | tup h hs =>
    rename_i xs vs p
    refine .inr ⟨p, vs, rfl, sqT_of h, fun hw => ?_, fun hw t ht => ?_⟩
    · have e2 : cutD xs l u = xs := by
        unfold cutD
        rw [hs.length, hw.1, hw.2, ← hs.length]
        simp
      rw [e2] at q3
      exact Po.ok q3 rh3 (.tup h hs)
    · have gr : Gr m3 m3 H3 (upd H3 t (.tup (cutV vs l u))) := Gr.new ht
      exact Po.ok' q3 gr (rh3.upd ht) (.tup (.inl ⟨upd_same, rh3.new ht⟩) ((cut_rel hs l u).mono gr))
  · split at q3
    · rename_i xs hx
      obtain ⟨p, ws, rfl, s, r⟩ := listOf_rel rh3 dx hx
      refine .inl ⟨p, ws, rfl, s, fun t o ht => ?_⟩
      have gr : Gr m3 m3 H3 (upd H3 t (.frz o (.lst (cutV ws l u)))) := Gr.new ht
      exact Po.ok' q3 gr (rh3.upd ht) (.lst (.inl ⟨o, upd_same, rh3.new ht⟩) ((cut_rel r l u).mono gr))
    · exact q3.elim
/-! ### zip -/
def zipD : List D → List D → List D
  | x :: xs, y :: ys => .tup [x, y] :: zipD xs ys
  | _, _ => []
theorem zipD_get : ∀ (xs ys : List D) (i : Nat), (zipD xs ys)[i]? = (xs[i]?).bind fun x => (ys[i]?).map fun y => D.tup [x, y]
  | [], ys, i => by simp [zipD]
  | x :: xs, [], i => by cases i <;> simp [zipD]
  | x :: xs, y :: ys, 0 => by simp [zipD]
  | x :: xs, y :: ys, i + 1 => by
    unfold zipD
    rw [List.getElem?_cons_succ, List.getElem?_cons_succ, List.getElem?_cons_succ, zipD_get xs ys i]
theorem zipD_len : ∀ (xs ys : List D), (zipD xs ys).length ≤ xs.length
  | [], ys => by simp [zipD]
  | x :: xs, [] => by simp [zipD]
  | x :: xs, y :: ys => by simp only [zipD, List.length_cons]; have := zipD_len xs ys; omega
theorem wk_zip {g : G} {H : Hp} {m : List Addr} {ds es : List D} {vs ws : List V} {p q : Addr} (h : (∃ o, H p = some (.frz o (.lst vs)) ∧ p ∉ m) ∨ KLst g.K p vs) (r : DVs g H m ds vs) (h' : (∃ o, H q = some (.frz o (.lst ws)) ∧ q ∉ m) ∨ KLst g.K q ws) (r' : DVs g H m es ws) : rI g H m (.fix (zipD ds es)) (Itz g.K p q) := by
  refine ⟨?_, fun z => Nat.le_trans (zipD_len ds es) (by rw [r.length]; exact z p vs (.inr (SqL.gr (Gr.refl _ _).w h)))⟩
  intro i m1 H1 A a rh o e
  have e : some (zipD ds es)[i]? = some o := e
  cases e
  rw [zipD_get]
  have s := SqL.gr a h
  have s' := SqL.gr a h'
  have r1 := r.monoW a
  have r2 := r'.monoW a
  cases hd : ds[i]? with
  | none => exact ⟨vs, ws, s, s', .inl (by rw [← r.length]; exact List.getElem?_eq_none_iff.mp hd)⟩
  | some d =>
    cases he : es[i]? with
    | none => exact ⟨vs, ws, s, s', .inr (by rw [← r'.length]; exact List.getElem?_eq_none_iff.mp he)⟩
    | some e =>
      obtain ⟨v, hv, dv⟩ := r1.get hd
      obtain ⟨w, hw, dw⟩ := r2.get he
      refine ⟨⟨vs, ws, v, w, s, s', hv, hw⟩, fun x H' y => ?_⟩
      obtain ⟨T, x1, y1, rfl, hT, rfl, k1, k2⟩ := y
      have := k1 vs s
      rw [hv] at this; cases this
      have := k2 ws s'
      rw [hw] at this; cases this
      have gr : Gr m1 m1 H1 (upd H1 T (.tup [v, w])) := Gr.new hT
      exact ⟨fun q u hq => by rw [upd_ne (fun e => by rw [e, hT] at hq; cases hq)]; exact hq, gr, .tup (.inl ⟨upd_same, rh.new hT⟩) (.cons (dv.mono gr) (.cons (dw.mono gr) .nil))⟩
theorem wk_zipT {g : G} {H : Hp} {m : List Addr} {ds es : List D} {vs ws : List V} {p q : Addr} (h : (H p = some (.tup vs) ∧ p ∉ m) ∨ KTup g.K p vs) (r : DVs g H m ds vs) (h' : (H q = some (.tup ws) ∧ q ∉ m) ∨ KTup g.K q ws) (r' : DVs g H m es ws) : rI g H m (.fix (zipD ds es)) (RZ.ItzT g.K p q) := by
  refine ⟨?_, fun z => Nat.le_trans (zipD_len ds es) (by rw [r.length]; exact z p vs (.inl (SqT.gr (Gr.refl _ _).w h)))⟩
  intro i m1 H1 A a rh o e
  have e : some (zipD ds es)[i]? = some o := e
  cases e
  rw [zipD_get]
  have s := SqT.gr a h
  have s' := SqT.gr a h'
  have r1 := r.monoW a
  have r2 := r'.monoW a
  cases hd : ds[i]? with
  | none => exact ⟨vs, ws, s, s', .inl (by rw [← r.length]; exact List.getElem?_eq_none_iff.mp hd)⟩
  | some d =>
    cases he : es[i]? with
    | none => exact ⟨vs, ws, s, s', .inr (by rw [← r'.length]; exact List.getElem?_eq_none_iff.mp he)⟩
    | some e =>
      obtain ⟨v, hv, dv⟩ := r1.get hd
      obtain ⟨w, hw, dw⟩ := r2.get he
      refine ⟨⟨vs, ws, v, w, s, s', hv, hw⟩, fun x H' y => ?_⟩
      obtain ⟨T, x1, y1, rfl, hT, rfl, k1, k2⟩ := y
      have := k1 vs s
      rw [hv] at this; cases this
      have := k2 ws s'
      rw [hw] at this; cases this
      have gr : Gr m1 m1 H1 (upd H1 T (.tup [v, w])) := Gr.new hT
      exact ⟨fun q u hq => by rw [upd_ne (fun e => by rw [e, hT] at hq; cases hq)]; exact hq, gr, .tup (.inl ⟨upd_same, rh.new hT⟩) (.cons (dv.mono gr) (.cons (dw.mono gr) .nil))⟩
def iZip (ca : CA) : CI := fun E A => (ca E A).bind fun ds A1 => match ds with
  | [.lst xs, .lst ys] => .ok (.fix (zipD xs ys)) A1
  | [.tup xs, .tup ys] => .ok (.fix (zipD xs ys)) A1
  | _ => .no
theorem ji_zip {e e2 : Expr} {ca : CA} {p tpos : Pos} {elts : List Expr} {kk : Nat} (hg : Gls F.scope "zip") (hm : F.g.mg "zip" = none) (ha : JA F [e, e2] ca) (hs : ∀ X : Cx, starEach [e, e2] X.env = (false, eval e X.env) :: starEach [e2] X.env := by intro _; rfl) (hpl : ∀ X : Cx, (backTo pos (starEach [e2] X.env)).any (·.1) = false := by intro _; rfl) :
    JI F (.Tuple elts kk tpos) (.Call (.Name "zip" p) [e, e2] [] pos) (iZip ca) := by
  intro W X ok
  have h := RZ.pi_zipA (pos := pos) (p := p) (tpos := tpos) (elts := elts) (kk := kk) (ok.gl hg) (by rw [ok.mg]; exact hm) (ha W X ok) (hs X) (hpl X)
  rw [ok.K] at h
  refine PI.imp h ?_
  rintro σ H Q ⟨m, E, A, rh, rs, q⟩
  refine ⟨m, E, A, rh, rs, Po.bind q fun m1 H1 ds vs A1 g1 rh1 dx q1 => ?_⟩
  split at q1
  · obtain ⟨v, w, rfl, dv, dw⟩ := DVs.two dx
    cases dv with
    | lst h hs =>
    cases dw with
    | lst h' hs' => exact ⟨_, _, _, _, rfl, .inl ⟨sqL_of h, sqL_of h', Po.ok q1 rh1 (wk_zip h hs h' hs')⟩⟩
  · obtain ⟨v, w, rfl, dv, dw⟩ := DVs.two dx
    cases dv with
    | tup h hs =>
    cases dw with
    | tup h' hs' => exact ⟨_, _, _, _, rfl, .inr ⟨sqT_of h, sqT_of h', Po.ok q1 rh1 (wk_zipT h hs h' hs')⟩⟩
  · exact q1.elim
/-! ### walks of texts, too -/
def lettersD (x : Str) : List D := x.cps.toList.map fun c => .str ⟨#[c]⟩
theorem wk_str {g : G} {H : Hp} {m : List Addr} {x : Str} (hz : x.cps.size ≤ sizeLine) : rI g H m (.fix (lettersD x)) (Its x) := by
  refine ⟨?_, fun _ => by show (lettersD x).length ≤ sizeLine; unfold lettersD; simpa using hz⟩
  intro i m1 H1 A a rh o e
  have e : some (lettersD x)[i]? = some o := e
  cases e
  unfold lettersD
  rw [List.getElem?_map, Array.getElem?_toList]
  by_cases hi : i < x.cps.size
  · rw [Array.getElem?_eq_getElem hi]
    refine ⟨hi, fun y H' z => ?_⟩
    obtain ⟨rfl, c, hc, rfl⟩ := z
    rw [Array.getElem?_eq_getElem hi] at hc
    cases hc
    exact ⟨fun _ _ h => h, Gr.refl _ _, .str _⟩
  · rw [Array.getElem?_eq_none (Nat.le_of_not_lt hi)]
    exact Nat.le_of_not_lt hi
def iAny (ce : CE) : CI := fun E A => (ce E A).bind fun d A1 => match d with
  | .str x => if x.cps.size ≤ sizeLine then .ok (.fix (lettersD x)) A1 else .no
  | .tup ds => .ok (.fix ds) A1
  | .lst ds => .ok (.fix ds) A1
  | .ref a => match A1[a]? with
    | some (.lst ds) => .ok (.live a ds.length) A1
    | _ => .no
  | _ => .no
theorem ji_any {tg e : Expr} {ce : CE} (he : JE F e ce) : JI F tg e (iAny ce) := by
  intro W X ok
  refine PI.imp (PI.or (ji_seq (tg := tg) he W X ok) (pi_str (tg := tg) (he W X ok))) ?_
  rintro σ H Q ⟨m, E, A, rh, rs, q⟩
  have q : Po (rI F.g) F.g m H W σ (iAny ce E A) Q := q
  unfold iAny at q
  by_cases hx : ∃ x A1, ce E A = .ok (.str x) A1
  · obtain ⟨x, A1, hc⟩ := hx
    refine .inr ⟨m, E, A, rh, rs, ?_⟩
    rw [hc] at q ⊢
    intro m1 v H1 gr r dv
    have := dv.str_inv
    subst this
    have q : Po (rI F.g) F.g m H W σ (if x.cps.size ≤ sizeLine then .ok (.fix (lettersD x)) A1 else .no) Q := q
    split at q
    · rename_i hz
      exact ⟨x, rfl, q m1 _ H1 gr r (wk_str hz)⟩
    · exact q.elim
  · refine .inl ⟨m, E, A, rh, rs, ?_⟩
    have e1 : iSeq ce E A = iAny ce E A := by
      unfold iSeq iAny
      cases hc : ce E A with
      | ok d A1 =>
        cases d with
        | str x => exact absurd ⟨x, A1, hc⟩ hx
        | _ => rfl
      | exc => rfl
      | no => rfl
    show Po (rI F.g) F.g m H W σ (iSeq ce E A) Q
    rw [e1]
    exact q
/-! ### a < b < c -/
theorem op2_IB' {g : G} {fn : Int → Int → Bool} : Op2 g (rI0 fun i j => .bl (fn i j)) (pIB fn) := op2_IB
end Sm

end
section
set_option autoImplicit false
/-! Sm30: list comprehensions of two clauses -/
namespace Sm
open PySem PySem.Spec PyProof.Rows L2
variable {F : F} {pos : Pos}
theorem RS.monoW {g : G} {H H' : Hp} {m m' : List Addr} {E : SA} {σ : St} (a : GrW m m' H H') (h : RS g H m E σ) : RS g H' m' E σ := ⟨h.len, fun i d e => let ⟨v, h1, h2⟩ := h.at_ i d e; ⟨v, h1, h2.monoW a⟩⟩
def lc2N (it : IT) (cg : CG) (ct : CB) (vs1 : List Nat) (ci1 : CI) (cg1 : CG) (ct1 : CB) (ce : CE) (E : SA) : Nat → Nat → HA → R (List D)
  | 0, _, _ => .no
  | k + 1, i, A => match itemAt it i A with
    | none => .no
    | some none => .ok [] A
    | some (some d) => match cg d E A with
      | .nx E1 A1 => (ct E1 A1).nox.bind fun b A2 => if b = true then (ci1 E1 A2).nox.bind fun it1 A3 => (lcN it1 cg1 ct1 ce (wipeA E1 vs1) (it1.size + 1) 0 A3).nox.bind fun xs A4 =>
          (lc2N it cg ct vs1 ci1 cg1 ct1 ce E k (i + 1) A4).bind fun ys A5 => .ok (xs ++ ys) A5
        else lc2N it cg ct vs1 ci1 cg1 ct1 ce E k (i + 1) A2
      | _ => .no
def cLc2I (vs : List Nat) (ci : CI) (cg : CG) (ct : CB) (vs1 : List Nat) (ci1 : CI) (cg1 : CG) (ct1 : CB) (ce : CE) : CA := fun E A => (ci E A).bind fun it A1 =>
  (lc2N it cg ct vs1 ci1 cg1 ct1 ce (wipeA E vs) (it.size + 1) 0 A1).nox.bind fun xs A2 => if xs.length ≤ sizeLine then .ok xs A2 else .no
theorem wipe_wipe (us vs : List Nat) (τ : St) (h : ∀ u ∈ us, u ∈ vs) : wipe (wipe τ us) vs = wipe τ vs := by
  induction us with
  | nil => rfl
  | cons u us ih =>
    show wipe ((wipe τ us).set u none) vs = wipe τ vs
    rw [wipe_set (h u List.mem_cons_self)]
    exact ih fun w hw => h w (List.mem_cons_of_mem _ hw)
theorem lc2_read {W : WX} {σ : St} {H : Hp} {ci ci1 : CI} {cg cg1 : CG} {ct ct1 : CB} {ce : CE} {vs vs1 : List Nat} {Q : VK} {α β : Type} {ρ : Rl α β} {k : List D → HA → R α} {Q' : β → Hp → Prop}
    (h : Tx ρ F.g W (fun E A => (cLc2I vs ci cg ct vs1 ci1 cg1 ct1 ce E A).bind k) σ H Q')
    (hQ : ∀ (m m1 : List Addr) (H H1 : Hp) (ds : List D) (A1 : HA) (D : Addr) (acc : List V), Gr m m1 H H1 → H D = none → RH F.g H1 m1 A1 → H1 D = some (.lst acc) → D ∉ m1 → DVs F.g H1 m1 ds acc → Po ρ F.g m H W σ (k ds A1) Q' → Q (.ref D) H1) :
    tLc2 (TIx F.g W ci) (TGx F.g vs cg) (TBx F.g W0 ct) (TIx F.g W0 ci1) (TGx F.g vs1 cg1) (TBx F.g W0 ct1) (TEx F.g W0 ce) vs vs1 σ H Q := by
  obtain ⟨m, E, A, rh, rs, q⟩ := h
  have q : Po ρ F.g m H W σ ((cLc2I vs ci cg ct vs1 ci1 cg1 ct1 ce E A).bind k) Q' := q
  unfold cLc2I at q
  have hb : ∀ (r : R IT) (f : IT → HA → R (List D)), (r.bind f).bind k = r.bind fun it A1 => (f it A1).bind k := by
    intro r f; cases r <;> rfl
  rw [hb] at q
  refine ⟨m, E, A, rh, rs, Po.bind q fun m1 H1 it J A1 g1 rh1 wk q1 => fun D hD => ?_⟩
  have wk := wk.1
  cases hlc : (lc2N it cg ct vs1 ci1 cg1 ct1 ce (wipeA E vs) (it.size + 1) 0 A1).nox with
  | exc => rw [hlc] at q1; cases h9 : lc2N it cg ct vs1 ci1 cg1 ct1 ce (wipeA E vs) (it.size + 1) 0 A1 <;> rw [h9] at hlc <;> cases hlc
  | no => rw [hlc] at q1; exact q1.elim
  | ok total Af =>
  rw [hlc] at q1
  have q1 : Po ρ F.g m1 H1 W σ ((if total.length ≤ sizeLine then R.ok total Af else .no).bind k) Q' := q1
  split at q1
  rotate_left
  · exact q1.elim
  rename_i hlt
  have q1 : Po ρ F.g m1 H1 W σ (k total Af) Q' := q1
  have hD1 : D ∉ m1 := rh1.new hD
  have rs1 : ∀ m H, Gr m1 m H1 H → RS F.g H m (wipeA E vs) (wipe σ vs) := fun m H a => ((rs.mono g1).mono a).wipe vs
  refine ⟨fun i kk H => ∃ m A dn acc xs, Gr m1 m H1 H ∧ RH F.g H m A ∧ H D = some (.lst acc) ∧ D ∉ m ∧ DVs F.g H m dn acc ∧ lc2N it cg ct vs1 ci1 cg1 ct1 ce (wipeA E vs) kk i A = .ok xs Af ∧ dn ++ xs = total,
    ⟨it.size + 1, m1, A1, [], [], total, Gr.new hD, rh1.upd hD, upd_same, hD1, .nil, R.nox_ok hlc, rfl⟩, ?_⟩
  rintro i kk H2 ⟨m2, A2, dn, acc, xs, g2, rh2, hD2, hm2, dv2, e2, et⟩
  cases kk with
  | zero => cases e2
  | succ kk =>
    unfold lc2N at e2
    cases hit : itemAt it i A2 with
    | none => simp only [hit] at e2; cases e2
    | some o =>
      have wk2 := wk i m2 H2 A2 g2.w rh2 o hit
      cases o with
      | none =>
        simp only [hit] at e2
        cases e2
        rw [List.append_nil] at et
        subst et
        exact .inl ⟨wk2, hQ m1 m2 H1 H2 dn Af D acc g2 hD rh2 hD2 hm2 dv2 q1⟩
      | some d =>
        simp only [hit] at e2
        obtain ⟨go, yl⟩ := wk2
        refine .inr ⟨go, fun H => ∃ m A dn acc xs, Gr m1 m H1 H ∧ RH F.g H m A ∧ H D = some (.lst acc) ∧ D ∉ m ∧ DVs F.g H m dn acc ∧ lc2N it cg ct vs1 ci1 cg1 ct1 ce (wipeA E vs) kk (i + 1) A = .ok xs Af ∧ dn ++ xs = total,
          fun H' n => ⟨kk, Nat.lt_succ_self _, n⟩, fun x H3 y => ?_⟩
        obtain ⟨k3, g3, dvx⟩ := yl x H3 y
        have hD3 : H3 D = some (.lst acc) := k3 D _ hD2
        refine ⟨m2, wipeA E vs, A2, d, rh2.grow g3 k3, rs1 m2 H3 (g2.trans g3), dvx, ?_⟩
        cases hcg : cg d (wipeA E vs) A2 with
        | nx E4 A4 =>
          simp only [hcg] at e2
          refine fun m4 σ4 H4 g4 rh4 rs4 hw => ⟨hw.trans (wipe_wipe vs vs σ fun _ h => h), m4, E4, A4, rh4, rs4, ?_⟩
          have hD4 : H4 D = some (.lst acc) := g4.keep D _ hD3 hm2
          have hm4 : D ∉ m4 := g4.notin hD3 hm2
          cases hct : ct E4 A4 with
          | exc => simp only [hct, R.nox, R.bind] at e2; cases e2
          | no => simp only [hct, R.nox, R.bind] at e2; cases e2
          | ok b A5 =>
            simp only [hct, R.nox, R.bind] at e2
            intro m5 b' H5 g5 rh5 eb
            cases eb
            have hD5 : H5 D = some (.lst acc) := g5.keep D _ hD4 hm4
            have hm5 : D ∉ m5 := g5.notin hD4 hm4
            have g25 := g3.trans (g4.trans g5)
            cases b with
            | false =>
              simp only [Bool.false_eq_true, if_false] at e2 ⊢
              exact ⟨m5, A5, dn, acc, xs, g2.trans g25, rh5, hD5, hm5, dv2.mono g25, e2, et⟩
            | true =>
              simp only [if_true] at e2 ⊢
              refine ⟨m5, E4, A5, rh5, rs4.mono g5, ?_⟩
              cases hci : ci1 E4 A5 with
              | exc => simp only [hci] at e2; cases e2
              | no => simp only [hci] at e2; cases e2
              | ok it1 A6 =>
              simp only [hci] at e2
              intro m6 J1 H6 g6 rh6 wk6
              have wk6 := wk6.1
              have hD6 : H6 D = some (.lst acc) := g6.keep D _ hD5 hm5
              have hm6 : D ∉ m6 := g6.notin hD5 hm5
              have g26 := g25.trans g6
              have rs6 := (rs4.mono g5).mono g6
              cases hin : lcN it1 cg1 ct1 ce (wipeA E4 vs1) (it1.size + 1) 0 A6 with
              | exc => simp only [hin] at e2; cases e2
              | no => simp only [hin] at e2; cases e2
              | ok xs1 A7 =>
              simp only [hin] at e2
              cases hre : lc2N it cg ct vs1 ci1 cg1 ct1 ce (wipeA E vs) kk (i + 1) A7 with
              | exc => simp only [hre] at e2; cases e2
              | no => simp only [hre] at e2; cases e2
              | ok ys A8 =>
              simp only [hre] at e2
              cases e2
              refine ⟨fun j k H => ∃ m A dn acc xs, GrW m6 m H6 H ∧ RH F.g H m A ∧ H D = some (.lst acc) ∧ D ∉ m ∧ DVs F.g H m dn acc ∧ lcN it1 cg1 ct1 ce (wipeA E4 vs1) k j A = .ok xs A7 ∧ dn ++ (xs ++ ys) = total ∧ Gr m1 m H1 H,
                ⟨it1.size + 1, m6, A6, dn, acc, xs1, (Gr.refl _ _).w, rh6, hD6, hm6, dv2.mono g26, hin, et, g2.trans g26⟩, ?_⟩
              rintro j kj Hj ⟨mj, Aj, dj, aj, xj, gj, rhj, hDj, hmj, dvj, ej, etj, gj1⟩
              cases kj with
              | zero => cases ej
              | succ kj =>
              unfold lcN at ej
              cases hitj : itemAt it1 j Aj with
              | none => simp only [hitj] at ej; cases ej
              | some o =>
              have wkj := wk6 j mj Hj Aj gj rhj o hitj
              cases o with
              | none =>
                simp only [hitj] at ej
                cases ej
                exact .inl ⟨wkj, mj, A7, dj, aj, ys, gj1, rhj, hDj, hmj, dvj, hre, etj⟩
              | some e =>
                simp only [hitj] at ej
                obtain ⟨goj, ylj⟩ := wkj
                refine .inr ⟨goj, fun H => ∃ m A dn acc xs, GrW m6 m H6 H ∧ RH F.g H m A ∧ H D = some (.lst acc) ∧ D ∉ m ∧ DVs F.g H m dn acc ∧ lcN it1 cg1 ct1 ce (wipeA E4 vs1) kj (j + 1) A = .ok xs A7 ∧ dn ++ (xs ++ ys) = total ∧ Gr m1 m H1 H,
                  fun H' n => ⟨kj, Nat.lt_succ_self _, n⟩, fun x H7 y => ?_⟩
                obtain ⟨k7, g7, dvx7⟩ := ylj x H7 y
                have hD7 : H7 D = some (.lst aj) := k7 D _ hDj
                have rs7 := ((rs6.monoW gj).mono g7).wipe vs1
                refine ⟨mj, wipeA E4 vs1, Aj, e, rhj.grow g7 k7, rs7, dvx7, ?_⟩
                cases hcg1 : cg1 e (wipeA E4 vs1) Aj with
                | nx E8 A8 =>
                  simp only [hcg1] at ej
                  refine fun m8 σ8 H8 g8 rh8 rs8 hw => ⟨hw.trans (wipe_wipe vs1 vs1 _ fun _ h => h), m8, E8, A8, rh8, rs8, ?_⟩
                  have hD8 : H8 D = some (.lst aj) := g8.keep D _ hD7 hmj
                  have hm8 : D ∉ m8 := g8.notin hD7 hmj
                  cases hct1 : ct1 E8 A8 with
                  | exc => simp only [hct1, R.nox, R.bind] at ej; cases ej
                  | no => simp only [hct1, R.nox, R.bind] at ej; cases ej
                  | ok b A9 =>
                    simp only [hct1, R.nox, R.bind] at ej
                    intro m9 b' H9 g9 rh9 eb
                    cases eb
                    have hD9 : H9 D = some (.lst aj) := g9.keep D _ hD8 hm8
                    have hm9 : D ∉ m9 := g9.notin hD8 hm8
                    have g79 := g7.trans (g8.trans g9)
                    cases b with
                    | false =>
                      simp only [Bool.false_eq_true, if_false] at ej ⊢
                      exact ⟨m9, A9, dj, aj, xj, gj.trans g79.w, rh9, hD9, hm9, dvj.mono g79, ej, etj, gj1.trans g79⟩
                    | true =>
                      simp only [if_true] at ej ⊢
                      refine ⟨m9, E8, A9, rh9, rs8.mono g9, ?_⟩
                      cases hce : ce E8 A9 with
                      | exc => simp only [hce, R.nox, R.bind] at ej; cases ej
                      | no => simp only [hce, R.nox, R.bind] at ej; cases ej
                      | ok z A10 =>
                        simp only [hce, R.nox, R.bind] at ej
                        intro m10 w H10 g10 rh10 dvz
                        have hD10 : H10 D = some (.lst aj) := g10.keep D _ hD9 hm9
                        have hm10 : D ∉ m10 := g10.notin hD9 hm9
                        have g710 := g79.trans g10
                        cases hr : lcN it1 cg1 ct1 ce (wipeA E4 vs1) kj (j + 1) A10 with
                        | exc => simp only [hr] at ej; cases ej
                        | no => simp only [hr] at ej; cases ej
                        | ok zs A11 =>
                          simp only [hr] at ej
                          cases ej
                          have hl : aj.length < sizeLine := by
                            have := congrArg List.length etj
                            rw [List.length_append, List.length_append, List.length_cons, dvj.length] at this
                            omega
                          refine ⟨aj, hD10, hl, m10, A10, dj ++ [z], aj ++ [w], zs, ?_, rh10.chgOut ⟨_, hD10⟩ hm10, upd_same, hm10, ?_, hr, by simpa using etj, Gr.chgOut (gj1.trans g710) hD⟩
                          · have gg := gj.trans g710.w
                            refine ⟨gg.ext, fun q u hq hm ht hl => ?_, fun q hq => ?_⟩
                            · rw [upd_ne (fun e => by rw [e, hD6] at hq; cases hq; exact hl _ rfl)]; exact gg.keep q u hq hm ht hl
                            · by_cases e : q = D
                              · subst e; rw [upd_same] at hq; cases hq
                              · rw [upd_ne e] at hq; exact gg.non q hq
                          · exact DVs.append ((dvj.mono g710).chg ⟨_, hD10⟩) (.cons (dvz.chg ⟨_, hD10⟩) .nil)
                | _ => simp only [hcg1] at ej; cases ej
        | _ => simp only [hcg] at e2; cases e2
end Sm

end
section
set_option autoImplicit false
/-! Sm31: set(list), by what its loop leaves -/
namespace Sm
open PySem PySem.Spec PyProof.Rows L2
section
variable {P : Program} {w : World} {A : Around} {E : Value → Shared → Prop} {s : Shared}
/-- a new set -/
abbrev newSetO (w : World) : Obj := { cls := .type "set", dict := none, data := .set #[] 0 (.fresh 0 0 (!w.params.followText "set-order")) }
/-- the heap at the loop's beginning: a new set, a list's iterator behind it -/
abbrev loopHeap (w : World) (h : Heap) (l : Addr) : Heap := (h.push (newSetO w)).push { cls := .type "list_iterator", data := .fields #[.ref l, .int 0 0] }
set_option maxHeartbeats 3200000 in
theorem set_of_list {l : Addr} {items : Array Value} {Q : Value → Shared → Prop} {Good : Heap → Prop} (hh : A.handled = none) (hl : s.heap.IsList l items)
    (loop : ∀ (A' : Around) (R : Result → Shared → Prop), A'.handled = none → A'.units ≤ A.units + 3 → (∀ s' : Shared, s'.gens = s.gens → s'.drawn = s.drawn → s'.os = s.os → Good s'.heap → (∀ b o, s.heap.get? b = some o → s'.heap.get? b = some o) → R (.ok (.ret .none)) s') →
      codeAny (model P w) A' (.builtin "set.update.loop" ⟨[.ref s.heap.objs.size, .ref (s.heap.push (newSetO w)).objs.size], []⟩) R { s with heap := loopHeap w s.heap l })
    (h : ∀ (h' : Heap) (tk : Nat), Good h' → (∀ b o, s.heap.get? b = some o → h'.get? b = some o) → Q (.ref s.heap.objs.size) { s with heap := h', toks := tk }) :
    wpAny (model P w) A (call (.type "set") [.ref l]) Q E s := by
  obtain ⟨c, tl, hmro⟩ := F.called_set.mro
  have hmade := F.called_set.made
  have hsub := F.called_set.sub
  refine wpAny_call (codeAny_of_tree ?_)
  show wpAny _ _ (callAny (.type "set") _) _ _ _
  refine wpAny_pure ⟨Code.quiet_builtin _ (by decide +kernel), codeAny_builtin F.entry_type_call ?_⟩
  rw [Around.under_plain (weight_type_call_type "set" [.ref l] []) rfl]
  have h1 := F.called_set.notType
  have h2 := F.called_set.canCreate
  have hct := F.typeCall_set_1 (.ref l)
  repeat (any_goals (first | assumption | wp_step))
  refine codeAny_mono (L2.code_set_led1 (.ref l) (E := E) (Q₁ := fun obj s₁ => obj = .ref s.heap.objs.size ∧ s₁ = { s with heap := s.heap.push (newSetO w) }) ⟨rfl, rfl⟩) fun r s₁ hr => ?_
  cases r with
  | error e => exact hr
  | ok fl =>
    cases fl with
    | ret obj =>
      obtain ⟨rfl, rfl⟩ := hr
      have hS : (s.heap.push (newSetO w)).get? s.heap.objs.size = some (newSetO w) := Heap.get?_push_size _ rfl
      have hT : Shared.TypeIs { s with heap := s.heap.push (newSetO w) } (.ref s.heap.objs.size) "set" := ⟨_, hS, rfl⟩
      have hli := F.called_set.init.lookup
      have hbi := F.called_set.init.bind (.ref s.heap.objs.size)
      repeat (any_goals (first | assumption | wp_step))
      refine codeAny_mono (codeAny_call_builtin (R := wants (fun r s₂ => r = .none ∧ ∃ h' tk, s₂ = { s with heap := h', toks := tk } ∧ Good h' ∧ (∀ b o, s.heap.get? b = some o → h'.get? b = some o)) E) F.called_set.init.plain F.entry_set_init (check_set_init_1 hT ?_)) fun r₂ s₂ hr₂ => ?_
      · obtain ⟨ol, hol, hcl, nl, hdl⟩ := hl
        obtain ⟨ocls, odict, odata, oslots⟩ := ol
        simp only at hcl hdl
        subst hcl; subst hdl
        have hol' : (s.heap.push (newSetO w)).get? l = some { cls := .type "list", dict := odict, data := .seq items nl, slots := oslots } := Heap.get?_push_of_some _ hol
        have hsls := F.sub_list_set
        have hslf := F.sub_list_frozenset
        have hne : (Value.type "list" == Value.type "dict") = false := by decide
        have hl1 : (s.heap.push (newSetO w)).IsList l items := ⟨_, hol', rfl, nl, rfl⟩
        unfold Builtin.«set.__init__» noKeywords Builtin.Frozenset.updateFrom
        generalize hPI : pyIter = PI
        wp_walk
        subst hPI
        refine wpAny_pyIter_list hl1 ?_
        refine wpAny_bind (wpAny_runValue ?_)
        refine loop _ _ (by simp [hh]) ?units fun s' e1 e2 e3 gd kp => ?_
        case units => show A.units + 1 + 1 ≤ A.units + 3; omega
        obtain ⟨h', g2, d', tk', os'⟩ := s'
        have e1 : g2 = s.gens := e1
        have e2 : d' = s.drawn := e2
        have e3 : os' = s.os := e3
        subst e1; subst e2; subst e3
        show wpAny _ _ _ _ _ _
        refine wpAny_pure ?_
        show wpAny _ _ (ret Value.none) _ _ _
        exact wpAny_pure ⟨rfl, h', tk', rfl, gd, kp⟩
      · cases r₂ with
        | error e => exact hr₂
        | ok fl₂ =>
          cases fl₂ with
          | ret r =>
            obtain ⟨rfl, h', tk, rfl, gd, kp⟩ := hr₂
            repeat (any_goals (first | assumption | wp_step))
            exact h _ _ gd kp
          | _ => exact hr₂.elim
    | _ => exact hr.elim
/-- set(xs) of a list of ints -/
theorem call_set_ints {l : Addr} {items : Array Value} (ns : List Int) {Q : Value → Shared → Prop} (hh : A.handled = none) (hl : s.heap.IsList l items) (hit : IntsAre items.toList ns) (hb : ns.length + 1 < scanBound)
    (h : ∀ (h' : Heap) (tk c : Nat), SetR w h' s.heap.objs.size (fun j => decide (j ∈ ns)) c → c ≤ ns.length → (∀ b o, s.heap.get? b = some o → h'.get? b = some o) → Q (.ref s.heap.objs.size) { s with heap := h', toks := tk }) :
    wpAny (model P w) A (call (.type "set") [.ref l]) Q E s := by
  have hisz : items.size = ns.length := by
    have q := IntsAre.length hit
    rw [Array.length_toList] at q
    exact q
  refine set_of_list (Good := fun h' => ∃ c, SetR w h' s.heap.objs.size (fun j => decide (j ∈ ns)) c ∧ c ≤ ns.length) hh hl (fun A' R hA _ k => ?_) fun h' tk ⟨c, g1, g2⟩ kp => h h' tk c g1 g2 kp
  have hlS : l < s.heap.objs.size := by
    obtain ⟨o, e, _⟩ := hl
    exact Heap.lt_size e
  have hl1 : (s.heap.push (newSetO w)).IsList l items := hl.push _
  have hz : (s.heap.push (newSetO w)).objs.size = s.heap.objs.size + 1 := Heap.size_push ..
  have hneI : l ≠ (s.heap.push (newSetO w)).objs.size := by rw [hz]; exact Nat.ne_of_lt (Nat.lt_succ_of_lt hlS)
  have hSf : s.heap.objs.size ∉ [(s.heap.push (newSetO w)).objs.size, l] := by
    rw [hz]
    simp only [List.mem_cons, List.not_mem_nil, or_false, not_or]
    exact ⟨Nat.ne_of_lt (Nat.lt_succ_self _), Nat.ne_of_gt hlS⟩
  have hval : ∀ (i : Nat) (v : Value), items[i]? = some v → ∃ k t, ns[i]? = some k ∧ v = .int k t := fun i v hv => by
    have hi : i < ns.length := by rw [← hisz]; exact (Array.getElem?_eq_some_iff.mp hv).1
    obtain ⟨t, e⟩ := PyProof.Rows.IntsAre.int_at hit i v (by rw [Array.getElem?_toList]; exact hv)
    refine ⟨ns[i], t, List.getElem?_eq_getElem hi, ?_⟩
    rw [e, List.getD_eq_getElem?_getD, List.getElem?_eq_getElem hi] <;> rfl
  have hS : (s.heap.push (newSetO w)).get? s.heap.objs.size = some (newSetO w) := Heap.get?_push_size _ rfl
  have hget : (loopHeap w s.heap l).get? s.heap.objs.size = some (newSetO w) := Heap.get?_push_of_some _ hS
  refine set_update_ints ((Walks.list (A := A'.in1) (by simp [hA]) _ l hneI items).toS) s.heap.objs.size hSf ns hisz hb hval (items.size - 0) 0 _ (by omega) (Nat.zero_le _)
    ⟨⟨_, Heap.get?_push_size _ rfl, rfl, rfl⟩, (hl1.push _)⟩ ⟨0, Nat.le_refl 0, setR_new_at hget⟩ fun s' c hm hc hS' => ?_
  refine k s' hm.gens hm.drawn hm.os ⟨c, hS', by rw [← hisz]; exact hc⟩ fun b o e => ?_
  have hb0 : b < s.heap.objs.size := Heap.lt_size e
  exact hm.heap b o (by
    simp only [List.mem_cons, List.not_mem_nil, or_false, not_or]
    rw [hz]
    exact ⟨Nat.ne_of_lt hb0, Nat.ne_of_lt (Nat.lt_succ_of_lt hb0)⟩) (Heap.get?_push_of_some _ (Heap.get?_push_of_some _ e))
end
/-! ### sorted(set(ints)) -/
/-- sorted, each number once -/
def insI (k : Int) : List Int → List Int
  | [] => [k]
  | x :: r => if k < x then k :: x :: r else if k = x then x :: r else x :: insI k r
def sortI : List Int → List Int
  | [] => []
  | x :: r => insI x (sortI r)
theorem insI_mem {k y : Int} : ∀ {r : List Int}, y ∈ insI k r ↔ y = k ∨ y ∈ r
  | [] => by simp [insI]
  | x :: r => by
    unfold insI
    split
    · simp
    · split
      · rename_i h; subst h; simp
      · simp only [List.mem_cons, insI_mem (r := r)]
        constructor
        · rintro (h | h | h) <;> simp [h]
        · rintro (h | h | h) <;> simp [h]
theorem insI_sorted {k : Int} : ∀ {r : List Int}, r.Pairwise (· < ·) → (insI k r).Pairwise (· < ·)
  | [], _ => by simp [insI]
  | x :: r, h => by
    obtain ⟨h1, h2⟩ := List.pairwise_cons.mp h
    unfold insI
    split
    · rename_i hk
      exact List.pairwise_cons.mpr ⟨fun y hy => by
        rcases List.mem_cons.mp hy with rfl | hy
        · exact hk
        · have := h1 y hy; omega, h⟩
    · split
      · exact h
      · refine List.pairwise_cons.mpr ⟨fun y hy => ?_, insI_sorted h2⟩
        rcases insI_mem.mp hy with rfl | hy
        · omega
        · exact h1 y hy
theorem sortI_mem {y : Int} : ∀ {l : List Int}, y ∈ sortI l ↔ y ∈ l
  | [] => by simp [sortI]
  | x :: r => by unfold sortI; rw [insI_mem, sortI_mem (l := r), List.mem_cons]
theorem sortI_sorted : ∀ (l : List Int), (sortI l).Pairwise (· < ·)
  | [] => .nil
  | x :: r => insI_sorted (sortI_sorted r)
theorem sorted_eq : ∀ {a b : List Int}, a.Pairwise (· < ·) → b.Pairwise (· < ·) → (∀ k, k ∈ a ↔ k ∈ b) → a = b
  | [], [], _, _, _ => rfl
  | [], y :: b, _, _, h => absurd ((h y).mpr List.mem_cons_self) (by simp)
  | x :: a, [], _, _, h => absurd ((h x).mp List.mem_cons_self) (by simp)
  | x :: a, y :: b, ha, hb, h => by
    obtain ⟨a1, a2⟩ := List.pairwise_cons.mp ha
    obtain ⟨b1, b2⟩ := List.pairwise_cons.mp hb
    have e : x = y := by
      rcases List.mem_cons.mp ((h x).mp List.mem_cons_self) with e | e
      · exact e
      · rcases List.mem_cons.mp ((h y).mpr List.mem_cons_self) with e' | e'
        · exact e'.symm
        · have := b1 x e; have := a1 y e'; omega
    subst e
    congr 1
    refine sorted_eq a2 b2 fun k => ⟨fun hk => ?_, fun hk => ?_⟩
    · rcases List.mem_cons.mp ((h k).mp (List.mem_cons_of_mem _ hk)) with e | e
      · subst e; have := a1 k hk; omega
      · exact e
    · rcases List.mem_cons.mp ((h k).mpr (List.mem_cons_of_mem _ hk)) with e | e
      · subst e; have := b1 k hk; omega
      · exact e
/-- a set of ints that is only passed on -/
abbrev rSI (w : World) : Rl (List Int) V := fun H m ns v => ∃ a S n, v = .ref a ∧ H a = some (SetO w a S n) ∧ (∀ k, S k = true ↔ k ∈ ns) ∧ n ≤ ns.length
def JSI (F : Sm.F) (e : Expr) (c : SA → HA → R (List Int)) : Prop := ∀ W X, Ok F W X → PE X e (Tx (rSI F.g.w) F.g W c)
variable {F : F} {pos : Pos}
def cSetI (ca : CA) : SA → HA → R (List Int) := fun E A => (ca E A).bind fun ds A1 => match ds with
  | [d] => match (listOf A1 d).bind (optL int1) with
    | some ns => if ns.length < 4000 then .ok ns A1 else .no
    | none => .no
  | _ => .no
theorem jsi_set {x : Expr} {ca : CA} {q : Pos} (hg : Gls F.scope "set") (hm : F.g.mg "set" = none) (ha : JA F [x] ca)
    (he : ∀ X : Cx, starEach [x] X.env = (false, eval x X.env) :: starEach [] X.env := by intro _; rfl) (hpl : ∀ X : Cx, (backTo pos (starEach ([] : List Expr) X.env)).any (·.1) = false := by intro _; rfl) : JSI F (.Call (.Name "set" q) [x] [] pos) (cSetI ca) := by
  intro W X ok
  refine ⟨fun pins s σ H Q I hq => ?_⟩
  obtain ⟨m, E, A, rh, rs, q⟩ := hq
  have q : Po (rSI F.g.w) F.g m H W σ ((ca E A).bind fun ds A1 => match ds with
    | [d] => match (listOf A1 d).bind (optL int1) with
      | some ns => if ns.length < 4000 then .ok ns A1 else .no
      | none => .no
    | _ => .no) Q := q
  refine wpAny_Call_Name_kw (ld_blt I (ok.gl hg) (by rw [ok.mg]; exact hm) (by decide +kernel : bootBuiltins "set" = some (.type "set")) ?_ (by decide) (by decide))
  refine PyProof.Rows.callWith_type1 (thn ((ha W X ok).run pos pins s σ H (fun vs H1 => ∃ m1 ds A1, RH F.g H1 m1 A1 ∧ DVs F.g H1 m1 ds vs ∧ Po (rSI F.g.w) F.g m1 H1 W σ (match ds with
    | [d] => match (listOf A1 d).bind (optL int1) with
      | some ns => if ns.length < 4000 then .ok ns A1 else .no
      | none => .no
    | _ => .no) Q) I ⟨m, E, A, rh, rs, Po.bind q fun m1 H1 ds xs A1 g1 rh1 dxs q1 => ⟨m1, ds, A1, rh1, dxs, q1⟩⟩) fun us s1 ⟨vs, H1, I1, r1, m1, ds, A1, rh1, dxs, q1⟩ => ?_) (he X) (hpl X)
  split at q1
  · obtain ⟨v, rfl, dv⟩ := dxs.one
    split at q1
    · rename_i ns hns
      split at q1
      · rename_i hz
        obtain ⟨ds, h1, h2⟩ := Option.bind_eq_some_iff.mp hns
        obtain ⟨p, ws, rfl, sq, r⟩ := listOf_rel rh1 dv h1
        have e := ints_rel h2 r
        subst e
        rw [← ok.K] at sq
        obtain ⟨its, rv, hl, _⟩ := I1.list sq
        rw [Vals.ref1 r1]
        refine call_set_ints ns (I1.ok.hd ok.calm) hl.isList (by simpa using rv.ints) (by unfold scanBound; omega) fun h' tk c R hc kp => ?_
        have ht : H1 s1.heap.objs.size = none := I1.hok.fresh (Nat.le_refl _)
        refine ⟨.ref s1.heap.objs.size, upd H1 s1.heap.objs.size (SetO X.w s1.heap.objs.size (fun j => decide (j ∈ ns)) c), I1.laid (t' := tk) kp (Nat.le_refl _) (setO_new R), rfl, ?_⟩
        rw [ok.w]
        exact q1 m1 _ _ (Gr.new ht) (rh1.upd ht) ⟨_, _, _, rfl, upd_same, fun k => by simp, hc⟩
      · exact q1.elim
    · exact q1.elim
  · exact q1.elim
def cSortI (c : SA → HA → R (List Int)) : CE := fun E A => (c E A).bind fun ns A1 => if ns.length < 64 then .ok (.lst ((sortI ns).map .int)) A1 else .no
theorem dvs_ints {g : G} {H : Hp} {m : List Addr} : ∀ ns : List Int, DVs g H m (ns.map D.int) (ns.map V.int)
  | [] => .nil
  | n :: ns => .cons (.int n) (dvs_ints ns)
theorem je_sortI {x : Expr} {c : SA → HA → R (List Int)} {q : Pos} (hg : Gls F.scope "sorted") (hm : F.g.mg "sorted" = none) (hx : JSI F x c)
    (he : ∀ X : Cx, starEach [x] X.env = (false, eval x X.env) :: starEach [] X.env := by intro _; rfl) (hpl : ∀ X : Cx, (backTo pos (starEach ([] : List Expr) X.env)).any (·.1) = false := by intro _; rfl) : JE F (.Call (.Name "sorted" q) [x] [] pos) (cSortI c) := by
  intro W X ok
  refine ⟨fun pins s σ H Q I hq => ?_⟩
  obtain ⟨m, E, A, rh, rs, q⟩ := hq
  have q : Po (rE F.g) F.g m H W σ ((c E A).bind fun ns A1 => if ns.length < 64 then .ok (.lst ((sortI ns).map .int)) A1 else .no) Q := q
  refine wpAny_Call_Name_kw (ld_blt I (ok.gl hg) (by rw [ok.mg]; exact hm) (by decide +kernel : bootBuiltins "sorted" = some (.builtin "sorted")) ?_ (by decide) (by decide))
  have pa : PA X [x] (fun σ H R => Tx (rSI F.g.w) F.g W c σ H fun v H' => R [v] H') := PA.imp (pa_cons (hx W X ok) pa_nil (he X)) fun σ H R h => h
  refine PyProof.Rows.callWith_builtin1 (thn (pa.run pos pins s σ H (fun vs H1 => ∃ m1 ns A1 v, vs = [v] ∧ RH F.g H1 m1 A1 ∧ rSI F.g.w H1 m1 ns v ∧ Po (rE F.g) F.g m1 H1 W σ (if ns.length < 64 then .ok (.lst ((sortI ns).map .int)) A1 else .no) Q) I ⟨m, E, A, rh, rs, Po.bind (ρ := rSI F.g.w) q fun m1 H1 ns v A1 g1 rh1 dxs q1 => ⟨m1, ns, A1, v, rfl, rh1, dxs, q1⟩⟩) fun us s1 ⟨vs, H1, I1, r1, m1, ns, A1, v, ev, rh1, dxs, q1⟩ => ?_) (he X) (hpl X)
  subst ev
  obtain ⟨a, S, n, rfl, ha, hS, hn⟩ := dxs
  split at q1
  · rename_i hz
    refine ep_frz (cr_sortedSet ok.calm pins s1 σ H1 _ us _ I1 r1 ⟨a, S, n, rfl, by rw [ok.w]; exact ha, by omega, fun ks p k1 k2 k3 hp => ⟨p, _, rfl, upd_same, fun o => ?_⟩⟩)
    rw [upd_upd]
    have e : ks = sortI ns := sorted_eq k1 (sortI_sorted ns) fun k => by rw [k2, hS, sortI_mem]
    subst e
    exact Po.ok' q1 (Gr.new hp) (rh1.upd hp) (.lst (.inl ⟨o, upd_same, rh1.new hp⟩) (dvs_ints _))
  · exact q1.elim
end Sm

end
section
set_option autoImplicit false
/-! Sm32: two clauses as an expression and in an assignment, chains, constants of the module, where lambdas stand in the text -/
namespace Sm
open PySem PySem.Spec PyProof.Rows L2
variable {F : F} {pos : Pos}
def cLc2 (vs : List Nat) (ci : CI) (cg : CG) (ct : CB) (vs1 : List Nat) (ci1 : CI) (cg1 : CG) (ct1 : CB) (ce : CE) : CE := fun E A => (cLc2I vs ci cg ct vs1 ci1 cg1 ct1 ce E A).bind fun ds A1 => .ok (.lst ds) A1
theorem je_lc2 {elt tg iter tg1 iter1 : Expr} {ifs ifs1 : List Expr} {scope : Scope} {own : List (Str × Nat)} {cl : List Str} {vs1 : List Nat} {ci ci1 : CI} {cg cg1 : CG} {ct ct1 : CB} {ce : CE} (hi : JI F tg iter ci) (hok : blkC F.N F.scope scope own = true) (hcl : (cl.all fun x => scope.names.lookup x == some .cell) = true) (hv : (vs1.all fun i => decide (i ∈ own.map (·.2))) = true)
    (hg : JG (F.blk scope cl) (own.map (·.2)) tg cg) (ht : JTs (F.blk scope cl) ifs ct) (hi1 : JI (F.blk scope cl) tg1 iter1 ci1) (hg1 : JG (F.blk scope cl) vs1 tg1 cg1) (ht1 : JTs (F.blk scope cl) ifs1 ct1) (he : JE (F.blk scope cl) elt ce)
    (hs : ∀ (X : Cx) x, foldedSetIterable iter X.env x = pure x := by intro _ _; rfl) (hs1 : ∀ env x, foldedSetIterable iter1 env x = pure x := by intro _ _; rfl) :
    JE F (.ListComp elt [⟨tg, iter, ifs, 0⟩, ⟨tg1, iter1, ifs1, 0⟩] scope pos) (cLc2 (own.map (·.2)) ci cg ct vs1 ci1 cg1 ct1 ce) := by
  intro W X ok
  have fc : ∀ (s : Shared) (H : Hp) (C : Addr) (cs : List (Str × Addr)) (fp : List Addr), FnC (F.blk scope cl) (X.blk s H scope (compEnvC scope cs C X.env) fp) := fun _ _ _ _ _ => .inr fun x hx => List.all_eq_true.mp hcl x hx
  refine PE.imp (PE.frz (pe_lc2 (vs1 := vs1) ok.calm (by rw [ok.N]; exact ok.nd) (hi W X ok) (blkOk_by (by rw [ok.N, ok.sc]; exact hok)) (fun i hi => of_decide_eq_true (List.all_eq_true.mp hv i hi)) (fun s H C cs fp => hg W0 _ ok.blk (fc s H C cs fp)) (fun s H C cs fp => ht W0 _ ok.blk) (fun s H C cs fp => hi1 W0 _ ok.blk) (fun s H C cs fp => hg1 W0 _ ok.blk (fc s H C cs fp)) (fun s H C cs fp => ht1 W0 _ ok.blk) (fun s H C cs fp => he W0 _ ok.blk) (hs X) hs1)) ?_
  intro σ H Q h
  refine lc2_read (Q := fun v H' => ∃ p xs, v = .ref p ∧ H' p = some (.lst xs) ∧ ∀ o, Q v (L2.upd H' p (.frz o (.lst xs)))) h fun m m1 H H1 ds A1 D acc g1 hD rh1 hD1 hm1 dv q => ⟨D, acc, rfl, hD1, fun o => ?_⟩
  exact Po.ok' q (Gr.chgOut g1 hD) (rh1.chgOut ⟨_, hD1⟩ hm1) (.lst (.inl ⟨o, upd_same, hm1⟩) (dv.chg ⟨_, hD1⟩))
/-- i < j < k, ints -/
theorem je_chainI {op op' : CmpOp} {f f' : Int → Int → Bool} {a b c : Expr} {ca cb cc : CE} (ho : ∀ X : Cx, OpR X (compareOp op) (rI0 fun i j => .bl (f i j))) (ho' : ∀ X : Cx, OpR X (compareOp op') (rI0 fun i j => .bl (f' i j)))
    (ja : JE F a ca) (jb : JE F b cb) (jc : JE F c cc) (hm : lastMarks [op, op'] [b, c] = false := by first | with_unfolding_all rfl | rfl) : JE F (.Compare a [op, op'] [b, c] pos) (cChain (pIB f) (pIB f') ca cb cc) :=
  je_chain (fun X _ _ _ => ho X) (fun X _ _ _ => ho' X) op2_IB op2_IB ja jb jc hm
theorem cop_le (X : Cx) : OpR X (compareOp .LtE) (rI0 fun i j => .bl (decide (i ≤ j))) := op_le
theorem cop_lt (X : Cx) : OpR X (compareOp .Lt) (rI0 fun i j => .bl (decide (i < j))) := op_lt
/-! ### the module's constants -/
theorem je_gint {x : Str} {i : Int} (hg : Gls F.scope x) (hm : ∃ t, F.g.mg x = some (.int i t)) (hd : (x == ("__debug__" : Str)) = false := by decide) : JE F (.Name x pos) (cC (.int i)) := by
  obtain ⟨t, hm⟩ := hm
  exact je_glob (v := .int i) hg hm ⟨t, rfl⟩ (fun _ _ => .int i) hd
theorem je_gstr {x y : Str} (hg : Gls F.scope x) (hm : ∃ t, F.g.mg x = some (.str y t)) (hd : (x == ("__debug__" : Str)) = false := by decide) : JE F (.Name x pos) (cC (.str y)) := by
  obtain ⟨t, hm⟩ := hm
  exact je_glob (v := .str y) hg hm ⟨t, rfl⟩ (fun _ _ => .str y) hd
/-! ### no fuel left -/
def cf0 : CF := fun _ _ => .no
theorem callOk_no {g : G} {k : Nat} {a : Addr} {ps : List Str} {fd : FuncData} {x qual : Str} {st : Stmt} (T : Fun g.K x qual st a fd) (hb : Binds g.K fd ps []) : CallOk g k a ps cf0 :=
  ⟨⟨fd, ⟨fun vs H Q E h => SpC.len h, fun A outer s H args us vs Q E hr hgd e0 hb r hsp => by
    obtain ⟨m, ds, A1, _, _, _, z⟩ := hsp
    exact z.elim⟩, hb⟩, T.kp⟩
/-! ### where lambdas stand -/
abbrev noE : Expr := .Name "" ⟨0, 0, 0, 0⟩
def pRet : Stmt → Expr | .Return (some e) _ => e | _ => noE
def pExpr : Stmt → Expr | .Expr e _ => e | _ => noE
def pAsg : Stmt → Expr | .Assign _ e _ => e | _ => noE
def pIfT : Stmt → Expr | .If e _ _ _ => e | _ => noE
def pIfB (i : Nat) : Stmt → Stmt | .If _ b _ p => b.getD i (.Pass p) | s => s
def pIfE (i : Nat) : Stmt → Stmt | .If _ _ b p => b.getD i (.Pass p) | s => s
def pForB (i : Nat) : Stmt → Stmt | .For _ _ b _ p => b.getD i (.Pass p) | s => s
def pArg (i : Nat) : Expr → Expr | .Call _ as _ _ => as.getD i noE | _ => noE
def pFun : Expr → Expr | .Call f _ _ _ => f | _ => noE
def pNot : Expr → Expr | .UnaryOp _ e _ => e | _ => noE
def pBool (i : Nat) : Expr → Expr | .BoolOp _ as _ => as.getD i noE | _ => noE
def pCmpL : Expr → Expr | .Compare e _ _ _ => e | _ => noE
def pCmpR (i : Nat) : Expr → Expr | .Compare _ _ es _ => es.getD i noE | _ => noE
def pBinL : Expr → Expr | .BinOp e _ _ _ => e | _ => noE
def pBinR : Expr → Expr | .BinOp _ _ e _ => e | _ => noE
def pTup (i : Nat) : Expr → Expr | .Tuple es _ _ => es.getD i noE | _ => noE
def pLst (i : Nat) : Expr → Expr | .List es _ => es.getD i noE | _ => noE
def pIfX (i : Nat) : Expr → Expr | .IfExp a b c _ => [a, b, c].getD i noE | _ => noE
def pBody (i : Nat) (st : Stmt) : Stmt := (defBody st).getD i (.Pass ⟨0, 0, 0, 0⟩)
/-- the lambda that stands there -/
def lamRec (q : Str) (ps fr : List Str) : Expr → LamRec
  | .Lambda a b s _ => ⟨q, a, b, s, ps, fr⟩
  | e => ⟨q, ⟨[], [], none, [], [], none, []⟩, e, default, ps, fr⟩
end Sm

end
/-! Sm33: the law's end, the tables of code objects told by the hook -/
namespace Sm
open PySem PySem.Spec PyProof.Rows L2
theorem walk_T {l : PySem.W.OpenLaw} {n k : Nat} {q : Program} {loose : List Str} {XP : (Str → Option Value) → Heap → Prop} {YP : World → Heap → Prop} {d : DefRec} {K : Params → PySem.W.Frag} {x : Str} {c : CF} {ts : List Addr}
    (hn : l.most = some n) (hn2 : n ≤ sizeLine) (hdf : d.params.defaults = []) (hr : Room k callerA) (hY : ∀ (w : World) (h : Heap), YP w h → (K w.params).In h ∧ ∀ P ∈ ts, h.get? P = some (PySem.W.tabObj #[]))
    (F : ∀ (w : World) (mg : Str → Option Value) (fa : Addr) (h : Heap), (K w.params).In h → h.Ns mainGlobals mg → mg d.name = some (.ref fa) → (∀ P ∈ ts, h.get? P = some (PySem.W.tabObj #[])) →
      ∃ (fd : FuncData) (mk : Heap → G) (cs : List (Addr × Addr)), (∀ (s : Shared) (u : Value), BindsTo s fd ⟨[u], []⟩ [(x, u)]) ∧ (∀ h, (mk h).prog = l.prog ∧ (mk h).w = w ∧ (mk h).K = K w.params ∧ (mk h).mg = mg ∧ (mk h).base = h) ∧
        (∀ p ∈ cs, PySem.W.CodeHd h p.1 p.2 ∧ h.get? p.2 = some (PySem.W.tabObj #[])) ∧ (∀ p ∈ cs, (K w.params).lookup p.2 = none) ∧ (∀ h, ∀ t ∈ (mk h).tabs, t.1 ∈ cs.map (·.2)) ∧
        ∀ base : Heap, (K w.params).In base → base.Ns mainGlobals mg → (∀ p ∈ cs, LamX.TabB base mg p.1 p.2) → FnG (mk base) k fa fd [x] (SpC (mk base) c 1))
    (hc : ∀ ns : List Int, ns.length ≤ n → ∃ A', c [.lst (ns.map .int)] [] = .ok (.bl true) A') :
    PySem.W.WalkO q loose XP YP l.row.toRowW d [] (fun f vs => PySem.call f vs) := by
  refine Att.attach_call hn hdf fun w s₀ s₁ mg mb fa o pm cd doc a vs ns G Y ho hd hcd hmg hobj hints hlen hg => ?_
  obtain ⟨KX, HT⟩ := hY w _ Y
  obtain ⟨fd, mk, cs, hb, hm, hT, nT, htb, hF⟩ := F w mg fa _ KX G.T.g hmg HT
  exact law_end hm hT nT htb G.T.bmain KX G.T.g G.T.b G.T.builtins G.T.nolimit hg hobj hints (Nat.le_trans hlen hn2) hr hF hb (hc ns hlen)
end Sm

/-! D0: what every law draws: the codes of the four defs that all laws share, what they tell -/
namespace Sm
open PySem PySem.Spec PyProof.Rows L2
def b_law_mixed : CS := (cSeq (cSet 2 (c2 pAdd (c2 pAdd (c2 pMod (cCall pInt (cCons (c2 pMul (c2 pMul (cVar 0) (c2 pAdd (cC (.int 1)) (c2 pMul (cC (.int 2)) (cVar 1)))) (cC (.int 48271))) cNil)) (cC (.int 2147483647))) (c2 pMul (c2 pMul (cC (.int 7919)) (cVar 1)) (cVar 1))) (c2 pMul (cC (.int 104729)) (cVar 1)))) (cRet (c2 pFdiv (c2 pMod (cCall pInt (cCons (c2 pMul (cVar 2) (cC (.int 69621))) cNil)) (cC (.int 2147483629))) (cC (.int 7)))))
def c_law_mixed : CF := runB 3 b_law_mixed
def b_law_folded : CS := (cSeq (cSet 2 (cLcH [1] (iRng1 (cCons (cC (.int 64)) cNil)) (gSetN 1) cYes (c2 pAdd (cC (.int 17)) (cVar 1)))) (cSeq (cFor (iEnumD (cCons (cVar 0) cNil)) (gTupN 2 (gsCons (gSetN 1) (gsCons (gSetN 3) gsNil))) (cAsg (c2 pMod (cCall pInt (cCons (c2 pAdd (c2 pMul (c2 pGet (cVar 2) (c2 pMod (cCall pInt (cCons (cVar 1) cNil)) (cC (.int 64)))) (cC (.int 48271))) (cVar 3)) cNil)) (cC (.int 2147483647))) (gPut (cVar 2) (c2 pMod (cCall pInt (cCons (cVar 1) cNil)) (cC (.int 64)))))) (cSeq (cFor (iRng2 (cCons (cC (.int 1)) (cCons (cC (.int 64)) cNil))) (gSetN 1) (cAsg (c2 pMod (cCall pInt (cCons (c2 pAdd (c2 pGet (cVar 2) (cVar 1)) (c2 pMul (c2 pGet (cVar 2) (c2 pSub (cVar 1) (cC (.int 1)))) (cC (.int 16807)))) cNil)) (cC (.int 2147483647))) (gPut (cVar 2) (cVar 1)))) (cRet (cVar 2)))))
def c_law_folded : CF := runB 4 b_law_folded
def b_law_draw : CS := (cSeq (cSet 2 (c2 pGet (cVar 0) (cC (.str "spot")))) (cSeq (cAsg (c2 pAdd (cVar 2) (cC (.int 1))) (gPut (cVar 0) (cC (.str "spot")))) (cSeq (cIfS (cB (c2 pNeD (c2 pGet (cVar 0) (cC (.str "great"))) (cLst cNil))) (cSeq (cSet 3 (c2 pGet (cVar 0) (cC (.str "great")))) (cSeq (cSet 4 (c2 pMod (cCall pInt (cCons (cVar 2) cNil)) (cCall pLen (cCons (cVar 3) cNil)))) (cSeq (cSet 5 (c2 pGet (cVar 3) (cVar 4))) (cIfS (cB (c2 pGt (cVar 5) (cC (.int 0)))) (cSeq (cAsg (c2 pFdiv (cVar 5) (cVar 1)) (gPut (cVar 3) (cVar 4))) (cRet (c2 pMod (cCall pInt (cCons (cVar 5) cNil)) (cVar 1)))) cSkip)))) cSkip) (cSeq (cSet 3 (c2 pGet (cVar 0) (cC (.str "cells")))) (cRet (c2 pMod (cCall pInt (cCons (cCall c_law_mixed (cCons (cCall c_law_mixed (cCons (c2 pAdd (c2 pGet (cVar 3) (c2 pMod (cCall pInt (cCons (cVar 2) cNil)) (cC (.int 64)))) (c2 pMul (cC (.int 31)) (c2 pFdiv (cVar 2) (cC (.int 64))))) (cCons (cVar 2) cNil))) (cCons (c2 pAdd (cVar 2) (cC (.int 7))) cNil))) cNil)) (cVar 1)))))))
def c_law_draw : CF := runB 6 b_law_draw
def b_law_begun : CS := (cSeq (cSet 1 (cDisp (((cC (.str "cells")), (cCall c_law_folded (cCons (cVar 0) cNil))) :: (((cC (.str "great")), (cNewL cNil)) :: (((cC (.str "spot")), (cC (.int 0))) :: []))))) (cSeq (cAsg (cLcH [2] (iSeq (cVar 0)) (gSetN 2) cYes (cIf (cB (c2 pGe (cVar 2) (c2 pPow (cC (.int 10)) (cC (.int 18))))) (cVar 2) (cC (.int 0)))) (gPut (cVar 1) (cC (.str "great")))) (cRet (cVar 1))))
def c_law_begun : CF := runB 3 b_law_begun

theorem mixed_ok (c n : Int) (A : HA) (h0 : 0 ≤ n) (h1 : n < 2 ^ 60) : ∃ r, c_law_mixed [.int c, .int n] A = .ok (.int r) A := by
  have s1 : small64 (1 + 2 * n) = true := by unfold small64; simp only [Bool.and_eq_true, decide_eq_true_eq]; omega
  have s2 : small64 n = true := by unfold small64; simp only [Bool.and_eq_true, decide_eq_true_eq]; omega
  have k1 : small64 2 = true := by decide
  have k2 : small64 48271 = true := by decide
  have k3 : small64 7919 = true := by decide
  have k4 : small64 104729 = true := by decide
  have k5 : small64 69621 = true := by decide
  refine ⟨?_, ?_⟩
  rotate_left
  · simp [c_law_mixed, b_law_mixed, runB, startA, cSeq, cSet, cRet, RSt.of, c2, R.bind, cVar, cC, cCall, cCons, cNil, pInt, pI, pAdd, s1, s2, k1, k2, k3, k4, k5]
    rfl

/-- the drawn state at m: the cells at a, the great ones at b, at most k draws -/
structure Drawn (A : HA) (m a b : Nat) (k : Int) : Prop where
  ex : ∃ (cs gs : List Int) (n : Int), A[m]? = some (.dct false [(.str "cells", .ref a), (.str "great", .ref b), (.str "spot", .int n)]) ∧ A[a]? = some (.lst (cs.map .int)) ∧ cs.length = 64 ∧ A[b]? = some (.lst (gs.map .int)) ∧ 0 ≤ n ∧ n ≤ k
  ma : m ≠ a
  mb : m ≠ b
  ab : a ≠ b
def dK (a b : Nat) (n : Int) : List (D × D) := [(.str "cells", .ref a), (.str "great", .ref b), (.str "spot", .int n)]
theorem dK_cells (a b : Nat) (n : Int) : lookD (dK a b n) (.inr "cells") = some (.ref a) := by rfl
theorem dK_great (a b : Nat) (n : Int) : lookD (dK a b n) (.inr "great") = some (.ref b) := by rfl
theorem dK_spot (a b : Nat) (n : Int) : lookD (dK a b n) (.inr "spot") = some (.int n) := by rfl
theorem dK_put_spot (a b : Nat) (n i : Int) : putD (dK a b n) (.inr "spot") (.str "spot") (.int i) = dK a b i := by rfl
theorem dK_put_great (a b c : Nat) (n : Int) : putD (dK a b n) (.inr "great") (.str "great") (.ref c) = dK a c n := by rfl
theorem optAll_ints (A : HA) (k : Nat) : ∀ xs : List Int, optAll (toPy A (k + 1)) (xs.map .int) = some (xs.map .int)
  | [] => rfl
  | x :: xs => by
    rw [List.map_cons, List.map_cons]
    unfold optAll
    rw [optAll_ints A k xs]
    rfl
theorem plain_ints : ∀ xs : List Int, PyData.plainAll (xs.map .int) = true
  | [] => rfl
  | x :: xs => by rw [List.map_cons]; unfold PyData.plainAll; rw [plain_ints xs]; rfl
theorem toPy_ints {A : HA} {b : Nat} {xs : List Int} (h : A[b]? = some (.lst (xs.map .int))) (k : Nat) : toPy A (k + 2) (.ref b) = some (.list (xs.map .int)) := by
  show (match A[b]? with | some (.lst ds) => (optAll (toPy A (k + 1)) ds).map PyData.list | _ => none) = _
  rw [h]
  show (optAll (toPy A (k + 1)) (xs.map .int)).map PyData.list = _
  rw [optAll_ints]
  rfl
/-- d != [] -/
theorem ne_nil_ok {A : HA} {b : Nat} {xs : List Int} (h : A[b]? = some (.lst (xs.map .int))) : pNeD (.ref b) (.lst []) A = .ok (.bl (!xs.isEmpty)) A := by
  have e1 := toPy_ints h 58
  have e2 : toPy A 60 (.lst []) = some (.list []) := rfl
  unfold pNeD
  rw [e1, e2]
  show (if (PyData.list (xs.map .int)).plain = true ∧ (PyData.list []).plain = true then R.ok (D.bl (!PyData.eqv (.list (xs.map .int)) (.list []))) A else .no) = _
  have p1 : (PyData.list (xs.map .int)).plain = true := by unfold PyData.plain; exact plain_ints xs
  have p2 : (PyData.list []).plain = true := rfl
  rw [if_pos ⟨p1, p2⟩]
  cases xs <;> rfl
theorem get_dict {A : HA} {m a b : Nat} {n : Int} (h : A[m]? = some (.dct false (dK a b n))) (x : Str) (d : D) (hd : lookD (dK a b n) (.inr x) = some d) : pGet (.ref m) (.str x) A = .ok d A := by
  unfold pGet
  simp only [h]
  unfold pIxD
  simp only [toKey, dgetOf, h, hd]
theorem atI_get {α : Type} (xs : List α) (i : Int) (h0 : 0 ≤ i) (h1 : i < xs.length) : L2.ixN xs.length i = some i.toNat ∧ L2.atI xs i = xs[i.toNat]? := by
  have e : L2.ixN xs.length i = some i.toNat := by
    unfold L2.ixN
    rw [if_pos h0, if_pos h1]
  exact ⟨e, by unfold L2.atI; rw [e]; rfl⟩
theorem get_ref {A : HA} {a : Nat} {ds : List D} (h : A[a]? = some (.lst ds)) (i : Int) (d : D) (hd : L2.atI ds i = some d) : pGet (.ref a) (.int i) A = .ok d A := by
  unfold pGet
  simp only [h]
  unfold pIx seqOf
  simp only [h, hd]
theorem get_ints {A : HA} {a : Nat} {xs : List Int} (h : A[a]? = some (.lst (xs.map .int))) (i : Int) (h0 : 0 ≤ i) (h1 : i < xs.length) : pGet (.ref a) (.int i) A = .ok (.int (xs.getD i.toNat 0)) A := by
  refine get_ref h i _ ?_
  rw [(atI_get (xs.map D.int) i h0 (by simpa using h1)).2, List.getElem?_map]
  have : i.toNat < xs.length := by omega
  rw [List.getElem?_eq_getElem this]
  simp [List.getD, List.getElem?_eq_getElem this]
theorem cSeq_nx {c c' : CS} {E E' : SA} {A A' : HA} (h : c E A = .nx E' A') : cSeq c c' E A = c' E' A' := by
  unfold cSeq
  rw [h]
theorem cSeq_rt {c c' : CS} {E : SA} {A A' : HA} {d : D} (h : c E A = .rt d A') : cSeq c c' E A = .rt d A' := by
  unfold cSeq
  rw [h]
/-- a store at a place of a list -/
theorem put_list {A : HA} {a : Nat} {ds : List D} {co ci : CE} {v : D} {E : SA} {i : Int} (ho : co E A = .ok (.ref a) A) (hi : ci E A = .ok (.int i) A) (h : A[a]? = some (.lst ds)) (h0 : 0 ≤ i) (h1 : i < ds.length) : gPut co ci v E A = .nx E (A.set a (.lst (ds.set i.toNat v))) := by
  unfold gPut
  simp only [ho, hi, h, (atI_get ds i h0 h1).1]
theorem put_dict {A : HA} {m : Nat} {kvs : List (D × D)} {co ci : CE} {v i : D} {E : SA} {k : Key} (ho : co E A = .ok (.ref m) A) (hi : ci E A = .ok i A) (hk : toKey i = some k) (h : A[m]? = some (.dct false kvs)) (hl : kvs.length < sizeLine) : gPut co ci v E A = .nx E (A.set m (.dct false (putD kvs k i v))) := by
  unfold gPut
  simp only [ho, hi, h, hk, hl, if_true]
theorem map_set_int (xs : List Int) (i : Nat) (z : Int) : (xs.map D.int).set i (.int z) = (xs.set i z).map .int := by rw [List.map_set]
theorem get_set_ne {A : HA} {i j : Nat} {o : AO} (h : i ≠ j) : (A.set i o)[j]? = A[j]? := List.getElem?_set_ne h
theorem get_set_eq {A : HA} {i : Nat} {o u : AO} (h : A[i]? = some u) : (A.set i o)[i]? = some o := by
  rw [List.getElem?_set_self (List.getElem?_eq_some_iff.mp h).1]
/-! ### evaluating -/
section
variable {E : SA} {A A1 A2 : HA} {d e f : D} {ca cb cc : CE} {p : P2} {c : CF}
theorem ev_var {i : Nat} (h : E[i]? = some (some d)) : cVar i E A = .ok d A := by unfold cVar; rw [h]
theorem ev_c : cC d E A = .ok d A := rfl
theorem ev_c2 (ha : ca E A = .ok d A1) (hb : cb E A1 = .ok e A2) : c2 p ca cb E A = p d e A2 := by
  unfold c2; rw [ha]; show ((cb E A1).bind fun e A2 => p d e A2) = _; rw [hb]; rfl
theorem ev_call1 (ha : ca E A = .ok d A1) : cCall c (cCons ca cNil) E A = c [d] A1 := by
  unfold cCall cCons cNil; rw [ha]; rfl
theorem ev_call2 (ha : ca E A = .ok d A1) (hb : cb E A1 = .ok e A2) : cCall c (cCons ca (cCons cb cNil)) E A = c [d, e] A2 := by
  unfold cCall cCons cNil; rw [ha]; show (((cb E A1).bind fun d A1 => R.ok [d] A1).bind _ ).bind _ = _; rw [hb]; rfl
theorem ev_set {i : Nat} (h : ca E A = .ok d A1) : cSet i ca E A = .nx (E.set i (some d)) A1 := by unfold cSet; rw [h]; rfl
theorem ev_ret (h : ca E A = .ok d A1) : cRet ca E A = .rt d A1 := by unfold cRet; rw [h]; rfl
theorem ev_expr (h : ca E A = .ok d A1) : cExpr ca E A = .nx E A1 := by unfold cExpr; rw [h]; rfl
theorem ev_asg {cg : CG} {r : RSt} (h : ca E A = .ok d A1) (hg : cg d E A1 = r) : cAsg ca cg E A = r.nxOnly := by unfold cAsg; rw [h, ← hg]; rfl
theorem ev_cB {b : Bool} (h : ca E A = .ok (.bl b) A1) : cB ca E A = .ok b A1 := by unfold cB; rw [h]; rfl
theorem ev_ifT {t : CB} {x y : CS} (h : t E A = .ok true A1) : cIfS t x y E A = x E A1 := by unfold cIfS; rw [h]; rfl
theorem ev_ifF {t : CB} {x y : CS} (h : t E A = .ok false A1) : cIfS t x y E A = y E A1 := by unfold cIfS; rw [h]; rfl
theorem ev_if {t : CB} {x y : CE} {b : Bool} (h : t E A = .ok b A1) : cIf t x y E A = if b = true then x E A1 else y E A1 := by unfold cIf; rw [h]; rfl
theorem ev_int {i : Int} : pInt [.int i] A = .ok (.int i) A := rfl
theorem ev_add {i j : Int} : pAdd (.int i) (.int j) A = .ok (.int (i + j)) A := rfl
theorem ev_sub {i j : Int} : pSub (.int i) (.int j) A = .ok (.int (i - j)) A := rfl
theorem ev_mul {i j : Int} (h : (small64 i || small64 j) = true) : pMul (.int i) (.int j) A = .ok (.int (i * j)) A := by unfold pMul pI; simp only [h, if_true]
theorem ev_mod {i j : Int} (h : 0 < j) : pMod (.int i) (.int j) A = .ok (.int (i % j)) A := by unfold pMod pI; simp only [h, decide_true, if_true]
theorem ev_fdiv {i j : Int} (h : 0 < j) (h2 : j < 1073741824) : pFdiv (.int i) (.int j) A = .ok (.int (i / j)) A := by unfold pFdiv pI; simp only [h, h2, decide_true, Bool.and_true, if_true]
end
theorem get_set_E {E : SA} {i j : Nat} {o : Option D} (h : i ≠ j) : (E.set i o)[j]? = E[j]? := List.getElem?_set_ne h
theorem mixed_call (c n : Int) (E : SA) (A : HA) (ca cb : CE) (h0 : 0 ≤ n) (h1 : n < 2 ^ 60) (ha : ca E A = .ok (.int c) A) (hb : cb E A = .ok (.int n) A) : ∃ r, cCall c_law_mixed (cCons ca (cCons cb cNil)) E A = .ok (.int r) A := by
  obtain ⟨r, e⟩ := mixed_ok c n A h0 h1
  exact ⟨r, (ev_call2 ha hb).trans e⟩
theorem draw_ok {A : HA} {m a b : Nat} {k : Int} (h : Drawn A m a b k) (hk : k < 2 ^ 59) (L : Int) (hL : 0 < L) (hL2 : L < 1073741824) :
    ∃ r A', c_law_draw [.ref m, .int L] A = .ok (.int r) A' ∧ 0 ≤ r ∧ r < L ∧ Drawn A' m a b (k + 1) ∧ A'.length = A.length ∧ ∀ i, i ≠ m → i ≠ b → A'[i]? = A[i]? := by
  obtain ⟨⟨cs, gs, n, hm, ha, hc, hb, n0, nk⟩, ma, mb, ab⟩ := h
  have hm : A[m]? = some (.dct false (dK a b n)) := hm
  obtain ⟨A1, eA1⟩ : ∃ A1, A1 = A.set m (.dct false (dK a b (n + 1))) := ⟨_, rfl⟩
  have hm1 : A1[m]? = some (.dct false (dK a b (n + 1))) := by rw [eA1]; exact get_set_eq hm
  have ha1 : A1[a]? = some (.lst (cs.map .int)) := by rw [eA1]; exact (get_set_ne ma).trans ha
  have hb1 : A1[b]? = some (.lst (gs.map .int)) := by rw [eA1]; exact (get_set_ne mb).trans hb
  have out1 : ∀ i, i ≠ m → A1[i]? = A[i]? := fun i hi => by rw [eA1]; exact get_set_ne (Ne.symm hi)
  have len1 : A1.length = A.length := by rw [eA1]; simp
  have dr1 : Drawn A1 m a b (k + 1) := ⟨⟨cs, gs, n + 1, hm1, ha1, hc, hb1, by omega, by omega⟩, ma, mb, ab⟩
  -- the last part: from the cells
  have last : ∀ E : SA, E[0]? = some (some (.ref m)) → E[1]? = some (some (.int L)) → E[2]? = some (some (.int n)) → 3 < E.length →
      ∃ r, (cSeq (cSet 3 (c2 pGet (cVar 0) (cC (.str "cells")))) (cRet (c2 pMod (cCall pInt (cCons (cCall c_law_mixed (cCons (cCall c_law_mixed (cCons (c2 pAdd (c2 pGet (cVar 3) (c2 pMod (cCall pInt (cCons (cVar 2) cNil)) (cC (.int 64)))) (c2 pMul (cC (.int 31)) (c2 pFdiv (cVar 2) (cC (.int 64))))) (cCons (cVar 2) cNil))) (cCons (c2 pAdd (cVar 2) (cC (.int 7))) cNil))) cNil)) (cVar 1)))) E A1 = .rt (.int r) A1 ∧ 0 ≤ r ∧ r < L := by
    intro E e0 e1 e2 e3
    rw [cSeq_nx (ev_set ((ev_c2 (ev_var e0) ev_c).trans (get_dict hm1 "cells" (.ref a) (dK_cells a b (n + 1)))))]
    obtain ⟨E1, eE⟩ : ∃ E1, E1 = E.set 3 (some (D.ref a)) := ⟨_, rfl⟩
    rw [← eE]
    have f1 : E1[1]? = some (some (.int L)) := by rw [eE]; exact (get_set_E (by decide)).trans e1
    have f2 : E1[2]? = some (some (.int n)) := by rw [eE]; exact (get_set_E (by decide)).trans e2
    have f3 : E1[3]? = some (some (.ref a)) := by rw [eE]; exact List.getElem?_set_self e3
    have b0 : 0 ≤ n % 64 := Int.emod_nonneg _ (by decide)
    have b1 : n % 64 < cs.length := by rw [hc]; exact Int.emod_lt_of_pos _ (by decide)
    have t0 : c2 pMod (cCall pInt (cCons (cVar 2) cNil)) (cC (.int 64)) E1 A1 = .ok (.int (n % 64)) A1 := (ev_c2 ((ev_call1 (ev_var f2)).trans ev_int) ev_c).trans (ev_mod (by decide))
    have t1 : (c2 pAdd (c2 pGet (cVar 3) (c2 pMod (cCall pInt (cCons (cVar 2) cNil)) (cC (.int 64)))) (c2 pMul (cC (.int 31)) (c2 pFdiv (cVar 2) (cC (.int 64))))) E1 A1 = .ok (.int (cs.getD (n % 64).toNat 0 + 31 * (n / 64))) A1 :=
      (ev_c2 ((ev_c2 (ev_var f3) t0).trans (get_ints ha1 (n % 64) b0 b1)) ((ev_c2 ev_c ((ev_c2 (ev_var f2) ev_c).trans (ev_fdiv (by decide) (by decide)))).trans (ev_mul (by simp [show small64 31 = true by decide])))).trans ev_add
    obtain ⟨r1, t2⟩ := mixed_call _ n E1 A1 _ _ n0 (by omega) t1 (ev_var f2)
    obtain ⟨r2, t3⟩ := mixed_call r1 (n + 7) E1 A1 _ (c2 pAdd (cVar 2) (cC (.int 7))) (by omega) (by omega) t2 ((ev_c2 (ev_var f2) ev_c).trans ev_add)
    exact ⟨r2 % L, ev_ret ((ev_c2 ((ev_call1 t3).trans ev_int) (ev_var f1)).trans (ev_mod hL)), Int.emod_nonneg _ (by omega), Int.emod_lt_of_pos _ hL⟩
  have body : ∃ r A', b_law_draw (startA 6 [.ref m, .int L]) A = .rt (.int r) A' ∧ 0 ≤ r ∧ r < L ∧ Drawn A' m a b (k + 1) ∧ A'.length = A.length ∧ ∀ i, i ≠ m → i ≠ b → A'[i]? = A[i]? := by
    unfold b_law_draw
    have e0 : startA 6 [.ref m, .int L] = [some (.ref m), some (.int L), none, none, none, none] := rfl
    rw [e0, cSeq_nx (ev_set ((ev_c2 (ev_var rfl) ev_c).trans (get_dict hm "spot" (.int n) (dK_spot a b n))))]
    have e1 : ([some (.ref m), some (.int L), none, none, none, none] : SA).set 2 (some (.int n)) = [some (.ref m), some (.int L), some (.int n), none, none, none] := rfl
    rw [e1]
    have s2 : cAsg (c2 pAdd (cVar 2) (cC (.int 1))) (gPut (cVar 0) (cC (.str "spot"))) [some (.ref m), some (.int L), some (.int n), none, none, none] A = .nx [some (.ref m), some (.int L), some (.int n), none, none, none] A1 := by
      refine (ev_asg ((ev_c2 (ev_var rfl) ev_c).trans ev_add) (put_dict (k := .inr "spot") (ev_var rfl) ev_c rfl hm (by rw [sizeLine_eq]; show 3 < 16777216; decide))).trans ?_
      rw [dK_put_spot, ← eA1]
      rfl
    rw [cSeq_nx s2]
    have t := (ev_c2 (E := [some (.ref m), some (.int L), some (.int n), none, none, none]) (p := pNeD) ((ev_c2 (ev_var (i := 0) rfl) ev_c).trans (get_dict hm1 "great" (.ref b) (dK_great a b (n + 1)))) (show cLst cNil _ A1 = .ok (.lst []) A1 from rfl)).trans (ne_nil_ok hb1)
    cases hg : gs.isEmpty with
    | true =>
      rw [hg] at t
      rw [cSeq_nx (show cIfS _ _ cSkip [some (.ref m), some (.int L), some (.int n), none, none, none] A1 = .nx [some (.ref m), some (.int L), some (.int n), none, none, none] A1 from ev_ifF (ev_cB t))]
      obtain ⟨r, h1, h2, h3⟩ := last [some (.ref m), some (.int L), some (.int n), none, none, none] rfl rfl rfl (by show 3 < 6; decide)
      exact ⟨r, A1, h1, h2, h3, dr1, len1, fun i hi _ => out1 i hi⟩
    | false =>
      rw [hg] at t
      have gpos : 0 < (gs.length : Int) := by
        cases gs with
        | nil => cases hg
        | cons => simp only [List.length_cons]; omega
      have glen : pLen [.ref b] A1 = .ok (.int gs.length) A1 := by
        unfold pLen lenOf listOf
        simp only [hb1, Option.map, List.length_map]
      let E2 : SA := [some (.ref m), some (.int L), some (.int n), some (.ref b), none, none]
      let E3 : SA := [some (.ref m), some (.int L), some (.int n), some (.ref b), some (.int (n % gs.length)), none]
      have b0 : 0 ≤ n % gs.length := Int.emod_nonneg _ (by omega)
      have b1 : n % gs.length < gs.length := Int.emod_lt_of_pos _ gpos
      obtain ⟨z, ez⟩ : ∃ z, z = gs.getD (n % gs.length).toNat 0 := ⟨_, rfl⟩
      let E4 : SA := [some (.ref m), some (.int L), some (.int n), some (.ref b), some (.int (n % gs.length)), some (.int z)]
      have u1 : cSet 3 (c2 pGet (cVar 0) (cC (.str "great"))) [some (.ref m), some (.int L), some (.int n), none, none, none] A1 = .nx E2 A1 := ev_set ((ev_c2 (ev_var rfl) ev_c).trans (get_dict hm1 "great" (.ref b) (dK_great a b (n + 1))))
      have u2 : cSet 4 (c2 pMod (cCall pInt (cCons (cVar 2) cNil)) (cCall pLen (cCons (cVar 3) cNil))) E2 A1 = .nx E3 A1 := ev_set ((ev_c2 ((ev_call1 (ev_var rfl)).trans ev_int) ((ev_call1 (ev_var rfl)).trans glen)).trans (ev_mod gpos))
      have u3 : cSet 5 (c2 pGet (cVar 3) (cVar 4)) E3 A1 = .nx E4 A1 := by
        rw [ev_set ((ev_c2 (ev_var (d := .ref b) rfl) (ev_var (d := .int (n % gs.length)) rfl)).trans (get_ints hb1 _ b0 b1)), ← ez]
        rfl
      have u4 : cB (c2 pGt (cVar 5) (cC (.int 0))) E4 A1 = .ok (decide (0 < z)) A1 := ev_cB ((ev_c2 (ev_var (d := .int z) rfl) ev_c).trans rfl)
      by_cases hz : 0 < z
      · have u5 : cB (c2 pGt (cVar 5) (cC (.int 0))) E4 A1 = .ok true A1 := by rw [u4]; simp only [hz, decide_true]
        let A2 := A1.set b (.lst ((gs.map D.int).set (n % gs.length).toNat (.int (z / L))))
        have u6 : cAsg (c2 pFdiv (cVar 5) (cVar 1)) (gPut (cVar 3) (cVar 4)) E4 A1 = .nx E4 A2 :=
          (ev_asg ((ev_c2 (ev_var (d := .int z) rfl) (ev_var (d := .int L) rfl)).trans (ev_fdiv hL hL2)) (put_list (a := b) (i := n % gs.length) (ev_var rfl) (ev_var rfl) hb1 b0 (by simpa using b1))).trans rfl
        have u7 : cRet (c2 pMod (cCall pInt (cCons (cVar 5) cNil)) (cVar 1)) E4 A2 = .rt (.int (z % L)) A2 := ev_ret ((ev_c2 ((ev_call1 (ev_var (d := .int z) rfl)).trans ev_int) (ev_var (d := .int L) rfl)).trans (ev_mod hL))
        refine ⟨z % L, A2, ?_, Int.emod_nonneg _ (by omega), Int.emod_lt_of_pos _ hL, ⟨⟨cs, gs.set (n % gs.length).toNat (z / L), n + 1, (get_set_ne (Ne.symm mb)).trans hm1, (get_set_ne (Ne.symm ab)).trans ha1, hc, ?_, by omega, by omega⟩, ma, mb, ab⟩, ?_, fun i hi hi2 => (get_set_ne (Ne.symm hi2)).trans (out1 i hi)⟩
        · refine cSeq_rt ?_
          refine (ev_ifT (ev_cB t)).trans ?_
          rw [cSeq_nx u1, cSeq_nx u2, cSeq_nx u3]
          refine (ev_ifT u5).trans ?_
          rw [cSeq_nx u6]
          exact u7
        · show (A1.set b _)[b]? = _
          rw [get_set_eq hb1, map_set_int]
        · show (A1.set b _).length = _
          rw [List.length_set, len1]
      · have u5 : cB (c2 pGt (cVar 5) (cC (.int 0))) E4 A1 = .ok false A1 := by rw [u4]; simp only [hz, decide_false]
        have v1 : (cSeq (cSet 3 (c2 pGet (cVar 0) (cC (.str "great")))) (cSeq (cSet 4 (c2 pMod (cCall pInt (cCons (cVar 2) cNil)) (cCall pLen (cCons (cVar 3) cNil)))) (cSeq (cSet 5 (c2 pGet (cVar 3) (cVar 4))) (cIfS (cB (c2 pGt (cVar 5) (cC (.int 0)))) (cSeq (cAsg (c2 pFdiv (cVar 5) (cVar 1)) (gPut (cVar 3) (cVar 4))) (cRet (c2 pMod (cCall pInt (cCons (cVar 5) cNil)) (cVar 1)))) cSkip))))
            [some (.ref m), some (.int L), some (.int n), none, none, none] A1 = .nx E4 A1 := by
          rw [cSeq_nx u1, cSeq_nx u2, cSeq_nx u3]
          exact (ev_ifF u5).trans rfl
        rw [cSeq_nx ((ev_ifT (ev_cB t)).trans v1)]
        obtain ⟨r, h1, h2, h3⟩ := last E4 rfl rfl rfl (by show 3 < 6; decide)
        exact ⟨r, A1, h1, h2, h3, dr1, len1, fun i hi _ => out1 i hi⟩
  obtain ⟨r, A', h1, h2⟩ := body
  refine ⟨r, A', ?_, h2⟩
  unfold c_law_draw runB
  rw [h1]

/-! ### loops -/
theorem forL_inv {cg : CG} {body : CS} (Inv : Nat → SA → HA → Prop) : ∀ (ds : List D) (i : Nat) (E : SA) (A : HA), Inv i E A →
    (∀ (j : Nat) (d : D) (E : SA) (A : HA), ds[j]? = some d → Inv (i + j) E A → ∃ E1 A1 E2 A2, cg d E A = .nx E1 A1 ∧ (body E1 A1 = .nx E2 A2 ∨ body E1 A1 = .ct E2 A2) ∧ Inv (i + j + 1) E2 A2) → ∃ E2 A2, forL cg body ds E A = .nx E2 A2 ∧ Inv (i + ds.length) E2 A2
  | [], i, E, A, h, _ => ⟨E, A, rfl, h⟩
  | d :: ds, i, E, A, h, k => by
    obtain ⟨E1, A1, E2, A2, h1, h2, h3⟩ := k 0 d E A rfl h
    obtain ⟨E3, A3, h4, h5⟩ := forL_inv Inv ds (i + 1) E2 A2 h3 fun j d' E A e q => by
      have := k (j + 1) d' E A (by simpa using e) (by rw [show i + (j + 1) = i + 1 + j by omega]; exact q)
      rw [show i + (j + 1) + 1 = i + 1 + j + 1 by omega] at this
      exact this
    refine ⟨E3, A3, ?_, by rw [List.length_cons, show i + (ds.length + 1) = i + 1 + ds.length by omega]; exact h5⟩
    show (match cg d E A with
      | .nx E1 A1 => match body E1 A1 with
        | .nx E2 A2 => forL cg body ds E2 A2
        | .ct E2 A2 => forL cg body ds E2 A2
        | .bk E2 A2 => .nx E2 A2
        | r => r
      | _ => .no) = _
    rw [h1]
    show (match body E1 A1 with
        | .nx E2 A2 => forL cg body ds E2 A2
        | .ct E2 A2 => forL cg body ds E2 A2
        | .bk E2 A2 => .nx E2 A2
        | r => r) = _
    rcases h2 with h2 | h2 <;> rw [h2] <;> exact h4
/-- a comprehension that leaves the heap as it is -/
theorem lcL_pure {cg : CG} {ct : CB} {ce : CE} {E : SA} {A : HA} (t : D → Bool) (f : D → D) : ∀ ds : List D, (∀ d ∈ ds, ∃ E1, cg d E A = .nx E1 A ∧ ct E1 A = .ok (t d) A ∧ (t d = true → ce E1 A = .ok (f d) A)) → lcL cg ct ce E ds A = .ok ((ds.filter t).map f) A
  | [], _ => rfl
  | d :: ds, h => by
    obtain ⟨E1, h1, h2, h3⟩ := h d List.mem_cons_self
    have ih := lcL_pure t f ds fun d hd => h d (List.mem_cons_of_mem _ hd)
    unfold lcL
    rw [h1]
    simp only [h2, R.nox, R.bind]
    cases ht : t d with
    | false => simp only [Bool.false_eq_true, if_false, ih, List.filter_cons, ht]
    | true => simp only [if_true, h3 ht, ih, List.filter_cons, ht, List.map_cons]
theorem ev_lcH {vs : List Nat} {ci : CI} {cg : CG} {ct : CB} {ce : CE} {E : SA} {A A1 A2 : HA} {ds xs : List D} (hi : ci E A = .ok (.fix ds) A1) (h : lcL cg ct ce (wipeA E vs) ds A1 = .ok xs A2) : cLcH vs ci cg ct ce E A = .ok (.ref A2.length) (A2 ++ [.lst xs]) := by
  unfold cLcH cLcI
  rw [hi]
  simp only [R.bind, h, R.nox]
theorem ev_lc {vs : List Nat} {ci : CI} {cg : CG} {ct : CB} {ce : CE} {E : SA} {A A1 A2 : HA} {ds xs : List D} (hi : ci E A = .ok (.fix ds) A1) (h : lcL cg ct ce (wipeA E vs) ds A1 = .ok xs A2) : cLc vs ci cg ct ce E A = .ok (.lst xs) A2 := by
  unfold cLc cLcI
  rw [hi]
  simp only [R.bind, h, R.nox]
theorem ev_for {ci : CI} {cg : CG} {body : CS} {E E2 : SA} {A A1 A2 : HA} {ds : List D} (hi : ci E A = .ok (.fix ds) A1) (h : forL cg body ds E A1 = .nx E2 A2) : cFor ci cg body E A = .nx E2 A2 := by
  unfold cFor
  rw [hi]
  exact h
theorem filter_all {α : Type} (l : List α) : l.filter (fun _ => true) = l := by simp
/-- the cells -/
theorem folded_ok (ns : List Int) (A : HA) : ∃ cs : List Int, c_law_folded [.lst (ns.map .int)] A = .ok (.ref A.length) (A ++ [.lst (cs.map .int)]) ∧ cs.length = 64 := by
  have body : ∃ cs : List Int, cs.length = 64 ∧ b_law_folded (startA 4 [.lst (ns.map .int)]) A = .rt (.ref A.length) (A ++ [.lst (cs.map .int)]) := by
    unfold b_law_folded
    have e0 : startA 4 [.lst (ns.map .int)] = [some (.lst (ns.map .int)), none, none, none] := rfl
    rw [e0]
    -- the first list
    obtain ⟨xs, hx, s1⟩ : ∃ xs : List Int, xs.length = 64 ∧ cSet 2 (cLcH [1] (iRng1 (cCons (cC (.int 64)) cNil)) (gSetN 1) cYes (c2 pAdd (cC (.int 17)) (cVar 1))) [some (.lst (ns.map .int)), none, none, none] A
        = .nx [some (.lst (ns.map .int)), none, some (.ref A.length), none] (A ++ [.lst (xs.map .int)]) := by
      refine ⟨(List.range 64).map fun i => 17 + (0 + (i : Nat) : Int), by simp, ?_⟩
      have hl : lcL (gSetN 1) cYes (c2 pAdd (cC (.int 17)) (cVar 1)) (wipeA [some (.lst (ns.map .int)), none, none, none] [1]) (intsD 0 64) A = .ok ((((List.range 64).map fun i => 17 + (0 + (i : Nat) : Int))).map .int) A := by
        rw [lcL_pure (fun _ => true) (fun d => match d with | .int i => .int (17 + i) | d => d) (intsD 0 64) fun d hd => ?_]
        · unfold intsD
          rw [filter_all, List.map_map, List.map_map]
          rfl
        · unfold intsD at hd
          obtain ⟨i, _, rfl⟩ := List.mem_map.mp hd
          exact ⟨_, rfl, rfl, fun _ => (ev_c2 ev_c (ev_var rfl)).trans ev_add⟩
      rw [ev_set (ev_lcH (ds := intsD 0 64) rfl hl)]
      rfl
    rw [cSeq_nx s1]
    have at_ : ∀ ys : List Int, (A ++ [AO.lst (ys.map D.int)])[A.length]? = some (.lst (ys.map .int)) := fun ys => by simp
    have set_ : ∀ (ys : List Int) (o : AO), (A ++ [AO.lst (ys.map D.int)]).set A.length o = A ++ [o] := fun ys o => by simp
    let Inv : SA → HA → Prop := fun E B => E.length = 4 ∧ E[2]? = some (some (.ref A.length)) ∧ ∃ ys : List Int, ys.length = 64 ∧ B = A ++ [.lst (ys.map .int)]
    -- the first loop
    have L1 : ∃ E2 B2, cFor (iEnumD (cCons (cVar 0) cNil)) (gTupN 2 (gsCons (gSetN 1) (gsCons (gSetN 3) gsNil))) (cAsg (c2 pMod (cCall pInt (cCons (c2 pAdd (c2 pMul (c2 pGet (cVar 2) (c2 pMod (cCall pInt (cCons (cVar 1) cNil)) (cC (.int 64)))) (cC (.int 48271))) (cVar 3)) cNil)) (cC (.int 2147483647))) (gPut (cVar 2) (c2 pMod (cCall pInt (cCons (cVar 1) cNil)) (cC (.int 64)))))
        [some (.lst (ns.map .int)), none, some (.ref A.length), none] (A ++ [.lst (xs.map .int)]) = .nx E2 B2 ∧ Inv E2 B2 := by
      refine (fun ⟨E2, B2, h1, h2⟩ => ⟨E2, B2, ev_for rfl h1, h2⟩) (forL_inv (cg := gTupN 2 (gsCons (gSetN 1) (gsCons (gSetN 3) gsNil))) (body := cAsg (c2 pMod (cCall pInt (cCons (c2 pAdd (c2 pMul (c2 pGet (cVar 2) (c2 pMod (cCall pInt (cCons (cVar 1) cNil)) (cC (.int 64)))) (cC (.int 48271))) (cVar 3)) cNil)) (cC (.int 2147483647))) (gPut (cVar 2) (c2 pMod (cCall pInt (cCons (cVar 1) cNil)) (cC (.int 64))))) (fun _ E B => Inv E B) (enumD 0 (ns.map .int)) 0 [some (.lst (ns.map .int)), none, some (.ref A.length), none] (A ++ [.lst (xs.map .int)]) ⟨rfl, rfl, xs, hx, rfl⟩ ?_)
      · rintro j d E B hd ⟨hl, h2, ys, hy, rfl⟩
        rw [enumD_get, List.getElem?_map, Option.map_map] at hd
        obtain ⟨z, hz, rfl⟩ := Option.map_eq_some_iff.mp hd
        obtain ⟨w, hw⟩ : ∃ w : Int, w = ((0 + j : Nat) : Int) := ⟨_, rfl⟩
        let E1 := (E.set 1 (some (D.int w))).set 3 (some (.int z))
        have f1 : E1[1]? = some (some (.int w)) := by
          show ((E.set 1 _).set 3 _)[1]? = _
          rw [get_set_E (by decide), List.getElem?_set_self (by omega)]
        have f2 : E1[2]? = some (some (.ref A.length)) := by
          show ((E.set 1 _).set 3 _)[2]? = _
          rw [get_set_E (by decide), get_set_E (by decide)]; exact h2
        have f3 : E1[3]? = some (some (.int z)) := List.getElem?_set_self (by simp; omega)
        have b0 : 0 ≤ w % 64 := Int.emod_nonneg _ (by decide)
        have b1 : w % 64 < ys.length := by rw [hy]; exact Int.emod_lt_of_pos _ (by decide)
        have t0 : c2 pMod (cCall pInt (cCons (cVar 1) cNil)) (cC (.int 64)) E1 (A ++ [.lst (ys.map .int)]) = .ok (.int (w % 64)) _ := (ev_c2 ((ev_call1 (ev_var f1)).trans ev_int) ev_c).trans (ev_mod (by decide))
        have t1 := (ev_c2 (p := pMul) ((ev_c2 (p := pGet) (ev_var f2) t0).trans (get_ints (at_ ys) (w % 64) b0 b1)) (ev_c (d := .int 48271))).trans (ev_mul (by simp [show small64 48271 = true by decide]))
        have t2 := (ev_c2 (p := pMod) ((ev_call1 (c := pInt) ((ev_c2 (p := pAdd) t1 (ev_var f3)).trans ev_add)).trans ev_int) (ev_c (d := .int 2147483647))).trans (ev_mod (by decide))
        refine ⟨E1, _, E1, _, ?_, .inl ((ev_asg t2 (put_list (a := A.length) (i := w % 64) (ev_var f2) t0 (at_ ys) b0 (by simpa using b1))).trans rfl), by simp [E1, hl], f2, ys.set (w % 64).toNat ((ys.getD (w % 64).toNat 0 * 48271 + z) % 2147483647), by simp [hy], by rw [set_, map_set_int]⟩
        show gTupN 2 _ (.tup [.int ((0 + j : Nat) : Int), .int z]) E _ = _
        rw [← hw]
        rfl
    obtain ⟨E2, B2, l1, hl, h2, ys, hy, rfl⟩ := L1
    rw [cSeq_nx l1]
    have L2 : ∃ E3 B3, cFor (iRng2 (cCons (cC (.int 1)) (cCons (cC (.int 64)) cNil))) (gSetN 1) (cAsg (c2 pMod (cCall pInt (cCons (c2 pAdd (c2 pGet (cVar 2) (cVar 1)) (c2 pMul (c2 pGet (cVar 2) (c2 pSub (cVar 1) (cC (.int 1)))) (cC (.int 16807)))) cNil)) (cC (.int 2147483647))) (gPut (cVar 2) (cVar 1))) E2 (A ++ [.lst (ys.map .int)]) = .nx E3 B3 ∧ Inv E3 B3 := by
      refine (fun ⟨E3, B3, h3, h4⟩ => ⟨E3, B3, ev_for rfl h3, h4⟩) (forL_inv (cg := gSetN 1) (body := cAsg (c2 pMod (cCall pInt (cCons (c2 pAdd (c2 pGet (cVar 2) (cVar 1)) (c2 pMul (c2 pGet (cVar 2) (c2 pSub (cVar 1) (cC (.int 1)))) (cC (.int 16807)))) cNil)) (cC (.int 2147483647))) (gPut (cVar 2) (cVar 1))) (fun _ E B => Inv E B) (intsD 1 63) 0 E2 (A ++ [.lst (ys.map .int)]) ⟨hl, h2, ys, hy, rfl⟩ ?_)
      · rintro j d E B hd ⟨hl, h2, ys, hy, rfl⟩
        unfold intsD at hd
        rw [List.getElem?_map] at hd
        obtain ⟨i, hi, rfl⟩ := Option.map_eq_some_iff.mp hd
        have hi63 : i < 63 := by
          have := List.mem_of_getElem? hi
          simpa using this
        obtain ⟨w, hw⟩ : ∃ w : Int, w = 1 + (i : Nat) := ⟨_, rfl⟩
        rw [← hw]
        let E1 := E.set 1 (some (D.int w))
        have f1 : E1[1]? = some (some (.int w)) := List.getElem?_set_self (by omega)
        have f2 : E1[2]? = some (some (.ref A.length)) := (get_set_E (by decide)).trans h2
        have b1 : w < ys.length := by rw [hy]; omega
        have t1 := (ev_c2 (p := pGet) (ev_var f2) (ev_var f1)).trans (get_ints (at_ ys) w (by omega) b1)
        have t2 := (ev_c2 (p := pMul) ((ev_c2 (p := pGet) (ev_var f2) ((ev_c2 (p := pSub) (ev_var f1) (ev_c (d := .int 1))).trans ev_sub)).trans (get_ints (at_ ys) (w - 1) (by omega) (by omega))) (ev_c (d := .int 16807))).trans (ev_mul (by simp [show small64 16807 = true by decide]))
        have t3 := (ev_c2 (p := pMod) ((ev_call1 (c := pInt) ((ev_c2 (p := pAdd) t1 t2).trans ev_add)).trans ev_int) (ev_c (d := .int 2147483647))).trans (ev_mod (by decide))
        exact ⟨E1, _, E1, _, rfl, .inl ((ev_asg t3 (put_list (a := A.length) (i := w) (ev_var f2) (ev_var f1) (at_ ys) (by omega) (by simpa using b1))).trans rfl), by simp [E1, hl], f2, ys.set w.toNat ((ys.getD w.toNat 0 + ys.getD (w - 1).toNat 0 * 16807) % 2147483647), by simp [hy], by rw [set_, map_set_int]⟩
    obtain ⟨E3, B3, l2, _, h3, zs, hz, rfl⟩ := L2
    rw [cSeq_nx l2]
    exact ⟨zs, hz, ev_ret (ev_var h3)⟩
  obtain ⟨cs, h1, h2⟩ := body
  refine ⟨cs, ?_, h1⟩
  unfold c_law_folded runB
  rw [h2]
end Sm

/-! D1: the drawn state at the beginning -/
namespace Sm
open PySem PySem.Spec PyProof.Rows L2
theorem begun_ok (ns : List Int) : ∃ A', c_law_begun [.lst (ns.map .int)] [] = .ok (.ref 2) A' ∧ Drawn A' 2 0 3 0 ∧ A'.length = 4 := by
  obtain ⟨cs, hc, hl⟩ := folded_ok ns []
  have hc : c_law_folded [.lst (ns.map .int)] [] = .ok (.ref 0) [.lst (cs.map .int)] := hc
  have e0 : startA 3 [.lst (ns.map .int)] = [some (.lst (ns.map .int)), none, none] := rfl
  let A2 : HA := [.lst (cs.map .int), .lst [], .dct false (dK 0 1 0)]
  have s1 : cSet 1 (cDisp (((cC (.str "cells")), (cCall c_law_folded (cCons (cVar 0) cNil))) :: (((cC (.str "great")), (cNewL cNil)) :: (((cC (.str "spot")), (cC (.int 0))) :: [])))) [some (.lst (ns.map .int)), none, none] [] = .nx [some (.lst (ns.map .int)), some (.ref 2), none] A2 := by
    refine (ev_set (d := .ref 2) (A1 := A2) ?_).trans rfl
    unfold cDisp
    have p3 : evalP [((cC (.str "spot")), (cC (.int 0)))] [some (.lst (ns.map .int)), none, none] [.lst (cs.map .int), .lst []] = .ok [(.str "spot", .int 0)] [.lst (cs.map .int), .lst []] := rfl
    have p1 : evalP (((cC (.str "cells")), (cCall c_law_folded (cCons (cVar 0) cNil))) :: (((cC (.str "great")), (cNewL cNil)) :: (((cC (.str "spot")), (cC (.int 0))) :: []))) [some (.lst (ns.map .int)), none, none] [] = .ok (dK 0 1 0) [.lst (cs.map .int), .lst []] := by
      unfold evalP
      show ((cCall c_law_folded (cCons (cVar 0) cNil) [some (.lst (ns.map .int)), none, none] []).bind fun v A2 => _) = _
      rw [(ev_call1 (c := c_law_folded) (ev_var (i := 0) (E := [some (.lst (ns.map .int)), none, none]) rfl)).trans hc]
      rfl
    rw [p1]
    rfl
  let fg : D → D := fun d => match d with
    | .int z => if (10 ^ 18 : Int) ≤ z then .int z else .int 0
    | d => d
  have hl2 : lcL (gSetN 2) cYes (cIf (cB (c2 pGe (cVar 2) (c2 pPow (cC (.int 10)) (cC (.int 18))))) (cVar 2) (cC (.int 0))) (wipeA [some (.lst (ns.map .int)), some (.ref 2), none] [2]) (ns.map .int) A2 = .ok (((ns.map fun z => if (10 ^ 18 : Int) ≤ z then z else 0)).map .int) A2 := by
    rw [lcL_pure (fun _ => true) fg (ns.map .int) fun d hd => ?_]
    · rw [filter_all, List.map_map, List.map_map]
      congr 1
      refine List.map_congr_left fun z _ => ?_
      show (if (10 ^ 18 : Int) ≤ z then D.int z else .int 0) = .int (if (10 ^ 18 : Int) ≤ z then z else 0)
      by_cases h : (10 ^ 18 : Int) ≤ z
      · rw [if_pos h, if_pos h]
      · rw [if_neg h, if_neg h]
    · obtain ⟨z, _, rfl⟩ := List.mem_map.mp hd
      refine ⟨[some (.lst (ns.map .int)), some (.ref 2), some (.int z)], rfl, rfl, fun _ => ?_⟩
      have t : cB (c2 pGe (cVar 2) (c2 pPow (cC (.int 10)) (cC (.int 18)))) [some (.lst (ns.map .int)), some (.ref 2), some (.int z)] A2 = .ok (decide ((10 ^ 18 : Int) ≤ z)) A2 := by
        refine ev_cB ((ev_c2 (ev_var (d := .int z) rfl) (e := .int (10 ^ 18)) (A2 := A2) ?_).trans rfl)
        exact (ev_c2 ev_c ev_c).trans rfl
      rw [ev_if t]
      show _ = R.ok (if (10 ^ 18 : Int) ≤ z then D.int z else .int 0) A2
      by_cases h : (10 ^ 18 : Int) ≤ z
      · rw [if_pos h, if_pos (by simp only [h, decide_true])]
        exact ev_var rfl
      · rw [if_neg h, if_neg (by simp only [h, decide_false]; decide)]
        rfl
  have s2 : cAsg (cLcH [2] (iSeq (cVar 0)) (gSetN 2) cYes (cIf (cB (c2 pGe (cVar 2) (c2 pPow (cC (.int 10)) (cC (.int 18))))) (cVar 2) (cC (.int 0)))) (gPut (cVar 1) (cC (.str "great"))) [some (.lst (ns.map .int)), some (.ref 2), none] A2
      = .nx [some (.lst (ns.map .int)), some (.ref 2), none] [.lst (cs.map .int), .lst [], .dct false (dK 0 3 0), .lst ((ns.map fun z => if (10 ^ 18 : Int) ≤ z then z else 0).map .int)] := by
    refine (ev_asg (ev_lcH (ds := ns.map .int) rfl hl2) (put_dict (m := 2) (k := .inr "great") (ev_var rfl) ev_c rfl (kvs := dK 0 1 0) rfl (by rw [sizeLine_eq]; show 3 < 16777216; decide))).trans ?_
    rw [show (A2.length) = 3 from rfl, dK_put_great]
    rfl
  refine ⟨[.lst (cs.map .int), .lst [], .dct false (dK 0 3 0), .lst ((ns.map fun z => if (10 ^ 18 : Int) ≤ z then z else 0).map .int)], ?_, ⟨⟨cs, ns.map fun z => if (10 ^ 18 : Int) ≤ z then z else 0, 0, rfl, rfl, hl, rfl, Int.le_refl _, Int.le_refl _⟩, by decide, by decide, by decide⟩, rfl⟩
  unfold c_law_begun runB b_law_begun
  rw [e0, cSeq_nx s1, cSeq_nx s2, ev_ret (ev_var (i := 1) (d := .ref 2) rfl)]
end Sm

/-! D2: loops and comprehensions over lists of the abstract heap -/
namespace Sm
open PySem PySem.Spec PyProof.Rows L2
theorem item_live {a n i : Nat} {A : HA} {ds : List D} (h : A[a]? = some (.lst ds)) (hn : ds.length = n) : itemAt (.live a n) i A = some ds[i]? := by
  show (match A[a]? with | some (.lst ds) => if ds.length = n then some ds[i]? else none | _ => none) = _
  rw [h]
  exact if_pos hn
theorem lcN_live {cg : CG} {ct : CB} {ce : CE} {E : SA} {A : HA} {a : Nat} {ds : List D} (ha : A[a]? = some (.lst ds)) (t : D → Bool) (f : D → D) (h : ∀ d ∈ ds, ∃ E1, cg d E A = .nx E1 A ∧ ct E1 A = .ok (t d) A ∧ (t d = true → ce E1 A = .ok (f d) A)) :
    ∀ (k i : Nat), k + i = ds.length → lcN (.live a ds.length) cg ct ce E (k + 1) i A = .ok (((ds.drop i).filter t).map f) A := by
  intro k
  induction k with
  | zero =>
    intro i hi
    have e : ds[i]? = none := List.getElem?_eq_none (by omega)
    rw [List.drop_eq_nil_of_le (by omega)]
    unfold lcN
    rw [item_live ha rfl, e]
    rfl
  | succ k ih =>
    intro i hi
    have hl : i < ds.length := by omega
    have e : ds[i]? = some ds[i] := List.getElem?_eq_getElem hl
    obtain ⟨E1, h1, h2, h3⟩ := h ds[i] (List.getElem_mem hl)
    rw [List.drop_eq_getElem_cons hl]
    unfold lcN
    rw [item_live ha rfl, e]
    simp only [h1, h2, R.nox, R.bind]
    have ih := ih (i + 1) (by omega)
    cases ht : t ds[i] with
    | false => simp only [Bool.false_eq_true, if_false, ih, List.filter_cons, ht]
    | true => simp only [if_true, h3 ht, ih, List.filter_cons, ht, List.map_cons]
theorem ev_lc_live {vs : List Nat} {ci : CI} {cg : CG} {ct : CB} {ce : CE} {E : SA} {A A1 : HA} {a : Nat} {ds : List D} (hi : ci E A = .ok (.live a ds.length) A1) (ha : A1[a]? = some (.lst ds)) (t : D → Bool) (f : D → D)
    (h : ∀ d ∈ ds, ∃ E1, cg d (wipeA E vs) A1 = .nx E1 A1 ∧ ct E1 A1 = .ok (t d) A1 ∧ (t d = true → ce E1 A1 = .ok (f d) A1)) : cLc vs ci cg ct ce E A = .ok (.lst ((ds.filter t).map f)) A1 := by
  unfold cLc cLcI
  rw [hi]
  show (((lcN (.live a ds.length) cg ct ce (wipeA E vs) (ds.length + 1) 0 A1).nox).bind fun ds A1 => R.ok (D.lst ds) A1) = _
  rw [lcN_live ha t f h ds.length 0 (by omega)]
  rfl
theorem iSeq_live {ce : CE} {E : SA} {A A1 : HA} {a : Nat} {ds : List D} (h : ce E A = .ok (.ref a) A1) (ha : A1[a]? = some (.lst ds)) : iSeq ce E A = .ok (.live a ds.length) A1 := by
  unfold iSeq
  rw [h]
  show (match A1[a]? with | some (.lst ds) => R.ok (IT.live a ds.length) A1 | _ => .no) = _
  rw [ha]
/-- a loop over a list of the heap that stays -/
theorem forN_inv {cg : CG} {body : CS} {a : Nat} {ds : List D} (Inv : Nat → SA → HA → Prop) (ha : ∀ i E A, Inv i E A → A[a]? = some (.lst ds))
    (h : ∀ (i : Nat) (d : D) (E : SA) (A : HA), ds[i]? = some d → Inv i E A → ∃ E1 A1 E2 A2, cg d E A = .nx E1 A1 ∧ (body E1 A1 = .nx E2 A2 ∨ body E1 A1 = .ct E2 A2) ∧ Inv (i + 1) E2 A2) :
    ∀ (k i : Nat) (E : SA) (A : HA), k + i = ds.length → Inv i E A → ∃ E2 A2, forN (.live a ds.length) cg body (k + 1) i E A = .nx E2 A2 ∧ Inv ds.length E2 A2 := by
  intro k
  induction k with
  | zero =>
    intro i E A hi q
    have e : ds[i]? = none := List.getElem?_eq_none (by omega)
    refine ⟨E, A, ?_, by rw [← hi, Nat.zero_add]; exact q⟩
    unfold forN
    rw [item_live (ha _ _ _ q) rfl, e]
  | succ k ih =>
    intro i E A hi q
    have hl : i < ds.length := by omega
    have e : ds[i]? = some ds[i] := List.getElem?_eq_getElem hl
    obtain ⟨E1, A1, E2, A2, h1, h2, h3⟩ := h i ds[i] E A e q
    obtain ⟨E3, A3, h4, h5⟩ := ih (i + 1) E2 A2 (by omega) h3
    refine ⟨E3, A3, ?_, h5⟩
    unfold forN
    rw [item_live (ha _ _ _ q) rfl, e]
    simp only [h1]
    rcases h2 with h2 | h2 <;> rw [h2] <;> exact h4
theorem ev_for_live {ci : CI} {cg : CG} {body : CS} {E E2 : SA} {A A1 A2 : HA} {a : Nat} {ds : List D} (hi : ci E A = .ok (.live a ds.length) A1) (h : forN (.live a ds.length) cg body (ds.length + 1) 0 E A1 = .nx E2 A2) : cFor ci cg body E A = .nx E2 A2 := by
  rw [cFor_eq, hi]
  exact h
theorem at_end {A : HA} {o : AO} : (A ++ [o])[A.length]? = some o := by simp
theorem set_end {A : HA} {o u : AO} : (A ++ [o]).set A.length u = A ++ [u] := by simp
theorem at_more {A B : HA} {i : Nat} {o : AO} (h : A[i]? = some o) : (A ++ B)[i]? = some o := by
  rw [List.getElem?_append_left (List.getElem?_eq_some_iff.mp h).1]; exact h
/-- x.append(e), x a list of the heap -/
theorem ev_append {co : CE} {ce : CE} {E : SA} {A A1 A2 : HA} {a : Nat} {ds ds' : List D} {d : D} (h1 : co E A = .ok (.ref a) A1) (ha : A1[a]? = some (.lst ds)) (h2 : ce E A1 = .ok d A2) (ha2 : A2[a]? = some (.lst ds')) (hl : ds'.length < sizeLine) :
    cMeth "list" pAppend co (cCons ce cNil) E A = .ok .non (A2.set a (.lst (ds' ++ [d]))) := by
  unfold cMeth
  rw [h1]
  show (if isT "list" A1 (.ref a) = true then (cCons ce cNil E A1).bind fun ds A2 => rOf (pAppend (.ref a) ds A2) else .no) = _
  have e : isT "list" A1 (.ref a) = true := by
    show (match A1[a]? with
      | some (.lst _) => "list" == "list"
      | some (.dct false _) => "list" == "dict"
      | some (.dtt false _) => "list" == "dict"
      | _ => false) = true
    rw [ha]; rfl
  rw [if_pos e]
  have e2 : cCons ce cNil E A1 = .ok [d] A2 := by unfold cCons cNil; rw [h2]; rfl
  rw [e2]
  show rOf (pAppend (.ref a) [d] A2) = _
  unfold pAppend
  simp only [ha2, hl, if_true]
  rfl
/-! ### for the end -/
/-- the classes that have the field n -/
def hasF (l : List (List Str)) (n : Str) : List Nat := (List.range l.length).filter fun c => decide (n ∈ l.getD c [])
theorem xfOf {P : Nat → Prop} {l : List (List Str)} {n : Str} (h : ∀ c, c ∈ hasF l n → P c) (c : Nat) (hc : n ∈ l.getD c []) : P c := by
  refine h c ?_
  unfold hasF
  rw [List.mem_filter, List.mem_range]
  refine ⟨?_, decide_eq_true hc⟩
  by_cases e : c < l.length
  · exact e
  · rw [List.getD, List.getElem?_eq_none (by omega)] at hc
    cases hc
theorem xbinds1 {params : Arguments} {n : Str} (h : ∀ (fd : FuncData), fd.params = params → fd.defaults = .none → ∀ (x u : Value), bindArgs fd ⟨[x, u], []⟩ = pure [(("self" : Str), x), (n, u)] ∧ bindArgs fd ⟨[x], [(n, u)]⟩ = pure [(("self" : Str), x), (n, u)]) :
    ∀ fd : FuncData, fd.params = params → fd.defaults = .none → ∀ (s : Shared) (x u : Value), BindsTo s fd ⟨[x, u], []⟩ [("self", x), (n, u)] ∧ BindsTo s fd ⟨[x], [(n, u)]⟩ [("self", x), (n, u)] := fun fd e d s x u => ⟨.of_eq (h fd e d x u).1, .of_eq (h fd e d x u).2⟩
theorem exm_of {K : PySem.W.Frag} {cls c : Value} {b : Bool} (h1 : PySem.W.subIn K c (.type "BaseException") = some true) (h2 : PySem.W.kitOne K cls c = some b) (ne : (cls == c) = false) : PySem.W.exmOne K cls c = some b := by
  have e : (PySem.W.subIn K c (.type "BaseException") == some true) = true := by rw [h1]; rfl
  unfold PySem.W.exmOne
  rw [if_pos e]
  unfold PySem.W.kitOne at h2
  rw [ne] at h2
  exact h2
end Sm

/-! D3: small rules for running codes -/
namespace Sm
open PySem PySem.Spec PyProof.Rows L2
theorem ev_one {ca : CE} {E : SA} {A A1 : HA} {d : D} (h : ca E A = .ok d A1) : cCons ca cNil E A = .ok [d] A1 := by
  show ((ca E A).bind fun d A1 => (cNil E A1).bind fun ds A2 => R.ok (d :: ds) A2) = _
  rw [h]; rfl
theorem iRng1_ok {ca : CA} {E : SA} {A A1 : HA} {j : Int} (h : ca E A = .ok [.int j] A1) (h0 : 0 ≤ j) (h1 : j < 1000000) : iRng1 ca E A = .ok (.fix (intsD 0 j.toNat)) A1 := by
  unfold iRng1
  rw [h]
  exact if_pos ⟨by omega, by omega, by rw [sizeLine_eq]; omega⟩
theorem for_run {ci : CI} {cg : CG} {body : CS} {E : SA} {A A1 : HA} {ds : List D} (Inv : Nat → SA → HA → Prop) (hi : ci E A = .ok (.fix ds) A1) (h0 : Inv 0 E A1)
    (step : ∀ (j : Nat) (d : D) (E : SA) (A : HA), ds[j]? = some d → Inv j E A → ∃ E1 A1 E2 A2, cg d E A = .nx E1 A1 ∧ (body E1 A1 = .nx E2 A2 ∨ body E1 A1 = .ct E2 A2) ∧ Inv (j + 1) E2 A2) : ∃ E2 A2, cFor ci cg body E A = .nx E2 A2 ∧ Inv ds.length E2 A2 := by
  obtain ⟨E2, A2, h1, h2⟩ := forL_inv (cg := cg) (body := body) Inv ds 0 E A1 h0 fun j d E A hd iv => by
    rw [Nat.zero_add] at iv ⊢
    exact step j d E A hd iv
  rw [Nat.zero_add] at h2
  exact ⟨E2, A2, ev_for hi h1, h2⟩
theorem seq_run {c c' : CS} {E : SA} {A : HA} {d : D} {P : SA → HA → Prop} (h : ∃ E2 A2, c E A = .nx E2 A2 ∧ P E2 A2) (k : ∀ E2 A2, P E2 A2 → ∃ A', c' E2 A2 = .rt d A') : ∃ A', cSeq c c' E A = .rt d A' := by
  obtain ⟨E2, A2, h1, h2⟩ := h
  rw [cSeq_nx h1]
  exact k E2 A2 h2
theorem ifF_nx {c : CB} {x : CS} {E : SA} {A : HA} (h : c E A = .ok false A) : cIfS c x cSkip E A = .nx E A := (ev_ifF h).trans rfl
theorem ifF_nx' {c : CB} {x : CS} {E : SA} {A A1 : HA} (h : c E A = .ok false A1) : cIfS c x cSkip E A = .nx E A1 := (ev_ifF h).trans rfl
theorem or_F {ta tb : CB} {E : SA} {A A1 : HA} {b : Bool} (h : ta E A = .ok false A) (h' : tb E A = .ok b A1) : cOr ta tb E A = .ok b A1 := by
  unfold cOr; rw [h]; exact h'
theorem ev_not {t : CB} {E : SA} {A A1 : HA} {b : Bool} (h : t E A = .ok b A1) : cNot t E A = .ok (!b) A1 := by
  unfold cNot; rw [h]; rfl
/-- what a run answers, as a test -/
def saysT : R D → Bool
  | .ok (.bl true) _ => true
  | _ => false
theorem saysT_ok {r : R D} (h : saysT r = true) : ∃ A, r = .ok (.bl true) A := by
  unfold saysT at h
  split at h
  · exact ⟨_, rfl⟩
  · cases h
theorem iso_T {c : CF} {ds : List D} (hp : pureDs ds = true) (h : saysT (c ds []) = true) (A : HA) : isoF c ds A = .ok (.bl true) A := by
  obtain ⟨A0, h⟩ := saysT_ok h
  exact iso_ok hp h rfl
theorem get_at {xs : List D} {i : Nat} {q : D} (h : xs[i]? = some q) (A : HA) : pGet (.lst xs) (.int (i : Int)) A = .ok q A := by
  have hi := (List.getElem?_eq_some_iff.mp h).1
  show pIx (.lst xs) (.int (i : Int)) A = _
  unfold pIx seqOf
  have e := (atI_get xs (i : Int) (by omega) (by omega)).2
  simp only [e, Int.toNat_natCast, h]
end Sm

namespace Sm
open PySem PySem.Spec PyProof.Rows L2
abbrev top (i : Nat) : Stmt := PySem.Challenge.pw_piledtrees_k30_exceptions_of_the_first_p.main.body.getD i (.Pass ⟨0, 0, 0, 0⟩)
def efL : List (List Str) := [[], ["value"], ["value"], ["value"], ["place"], ["value"], ["place"], ["word"]]
def efT : Nat → List Str := fun c => efL.getD c []
def isaL : IsaT := [(.inr 1, .inr 1, true), (.inr 1, .inr 2, false), (.inr 1, .inr 3, false), (.inr 1, .inr 4, false), (.inr 1, .inr 5, false), (.inr 1, .inr 6, false), (.inr 1, .inr 7, false), (.inr 1, .inr 0, true), (.inr 1, .inl "ValueError", true), (.inr 2, .inr 1, false), (.inr 2, .inr 2, true), (.inr 2, .inr 3, false), (.inr 2, .inr 4, false), (.inr 2, .inr 5, false), (.inr 2, .inr 6, false), (.inr 2, .inr 7, false), (.inr 2, .inr 0, true), (.inr 2, .inl "ValueError", true), (.inr 3, .inr 1, false), (.inr 3, .inr 2, false), (.inr 3, .inr 3, true), (.inr 3, .inr 4, false), (.inr 3, .inr 5, false), (.inr 3, .inr 6, false), (.inr 3, .inr 7, false), (.inr 3, .inr 0, true), (.inr 3, .inl "ValueError", true), (.inr 4, .inr 1, false), (.inr 4, .inr 2, false), (.inr 4, .inr 3, false), (.inr 4, .inr 4, true), (.inr 4, .inr 5, false), (.inr 4, .inr 6, false), (.inr 4, .inr 7, false), (.inr 4, .inr 0, true), (.inr 4, .inl "ValueError", true), (.inr 5, .inr 1, false), (.inr 5, .inr 2, false), (.inr 5, .inr 3, false), (.inr 5, .inr 4, false), (.inr 5, .inr 5, true), (.inr 5, .inr 6, false), (.inr 5, .inr 7, false), (.inr 5, .inr 0, true), (.inr 5, .inl "ValueError", true), (.inr 6, .inr 1, false), (.inr 6, .inr 2, false), (.inr 6, .inr 3, false), (.inr 6, .inr 4, false), (.inr 6, .inr 5, false), (.inr 6, .inr 6, true), (.inr 6, .inr 7, false), (.inr 6, .inr 0, true), (.inr 6, .inl "ValueError", true), (.inr 7, .inr 1, false), (.inr 7, .inr 2, false), (.inr 7, .inr 3, false), (.inr 7, .inr 4, false), (.inr 7, .inr 5, false), (.inr 7, .inr 6, false), (.inr 7, .inr 7, true), (.inr 7, .inr 0, true), (.inr 7, .inl "ValueError", true), (.inl "tuple", .inl "tuple", true), (.inl "str", .inl "str", true)]
def isaT : String ⊕ Nat → String ⊕ Nat → Option Bool := isaOf isaL
abbrev tab0 {α : Type} : Nat → Option α := fun _ => none
abbrev tab1 {α : Type} (f : Nat) (c : α) : Nat → Option α := fun i => if i = f then some c else none
def tA (g : G) (i : Nat) : Addr := (g.tabs.getD i (0, "")).1
abbrev s_law_folded : Stmt := top 29
abbrev n_law_folded : List Str := ["_law_script", "_law_n", "_law_found", "_law_cell"]
theorem sc_law_folded : FnScope n_law_folded ["_law_script"] (defScope s_law_folded) := ⟨rfl, rfl, rfl, by decide +kernel, rfl, by decide +kernel, by decide +kernel⟩
abbrev s_law_begun : Stmt := top 31
abbrev n_law_begun : List Str := ["_law_script", "_law_m", "_law_cell"]
theorem sc_law_begun : FnScope n_law_begun ["_law_script"] (defScope s_law_begun) := ⟨rfl, rfl, rfl, by decide +kernel, rfl, by decide +kernel, by decide +kernel⟩
abbrev s_law_mixed : Stmt := top 28
abbrev n_law_mixed : List Str := ["_law_cell", "_law_n", "_law_blend"]
theorem sc_law_mixed : FnScope n_law_mixed ["_law_cell", "_law_n"] (defScope s_law_mixed) := ⟨rfl, rfl, rfl, by decide +kernel, rfl, by decide +kernel, by decide +kernel⟩
abbrev s_law_draw : Stmt := top 30
abbrev n_law_draw : List Str := ["_law_m", "_law_limit", "_law_n", "_law_lot", "_law_here", "_law_cell"]
theorem sc_law_draw : FnScope n_law_draw ["_law_m", "_law_limit"] (defScope s_law_draw) := ⟨rfl, rfl, rfl, by decide +kernel, rfl, by decide +kernel, by decide +kernel⟩
abbrev s_law_each_right : Stmt := top 32
abbrev n_law_each_right : List Str := ["_law_q", "_law_pack", "_law_heard", "_law_one", "_law_at", "_law_known", "_law_k"]
def b_law_each_right : CS := (cSeq (cSet 1 (cLst (cCons (cMkx 1 (cVar 0)) (cCons (cMkx 2 (cVar 0)) (cCons (cMkx 3 (cVar 0)) (cCons (cMkx 4 (cVar 0)) (cCons (cMkx 5 (cVar 0)) (cCons (cMkx 6 (cVar 0)) (cCons (cMkx 7 (cVar 0)) cNil))))))))) (cSeq (cSet 2 (c2 (pCat false) (cLc [6] (iAny (cTup (cCons (cC (.int 0)) (cCons (cC (.int 1)) (cCons (cC (.int 2)) (cCons (cC (.int 4)) cNil)))))) (gSetN 6) cYes (cXat efT "value" (c2 pGet (cVar 1) (cVar 6)))) (cLst (cCons (cXat efT "place" (c2 pGet (cVar 1) (cC (.int 3)))) (cCons (cXat efT "place" (c2 pGet (cVar 1) (cC (.int 5)))) (cCons (cXat efT "word" (c2 pGet (cVar 1) (cC (.int 6)))) cNil)))))) (cSeq (cSet 2 (c2 (pCat false) (cVar 2) (cLst (cCons (cXat efT "value" (cMkx 1 (cVar 0))) (cCons (cXat efT "value" (cMkx 2 (cVar 0))) (cCons (cXat efT "value" (cMkx 3 (cVar 0))) (cCons (cXat efT "place" (cMkx 4 (cVar 0))) cNil))))))) (cSeq (cSet 2 (c2 (pCat false) (cVar 2) (cLst (cCons (cXat efT "value" (cMkx 5 (cVar 0))) (cCons (cXat efT "place" (cMkx 6 (cVar 0))) (cCons (cXat efT "word" (cMkx 7 (cVar 0))) cNil)))))) (cSeq (cIfS (cB (c2 pNeD (cLc [3] (iAny (cVar 2)) (gSetN 3) (cB (c2 pNeD (cCall pRepr (cCons (cVar 3) cNil)) (cCall pRepr (cCons (cVar 0) cNil)))) (cVar 3)) (cLst cNil))) (cRet (cC (.bl false))) cSkip) (cSeq (cFor (iEnumD (cCons (cVar 1) cNil)) (gTupN 2 (gsCons (gSetN 4) (gsCons (gSetN 3) gsNil))) (cSeq (cSet 5 (cLst (cCons (cCall (pIsa isaT) (cCons (cVar 3) (cCons (cC (.cls 1)) cNil))) (cCons (cCall (pIsa isaT) (cCons (cVar 3) (cCons (cC (.cls 2)) cNil))) (cCons (cCall (pIsa isaT) (cCons (cVar 3) (cCons (cC (.cls 3)) cNil))) cNil))))) (cSeq (cSet 5 (c2 (pCat false) (cVar 5) (cLst (cCons (cCall (pIsa isaT) (cCons (cVar 3) (cCons (cC (.cls 4)) cNil))) (cCons (cCall (pIsa isaT) (cCons (cVar 3) (cCons (cC (.cls 5)) cNil))) (cCons (cCall (pIsa isaT) (cCons (cVar 3) (cCons (cC (.cls 6)) cNil))) cNil)))))) (cSeq (cIfS (cB (c2 pNeD (c2 (pCat false) (cVar 5) (cLst (cCons (cCall (pIsa isaT) (cCons (cVar 3) (cCons (cC (.cls 7)) cNil))) cNil))) (cLc [6] (iRng1 (cCons (cC (.int 7)) cNil)) (gSetN 6) cYes (c2 pEqD (cVar 6) (cVar 4))))) (cRet (cC (.bl false))) cSkip) (cIfS (cOr (cNot (cB (cCall (pIsa isaT) (cCons (cVar 3) (cCons (cC (.cls 0)) cNil))))) (cNot (cB (cCall (pIsa isaT) (cCons (cVar 3) (cCons (cC (.ty "ValueError")) cNil)))))) (cRet (cC (.bl false))) cSkip))))) (cRet (cC (.bl true)))))))))
def c_law_each_right : CF := runB 7 (b_law_each_right)
theorem sc_law_each_right : FnScope n_law_each_right ["_law_q"] (defScope s_law_each_right) := ⟨rfl, rfl, rfl, by decide +kernel, rfl, by decide +kernel, by decide +kernel⟩
abbrev s_are_rising : Stmt := top 20
abbrev n_are_rising : List Str := ["things", "one", "other"]
def b_are_rising : CS := (cRet (cCall pAll (cCons (cLc [1, 2] (iZip (cCons (cVar 0) (cCons (cSl (cVar 0) (cOSome (cC (.int 1))) cONone) cNil))) (gTupN 2 (gsCons (gSetN 1) (gsCons (gSetN 2) gsNil))) cYes (c2 pLt (cVar 1) (cVar 2))) cNil)))
def c_are_rising : CF := runB 3 (b_are_rising)
theorem sc_are_rising : FnScope n_are_rising ["things"] (defScope s_are_rising) := ⟨rfl, rfl, rfl, by decide +kernel, rfl, by decide +kernel, by decide +kernel⟩
abbrev s_is_tuple : Stmt := top 19
abbrev n_is_tuple : List Str := ["value", "many"]
def b_is_tuple : CS := (cRet (cAndV (cCall (pIsa isaT) (cCons (cVar 0) (cCons (cC (.ty "tuple")) cNil))) (c2 pEqD (cCall pLen (cCons (cVar 0) cNil)) (cVar 1))))
def c_is_tuple : CF := runB 2 (b_is_tuple)
theorem sc_is_tuple : FnScope n_is_tuple ["value", "many"] (defScope s_is_tuple) := ⟨rfl, rfl, rfl, by decide +kernel, rfl, by decide +kernel, by decide +kernel⟩
abbrev s_are_pairs : Stmt := top 21
abbrev n_are_pairs : List Str := ["value", "is_key", "is_worth", "pair", "key", "worth"]
def b_are_pairs (tf_is_key : Nat → Option CF) (tl_is_key : Nat → Option (Nat × CE)) (tf_is_worth : Nat → Option CF) (tl_is_worth : Nat → Option (Nat × CE)) : CS := (cSeq (cIfS (cOr (cNot (cB (cCall (pIsa isaT) (cCons (cVar 0) (cCons (cC (.ty "tuple")) cNil))))) (cNot (cB (cCall pAll (cCons (cLc [3] (iAny (cVar 0)) (gSetN 3) cYes (cCall c_is_tuple (cCons (cVar 3) (cCons (cC (.int 2)) cNil)))) cNil))))) (cRet (cC (.bl false))) cSkip) (cSeq (cIfS (cNot (cB (cCall pAll (cCons (cLc [4, 5] (iAny (cVar 0)) (gTupN 2 (gsCons (gSetN 4) (gsCons (gSetN 5) gsNil))) cYes (cAndV (cCallV tf_is_key tl_is_key 1 (cCons (cVar 4) cNil)) (cCallV tf_is_worth tl_is_worth 2 (cCons (cVar 5) cNil)))) cNil)))) (cRet (cC (.bl false))) cSkip) (cRet (cCall c_are_rising (cCons (cLc [4, 5] (iAny (cVar 0)) (gTupN 2 (gsCons (gSetN 4) (gsCons (gSetN 5) gsNil))) cYes (cVar 4)) cNil)))))
def c_are_pairs (tf_is_key : Nat → Option CF) (tl_is_key : Nat → Option (Nat × CE)) (tf_is_worth : Nat → Option CF) (tl_is_worth : Nat → Option (Nat × CE)) : CF := runB 6 (b_are_pairs tf_is_key tl_is_key tf_is_worth tl_is_worth)
theorem sc_are_pairs : FnScope n_are_pairs ["value", "is_key", "is_worth"] (defScope s_are_pairs) := ⟨rfl, rfl, rfl, by decide +kernel, rfl, by decide +kernel, by decide +kernel⟩
abbrev s_is_number : Stmt := top 18
abbrev n_is_number : List Str := ["value"]
def b_is_number : CS := (cRet (cAndV (cCall (pIsa isaT) (cCons (cVar 0) (cCons (cC (.ty "int")) cNil))) (cAndV (cNotV (cCall (pIsa isaT) (cCons (cVar 0) (cCons (cC (.ty "bool")) cNil)))) (cChain (pIB fun i j => decide (i ≤ j)) (pIB fun i j => decide (i ≤ j)) (cC (.int 0)) (cVar 0) (cC (.int 99))))))
def c_is_number : CF := runB 1 (b_is_number)
theorem sc_is_number : FnScope n_is_number ["value"] (defScope s_is_number) := ⟨rfl, rfl, rfl, by decide +kernel, rfl, by decide +kernel, by decide +kernel⟩
abbrev s_is_word : Stmt := top 17
abbrev n_is_word : List Str := ["value", "letter"]
def b_is_word : CS := (cRet (cAndV (cCall (pIsa isaT) (cCons (cVar 0) (cCons (cC (.ty "str")) cNil))) (cAndV (cChain (pIB fun i j => decide (i ≤ j)) (pIB fun i j => decide (i ≤ j)) (cC (.int 1)) (cCall pLen (cCons (cVar 0) cNil)) (cC (.int 8))) (cCall pAll (cCons (cLc [1] (iAny (cVar 0)) (gSetN 1) cYes (c2 (pIn false) (cVar 1) (cC (.str "abcdefghijklmnopqrstuvwxyz")))) cNil)))))
def c_is_word : CF := runB 2 (b_is_word)
theorem sc_is_word : FnScope n_is_word ["value"] (defScope s_is_word) := ⟨rfl, rfl, rfl, by decide +kernel, rfl, by decide +kernel, by decide +kernel⟩
abbrev s_is_node : Stmt := top 22
abbrev n_is_node : List Str := ["value", "deep"]
def lamR0 : LamRec := lamRec "is_node.<locals>.<lambda>" ["node"] ["deep"] (pArg 2 (pRet (pBody 3 s_is_node)))
abbrev ln0 : List Str := ["node", "deep"]
def l0 (rc : CF) : CE := (cAndV (c2 pGt (cVar 1) (cC (.int 0))) (cCall rc (cCons (cVar 0) (cCons (c2 pSub (cVar 1) (cC (.int 1))) cNil))))
def b_is_node (rc : CF) : CS := (cSeq (cIfS (cOr (cNot (cB (cCall c_is_tuple (cCons (cVar 0) (cCons (cC (.int 2)) cNil))))) (cNot (cB (cCall (pIsa isaT) (cCons (c2 pGet (cVar 0) (cC (.int 0))) (cCons (cC (.ty "str")) cNil)))))) (cRet (cC (.bl false))) cSkip) (cSeq (cIfS (cB (c2 pEqD (c2 pGet (cVar 0) (cC (.int 0))) (cC (.str "file")))) (cRet (cCall c_is_number (cCons (c2 pGet (cVar 0) (cC (.int 1))) cNil))) cSkip) (cSeq (cIfS (cB (c2 pNeD (c2 pGet (cVar 0) (cC (.int 0))) (cC (.str "folder")))) (cRet (cC (.bl false))) cSkip) (cRet (cCallL (c_are_pairs (tab1 0 c_is_word) tab0 tab0 (tab1 0 (2, (l0 rc)))) 0 [1] (cCons (c2 pGet (cVar 0) (cC (.int 1))) (cCons (cC (.fn 0)) cNil)))))))
def c_is_node : Nat → CF
  | 0 => cf0
  | n + 1 => runB 2 (b_is_node (c_is_node n))
theorem sc_is_node : FnScope n_is_node ["value", "deep"] (defScope s_is_node) := ⟨rfl, rfl, rfl, by decide +kernel, rfl, by decide +kernel, by decide +kernel⟩
abbrev s_nodes_in : Stmt := top 24
abbrev n_nodes_in : List Str := ["node", "name", "inner"]
def b_nodes_in (rc : CF) : CS := (cRet (cIf (cB (c2 pEqD (c2 pGet (cVar 0) (cC (.int 0))) (cC (.str "file")))) (cC (.int 0)) (cCall pSum (cCons (cLc [1, 2] (iAny (c2 pGet (cVar 0) (cC (.int 1)))) (gTupN 2 (gsCons (gSetN 1) (gsCons (gSetN 2) gsNil))) cYes (c2 pAdd (cC (.int 1)) (cCall rc (cCons (cVar 2) cNil)))) cNil))))
def c_nodes_in : Nat → CF
  | 0 => cf0
  | n + 1 => runB 3 (b_nodes_in (c_nodes_in n))
theorem sc_nodes_in : FnScope n_nodes_in ["node"] (defScope s_nodes_in) := ⟨rfl, rfl, rfl, by decide +kernel, rfl, by decide +kernel, by decide +kernel⟩
abbrev s_numbers_in : Stmt := top 23
abbrev n_numbers_in : List Str := ["node", "name", "inner", "number"]
def b_numbers_in (rc : CF) : CS := (cSeq (cIfS (cB (c2 pEqD (c2 pGet (cVar 0) (cC (.int 0))) (cC (.str "file")))) (cRet (cLst (cCons (c2 pGet (cVar 0) (cC (.int 1))) cNil))) cSkip) (cRet (cLc2 [1, 2, 3] (iAny (c2 pGet (cVar 0) (cC (.int 1)))) (gTupN 2 (gsCons (gSetN 1) (gsCons (gSetN 2) gsNil))) cYes [3] (iAny (cCall rc (cCons (cVar 2) cNil))) (gSetN 3) cYes (cVar 3))))
def c_numbers_in : Nat → CF
  | 0 => cf0
  | n + 1 => runB 4 (b_numbers_in (c_numbers_in n))
theorem sc_numbers_in : FnScope n_numbers_in ["node"] (defScope s_numbers_in) := ⟨rfl, rfl, rfl, by decide +kernel, rfl, by decide +kernel, by decide +kernel⟩
abbrev s_is_tree : Stmt := top 25
abbrev n_is_tree : List Str := ["value", "number", "word"]
def b_is_tree : CS := (cSeq (cIfS (cOr (cNot (cB (cCall c_is_tuple (cCons (cVar 0) (cCons (cC (.int 2)) cNil))))) (cOr (cNot (cB (cCall (c_is_node 3) (cCons (c2 pGet (cVar 0) (cC (.int 0))) (cCons (cC (.int 6)) cNil))))) (cB (c2 pNeD (c2 pGet (c2 pGet (cVar 0) (cC (.int 0))) (cC (.int 0))) (cC (.str "folder")))))) (cRet (cC (.bl false))) cSkip) (cSeq (cIfS (cOr (cB (c2 pGt (cCall (c_nodes_in 3) (cCons (c2 pGet (cVar 0) (cC (.int 0))) cNil)) (cC (.int 60)))) (cNot (cB (cCall (c_are_pairs (tab1 1 c_is_number) tab0 (tab1 0 c_is_word) tab0) (cCons (c2 pGet (cVar 0) (cC (.int 1))) (cCons (cC (.fn 1)) (cCons (cC (.fn 0)) cNil))))))) (cRet (cC (.bl false))) cSkip) (cRet (c2 pEqD (cLc [1, 2] (iAny (c2 pGet (cVar 0) (cC (.int 1)))) (gTupN 2 (gsCons (gSetN 1) (gsCons (gSetN 2) gsNil))) cYes (cVar 1)) (cSortI (cSetI (cCons (cCall (c_numbers_in 3) (cCons (c2 pGet (cVar 0) (cC (.int 0))) cNil)) cNil)))))))
def c_is_tree : CF := runB 3 (b_is_tree)
theorem sc_is_tree : FnScope n_is_tree ["value"] (defScope s_is_tree) := ⟨rfl, rfl, rfl, by decide +kernel, rfl, by decide +kernel, by decide +kernel⟩
abbrev s_need_tree : Stmt := top 26
abbrev n_need_tree : List Str := ["tree"]
def b_need_tree : CS := (cSeq (cIfS (cNot (cB (cCall c_is_tree (cCons (cVar 0) cNil)))) (cRaise1 1 (cVar 0)) cSkip) (cRet (cVar 0)))
def c_need_tree : CF := runB 1 (b_need_tree)
theorem sc_need_tree : FnScope n_need_tree ["tree"] (defScope s_need_tree) := ⟨rfl, rfl, rfl, by decide +kernel, rfl, by decide +kernel, by decide +kernel⟩
abbrev s_law : Stmt := top 33
abbrev n_law : List Str := ["_law_script", "_law_m", "_law_turn", "_law_tree"]
def b_law : CS := (cSeq (cSet 1 (cCall c_law_begun (cCons (cVar 0) cNil))) (cSeq (cFor (iRng1 (cCons (cC (.int 4)) cNil)) (gSetN 2) (cIfS (cNot (cB (cCall (isoF c_law_each_right) (cCons (c2 pGet (cLst (cCons (cC .non) (cCons (cC (.int 0)) (cCons (cC (.int 7)) (cCons (cTup (cCons (cC (.int 1)) (cCons (cC (.int 2)) cNil))) (cCons (cC (.str "x")) (cCons (cLst (cCons (cC (.int 3)) cNil)) (cCons cEmp (cCons (c2 pPow (cC (.int 10)) (cC (.int 40))) cNil))))))))) (cCall c_law_draw (cCons (cVar 1) (cCons (cC (.int 8)) cNil)))) cNil)))) (cRet (cC (.bl false))) cSkip)) (cSeq (cSet 3 (cTup (cCons (cTup (cCons (cC (.str "folder")) (cCons (cTup cNil) cNil))) (cCons (cTup cNil) cNil)))) (cRet (c2 pEqD (cCall (isoF c_need_tree) (cCons (cVar 3) cNil)) (cVar 3))))))
def c_law : CF := runB 4 (b_law)
theorem sc_law : FnScope n_law ["_law_script"] (defScope s_law) := ⟨rfl, rfl, rfl, by decide +kernel, rfl, by decide +kernel, by decide +kernel⟩
def lmT : Nat → LamRec
  | 0 => lamR0
  | _ => ⟨"", default, noE, default, [], []⟩
structure Txt (g : G) : Prop where
  mg_law_folded : g.mg "_law_folded" = some (.ref (g.fa 11))
  fn_law_folded : ∃ fd, Fun g.K "_law_folded" "_law_folded" s_law_folded (g.fa 11) fd ∧ Binds g.K fd ["_law_script"] []
  mg_law_begun : g.mg "_law_begun" = some (.ref (g.fa 13))
  fn_law_begun : ∃ fd, Fun g.K "_law_begun" "_law_begun" s_law_begun (g.fa 13) fd ∧ Binds g.K fd ["_law_script"] []
  mg_law_mixed : g.mg "_law_mixed" = some (.ref (g.fa 10))
  fn_law_mixed : ∃ fd, Fun g.K "_law_mixed" "_law_mixed" s_law_mixed (g.fa 10) fd ∧ Binds g.K fd ["_law_cell", "_law_n"] []
  mg_law_draw : g.mg "_law_draw" = some (.ref (g.fa 12))
  fn_law_draw : ∃ fd, Fun g.K "_law_draw" "_law_draw" s_law_draw (g.fa 12) fd ∧ Binds g.K fd ["_law_m", "_law_limit"] []
  mg_law_each_right : g.mg "_law_each_right" = some (.ref (g.fa 14))
  fn_law_each_right : ∃ fd, Fun g.K "_law_each_right" "_law_each_right" s_law_each_right (g.fa 14) fd ∧ Binds g.K fd ["_law_q"] []
  mg_are_rising : g.mg "are_rising" = some (.ref (g.fa 3))
  fn_are_rising : ∃ fd, Fun g.K "are_rising" "are_rising" s_are_rising (g.fa 3) fd ∧ Binds g.K fd ["things"] []
  mg_is_tuple : g.mg "is_tuple" = some (.ref (g.fa 2))
  fn_is_tuple : ∃ fd, Fun g.K "is_tuple" "is_tuple" s_is_tuple (g.fa 2) fd ∧ Binds g.K fd ["value", "many"] []
  mg_are_pairs : g.mg "are_pairs" = some (.ref (g.fa 4))
  fn_are_pairs : ∃ fd, Fun g.K "are_pairs" "are_pairs" s_are_pairs (g.fa 4) fd ∧ Binds g.K fd ["value", "is_key", "is_worth"] []
  mg_is_number : g.mg "is_number" = some (.ref (g.fa 1))
  fn_is_number : ∃ fd, Fun g.K "is_number" "is_number" s_is_number (g.fa 1) fd ∧ Binds g.K fd ["value"] []
  mg_is_word : g.mg "is_word" = some (.ref (g.fa 0))
  fn_is_word : ∃ fd, Fun g.K "is_word" "is_word" s_is_word (g.fa 0) fd ∧ Binds g.K fd ["value"] []
  mg_is_node : g.mg "is_node" = some (.ref (g.fa 5))
  fn_is_node : ∃ fd, Fun g.K "is_node" "is_node" s_is_node (g.fa 5) fd ∧ Binds g.K fd ["value", "deep"] [] ∧ MkOf g "is_node" fd [(tA g 0, ("is_node.<locals>.<lambda>" : Str))]
  mg_nodes_in : g.mg "nodes_in" = some (.ref (g.fa 7))
  fn_nodes_in : ∃ fd, Fun g.K "nodes_in" "nodes_in" s_nodes_in (g.fa 7) fd ∧ Binds g.K fd ["node"] []
  mg_numbers_in : g.mg "numbers_in" = some (.ref (g.fa 6))
  fn_numbers_in : ∃ fd, Fun g.K "numbers_in" "numbers_in" s_numbers_in (g.fa 6) fd ∧ Binds g.K fd ["node"] []
  mg_is_tree : g.mg "is_tree" = some (.ref (g.fa 8))
  fn_is_tree : ∃ fd, Fun g.K "is_tree" "is_tree" s_is_tree (g.fa 8) fd ∧ Binds g.K fd ["value"] []
  mg_need_tree : g.mg "need_tree" = some (.ref (g.fa 9))
  fn_need_tree : ∃ fd, Fun g.K "need_tree" "need_tree" s_need_tree (g.fa 9) fd ∧ Binds g.K fd ["tree"] []
  mg_law : g.mg "law" = some (.ref (g.fa 15))
  fn_law : ∃ fd, Fun g.K "law" "law" s_law (g.fa 15) fd ∧ Binds g.K fd ["_law_script"] []
  tb0 : ((tA g 0, "is_node.<locals>.<lambda>") : Addr × Str) ∈ g.tabs ∧ ∀ p ∈ g.tabs, p.1 = tA g 0 → p.2 = "is_node.<locals>.<lambda>"
  lm0 : g.lm 0 = lamR0
  mc_FILE : ∃ t, g.mg "FILE" = some (.str "file" t)
  mc_FOLDER : ∃ t, g.mg "FOLDER" = some (.str "folder" t)
  mc_LETTERS : ∃ t, g.mg "LETTERS" = some (.str "abcdefghijklmnopqrstuvwxyz" t)
  mc_MOST_DEEP : ∃ t, g.mg "MOST_DEEP" = some (.int 6 t)
  mc_MOST_LETTERS : ∃ t, g.mg "MOST_LETTERS" = some (.int 8 t)
  mc_MOST_NODES : ∃ t, g.mg "MOST_NODES" = some (.int 60 t)
  mc_MOST_NUMBER : ∃ t, g.mg "MOST_NUMBER" = some (.int 99 t)
  mg_PileError : g.mg "PileError" = some (.ref (g.ca 0))
  mg_BadTree : g.mg "BadTree" = some (.ref (g.ca 1))
  mg_BadPath : g.mg "BadPath" = some (.ref (g.ca 2))
  mg_BadUpper : g.mg "BadUpper" = some (.ref (g.ca 3))
  mg_BadBook : g.mg "BadBook" = some (.ref (g.ca 4))
  mg_BadDeed : g.mg "BadDeed" = some (.ref (g.ca 5))
  mg_BadRow : g.mg "BadRow" = some (.ref (g.ca 6))
  mg_Refused : g.mg "Refused" = some (.ref (g.ca 7))
  x_BadTree : XCls g 1 "value"
  x_BadPath : XCls g 2 "value"
  x_BadUpper : XCls g 3 "value"
  x_BadBook : XCls g 4 "place"
  x_BadDeed : XCls g 5 "value"
  x_BadRow : XCls g 6 "place"
  x_Refused : XCls g 7 "word"
  rs_BadTree : XRs g 1
  no_ValueError : g.mg "ValueError" = none
  no_all : g.mg "all" = none
  no_bool : g.mg "bool" = none
  no_enumerate : g.mg "enumerate" = none
  no_int : g.mg "int" = none
  no_isinstance : g.mg "isinstance" = none
  no_len : g.mg "len" = none
  no_range : g.mg "range" = none
  no_repr : g.mg "repr" = none
  no_set : g.mg "set" = none
  no_sorted : g.mg "sorted" = none
  no_str : g.mg "str" = none
  no_sum : g.mg "sum" = none
  no_tuple : g.mg "tuple" = none
  no_zip : g.mg "zip" = none
  ee : g.ef = efT
  ei : g.isa = isaT
  io : IsaOk g
  xf_place : ∀ c, ("place" : Str) ∈ g.ef c → XFa g c
  xf_value : ∀ c, ("value" : Str) ∈ g.ef c → XFa g c
  xf_word : ∀ c, ("word" : Str) ∈ g.ef c → XFa g c
section
variable {g : G} (T : Txt g)
include T
theorem j_law_folded : JL (F.of g n_law_folded (defScope s_law_folded) 1) (defBody s_law_folded) b_law_folded := by
  have hb : 1 ≤ 1 := Nat.le_refl _
  exact (jl_cons (js_setLcH (i := 2) (own := [("_law_n", 1)]) (cl := []) rfl rfl (ji_rng1 rfl T.no_range (ja_cons je_int ja_nil)) (by dsimp only [F.of, F.blk]; decide +kernel) (by decide +kernel) (jg_name (i := 1) rfl (Or.inl rfl)) jt_nil (je_opF opF_add je_int (je_var (i := 1) rfl (Or.inl rfl))) rfl rfl (by decide +kernel)) (jl_cons (js_for (vs := [1, 3]) (ji_enum rfl T.no_enumerate (ja_cons (je_var (i := 0) rfl (Or.inl rfl)) ja_nil)) (jg_tup (n := 2) (jgs_cons (jg_name (i := 1) rfl (Or.inl rfl)) (jgs_cons (jg_name (i := 3) rfl (Or.inl rfl)) jgs_nil))) (jl_one (js_asg (vs := []) (je_opF opF_mod (je_tfn callF_int rfl T.no_int rfl (ja_cons (je_opF opF_add (je_opF opF_mul (je_get (je_var (i := 2) rfl (Or.inl rfl)) (je_opF opF_mod (je_tfn callF_int rfl T.no_int rfl (ja_cons (je_var (i := 1) rfl (Or.inl rfl)) ja_nil)) je_int)) je_int) (je_var (i := 3) rfl (Or.inl rfl))) ja_nil)) je_int) (jg_put (je_var (i := 2) rfl (Or.inl rfl)) (je_opF opF_mod (je_tfn callF_int rfl T.no_int rfl (ja_cons (je_var (i := 1) rfl (Or.inl rfl)) ja_nil)) je_int))))) (jl_cons (js_for (vs := [1]) (ji_rng2 rfl T.no_range (ja_cons je_int (ja_cons je_int ja_nil))) (jg_name (i := 1) rfl (Or.inl rfl)) (jl_one (js_asg (vs := []) (je_opF opF_mod (je_tfn callF_int rfl T.no_int rfl (ja_cons (je_opF opF_add (je_get (je_var (i := 2) rfl (Or.inl rfl)) (je_var (i := 1) rfl (Or.inl rfl))) (je_opF opF_mul (je_get (je_var (i := 2) rfl (Or.inl rfl)) (je_opF opF_sub (je_var (i := 1) rfl (Or.inl rfl)) je_int)) je_int)) ja_nil)) je_int) (jg_put (je_var (i := 2) rfl (Or.inl rfl)) (je_var (i := 1) rfl (Or.inl rfl)))))) (jl_one (js_ret (je_var (i := 2) rfl (Or.inl rfl)))))))
theorem ok_law_folded : CallOk g 2 (g.fa 11) ["_law_script"] c_law_folded := by
  obtain ⟨fd, h1, h2⟩ := T.fn_law_folded
  exact callOk_of (N := n_law_folded) h1 sc_law_folded h2 (j_law_folded T)
theorem j_law_begun : JL (F.of g n_law_begun (defScope s_law_begun) 2) (defBody s_law_begun) b_law_begun := by
  have hb : 2 ≤ 2 := Nat.le_refl _
  exact (jl_cons (js_set (i := 1) rfl (Or.inl rfl) (je_disp (jp_cons je_str (je_call ((ok_law_folded T).mono (Nat.le_trans (Nat.le_of_ble_eq_true rfl) hb)) rfl T.mg_law_folded (ja_cons (je_var (i := 0) rfl (Or.inl rfl)) ja_nil) (len_cons len_nil)) (jp_cons je_str (je_newL ja_nil len_nil) (jp_cons je_str je_int jp_nil))) (by rfl) (by rfl) (by intro h; cases h) (by decide) (by decide))) (jl_cons (js_asg (vs := []) (je_lcH (own := [("_law_cell", 2)]) (cl := []) (ji_seq (je_var (i := 0) rfl (Or.inl rfl))) (by dsimp only [F.of, F.blk]; decide +kernel) (by decide +kernel) (jg_name (i := 2) rfl (Or.inl rfl)) jt_nil (je_if (jb_cmpF opF_ge (je_var (i := 2) rfl (Or.inl rfl)) (je_opF opF_pow je_int je_int)) (je_var (i := 2) rfl (Or.inl rfl)) je_int)) (jg_put (je_var (i := 1) rfl (Or.inl rfl)) je_str)) (jl_one (js_ret (je_var (i := 1) rfl (Or.inl rfl))))))
theorem ok_law_begun : CallOk g 3 (g.fa 13) ["_law_script"] c_law_begun := by
  obtain ⟨fd, h1, h2⟩ := T.fn_law_begun
  exact callOk_of (N := n_law_begun) h1 sc_law_begun h2 (j_law_begun T)
theorem j_law_mixed : JL (F.of g n_law_mixed (defScope s_law_mixed) 1) (defBody s_law_mixed) b_law_mixed := by
  have hb : 1 ≤ 1 := Nat.le_refl _
  exact (jl_cons (js_set (i := 2) rfl (Or.inl rfl) (je_opF opF_add (je_opF opF_add (je_opF opF_mod (je_tfn callF_int rfl T.no_int rfl (ja_cons (je_opF opF_mul (je_opF opF_mul (je_var (i := 0) rfl (Or.inl rfl)) (je_opF opF_add je_int (je_opF opF_mul je_int (je_var (i := 1) rfl (Or.inl rfl))))) je_int) ja_nil)) je_int) (je_opF opF_mul (je_opF opF_mul je_int (je_var (i := 1) rfl (Or.inl rfl))) (je_var (i := 1) rfl (Or.inl rfl)))) (je_opF opF_mul je_int (je_var (i := 1) rfl (Or.inl rfl))))) (jl_one (js_ret (je_opF opF_fdiv (je_opF opF_mod (je_tfn callF_int rfl T.no_int rfl (ja_cons (je_opF opF_mul (je_var (i := 2) rfl (Or.inl rfl)) je_int) ja_nil)) je_int) je_int))))
theorem ok_law_mixed : CallOk g 2 (g.fa 10) ["_law_cell", "_law_n"] c_law_mixed := by
  obtain ⟨fd, h1, h2⟩ := T.fn_law_mixed
  exact callOk_of (N := n_law_mixed) h1 sc_law_mixed h2 (j_law_mixed T)
theorem j_law_draw : JL (F.of g n_law_draw (defScope s_law_draw) 2) (defBody s_law_draw) b_law_draw := by
  have hb : 2 ≤ 2 := Nat.le_refl _
  exact (jl_cons (js_set (i := 2) rfl (Or.inl rfl) (je_get (je_var (i := 0) rfl (Or.inl rfl)) je_str)) (jl_cons (js_asg (vs := []) (je_opF opF_add (je_var (i := 2) rfl (Or.inl rfl)) je_int) (jg_put (je_var (i := 0) rfl (Or.inl rfl)) je_str)) (jl_cons (js_if (jb_cmpF opF_neD (je_get (je_var (i := 0) rfl (Or.inl rfl)) je_str) (je_lst ja_nil len_nil)) (jl_cons (js_set (i := 3) rfl (Or.inl rfl) (je_get (je_var (i := 0) rfl (Or.inl rfl)) je_str)) (jl_cons (js_set (i := 4) rfl (Or.inl rfl) (je_opF opF_mod (je_tfn callF_int rfl T.no_int rfl (ja_cons (je_var (i := 2) rfl (Or.inl rfl)) ja_nil)) (je_bfn callF_len rfl T.no_len rfl (ja_cons (je_var (i := 3) rfl (Or.inl rfl)) ja_nil)))) (jl_cons (js_set (i := 5) rfl (Or.inl rfl) (je_get (je_var (i := 3) rfl (Or.inl rfl)) (je_var (i := 4) rfl (Or.inl rfl)))) (jl_one (js_if (jb_cmpF opF_gt (je_var (i := 5) rfl (Or.inl rfl)) je_int) (jl_cons (js_asg (vs := []) (je_opF opF_fdiv (je_var (i := 5) rfl (Or.inl rfl)) (je_var (i := 1) rfl (Or.inl rfl))) (jg_put (je_var (i := 3) rfl (Or.inl rfl)) (je_var (i := 4) rfl (Or.inl rfl)))) (jl_one (js_ret (je_opF opF_mod (je_tfn callF_int rfl T.no_int rfl (ja_cons (je_var (i := 5) rfl (Or.inl rfl)) ja_nil)) (je_var (i := 1) rfl (Or.inl rfl)))))) jl_nil))))) jl_nil) (jl_cons (js_set (i := 3) rfl (Or.inl rfl) (je_get (je_var (i := 0) rfl (Or.inl rfl)) je_str)) (jl_one (js_ret (je_opF opF_mod (je_tfn callF_int rfl T.no_int rfl (ja_cons (je_call ((ok_law_mixed T).mono (Nat.le_trans (Nat.le_of_ble_eq_true rfl) hb)) rfl T.mg_law_mixed (ja_cons (je_call ((ok_law_mixed T).mono (Nat.le_trans (Nat.le_of_ble_eq_true rfl) hb)) rfl T.mg_law_mixed (ja_cons (je_opF opF_add (je_get (je_var (i := 3) rfl (Or.inl rfl)) (je_opF opF_mod (je_tfn callF_int rfl T.no_int rfl (ja_cons (je_var (i := 2) rfl (Or.inl rfl)) ja_nil)) je_int)) (je_opF opF_mul je_int (je_opF opF_fdiv (je_var (i := 2) rfl (Or.inl rfl)) je_int))) (ja_cons (je_var (i := 2) rfl (Or.inl rfl)) ja_nil)) (len_cons (len_cons len_nil))) (ja_cons (je_opF opF_add (je_var (i := 2) rfl (Or.inl rfl)) je_int) ja_nil)) (len_cons (len_cons len_nil))) ja_nil)) (je_var (i := 1) rfl (Or.inl rfl)))))))))
theorem ok_law_draw : CallOk g 3 (g.fa 12) ["_law_m", "_law_limit"] c_law_draw := by
  obtain ⟨fd, h1, h2⟩ := T.fn_law_draw
  exact callOk_of (N := n_law_draw) h1 sc_law_draw h2 (j_law_draw T)
theorem j_law_each_right : JL (F.of g n_law_each_right (defScope s_law_each_right) 1) (defBody s_law_each_right) b_law_each_right := by
  have hb : 1 ≤ 1 := Nat.le_refl _
  exact (jl_cons (js_set (i := 1) rfl (Or.inr rfl) (je_lst (ja_cons (je_mkx T.x_BadTree rfl rfl T.mg_BadTree (je_var (i := 0) rfl (Or.inr (Or.inl rfl)))) (ja_cons (je_mkx T.x_BadPath rfl rfl T.mg_BadPath (je_var (i := 0) rfl (Or.inr (Or.inl rfl)))) (ja_cons (je_mkx T.x_BadUpper rfl rfl T.mg_BadUpper (je_var (i := 0) rfl (Or.inr (Or.inl rfl)))) (ja_cons (je_mkx T.x_BadBook rfl rfl T.mg_BadBook (je_var (i := 0) rfl (Or.inr (Or.inl rfl)))) (ja_cons (je_mkx T.x_BadDeed rfl rfl T.mg_BadDeed (je_var (i := 0) rfl (Or.inr (Or.inl rfl)))) (ja_cons (je_mkx T.x_BadRow rfl rfl T.mg_BadRow (je_var (i := 0) rfl (Or.inr (Or.inl rfl)))) (ja_cons (je_mkx T.x_Refused rfl rfl T.mg_Refused (je_var (i := 0) rfl (Or.inr (Or.inl rfl)))) ja_nil))))))) (len_cons (len_cons (len_cons (len_cons (len_cons (len_cons (len_cons len_nil))))))))) (jl_cons (js_set (i := 2) rfl (Or.inl rfl) (je_opF opF_cat (je_lc (own := [("_law_k", 6)]) (cl := []) (ji_any (je_tup (ja_cons je_int (ja_cons je_int (ja_cons je_int (ja_cons je_int ja_nil)))) (len_cons (len_cons (len_cons (len_cons len_nil)))))) (by dsimp only [F.of, F.blk]; decide +kernel) (by decide +kernel) (jg_name (i := 6) rfl (Or.inl rfl)) jt_nil (je_xat T.ee T.xf_value (je_get (je_var (i := 1) rfl (Or.inr (Or.inl rfl))) (je_var (i := 6) rfl (Or.inl rfl))))) (je_lst (ja_cons (je_xat T.ee T.xf_place (je_get (je_var (i := 1) rfl (Or.inr (Or.inl rfl))) je_int)) (ja_cons (je_xat T.ee T.xf_place (je_get (je_var (i := 1) rfl (Or.inr (Or.inl rfl))) je_int)) (ja_cons (je_xat T.ee T.xf_word (je_get (je_var (i := 1) rfl (Or.inr (Or.inl rfl))) je_int)) ja_nil))) (len_cons (len_cons (len_cons len_nil)))))) (jl_cons (js_set (i := 2) rfl (Or.inl rfl) (je_opF opF_cat (je_var (i := 2) rfl (Or.inl rfl)) (je_lst (ja_cons (je_xat T.ee T.xf_value (je_mkxK T.x_BadTree rfl rfl T.mg_BadTree (je_var (i := 0) rfl (Or.inr (Or.inl rfl))))) (ja_cons (je_xat T.ee T.xf_value (je_mkxK T.x_BadPath rfl rfl T.mg_BadPath (je_var (i := 0) rfl (Or.inr (Or.inl rfl))))) (ja_cons (je_xat T.ee T.xf_value (je_mkxK T.x_BadUpper rfl rfl T.mg_BadUpper (je_var (i := 0) rfl (Or.inr (Or.inl rfl))))) (ja_cons (je_xat T.ee T.xf_place (je_mkxK T.x_BadBook rfl rfl T.mg_BadBook (je_var (i := 0) rfl (Or.inr (Or.inl rfl))))) ja_nil)))) (len_cons (len_cons (len_cons (len_cons len_nil))))))) (jl_cons (js_set (i := 2) rfl (Or.inl rfl) (je_opF opF_cat (je_var (i := 2) rfl (Or.inl rfl)) (je_lst (ja_cons (je_xat T.ee T.xf_value (je_mkxK T.x_BadDeed rfl rfl T.mg_BadDeed (je_var (i := 0) rfl (Or.inr (Or.inl rfl))))) (ja_cons (je_xat T.ee T.xf_place (je_mkxK T.x_BadRow rfl rfl T.mg_BadRow (je_var (i := 0) rfl (Or.inr (Or.inl rfl))))) (ja_cons (je_xat T.ee T.xf_word (je_mkxK T.x_Refused rfl rfl T.mg_Refused (je_var (i := 0) rfl (Or.inr (Or.inl rfl))))) ja_nil))) (len_cons (len_cons (len_cons len_nil)))))) (jl_cons (js_if (jb_cmpF opF_neD (je_lc (own := [("_law_one", 3)]) (cl := []) (ji_any (je_var (i := 2) rfl (Or.inl rfl))) (by dsimp only [F.of, F.blk]; decide +kernel) (by decide +kernel) (jg_name (i := 3) rfl (Or.inl rfl)) (jt_one (jb_cmpF opF_neD (je_bfn callF_repr rfl T.no_repr rfl (ja_cons (je_var (i := 3) rfl (Or.inl rfl)) ja_nil)) (je_bfn callF_repr rfl T.no_repr rfl (ja_cons (je_var (i := 0) rfl (Or.inr (Or.inl rfl))) ja_nil)))) (je_var (i := 3) rfl (Or.inl rfl))) (je_lst ja_nil len_nil)) (jl_one (js_ret je_bl)) jl_nil) (jl_cons (js_for (vs := [4, 3]) (ji_enum rfl T.no_enumerate (ja_cons (je_var (i := 1) rfl (Or.inr (Or.inl rfl))) ja_nil)) (jg_tup (n := 2) (jgs_cons (jg_name (i := 4) rfl (Or.inr ⟨rfl, by dsimp only [F.of, F.blk]; decide +kernel⟩)) (jgs_cons (jg_name (i := 3) rfl (Or.inl rfl)) jgs_nil))) (jl_cons (js_set (i := 5) rfl (Or.inl rfl) (je_lst (ja_cons (je_bfn (callF_isa T.io T.ei) rfl T.no_isinstance rfl (ja_cons (je_var (i := 3) rfl (Or.inl rfl)) (ja_cons (je_glob (v := .ref (g.ca 1)) rfl T.mg_BadTree rfl fun _ _ => .cls 1) ja_nil))) (ja_cons (je_bfn (callF_isa T.io T.ei) rfl T.no_isinstance rfl (ja_cons (je_var (i := 3) rfl (Or.inl rfl)) (ja_cons (je_glob (v := .ref (g.ca 2)) rfl T.mg_BadPath rfl fun _ _ => .cls 2) ja_nil))) (ja_cons (je_bfn (callF_isa T.io T.ei) rfl T.no_isinstance rfl (ja_cons (je_var (i := 3) rfl (Or.inl rfl)) (ja_cons (je_glob (v := .ref (g.ca 3)) rfl T.mg_BadUpper rfl fun _ _ => .cls 3) ja_nil))) ja_nil))) (len_cons (len_cons (len_cons len_nil))))) (jl_cons (js_set (i := 5) rfl (Or.inl rfl) (je_opF opF_cat (je_var (i := 5) rfl (Or.inl rfl)) (je_lst (ja_cons (je_bfn (callF_isa T.io T.ei) rfl T.no_isinstance rfl (ja_cons (je_var (i := 3) rfl (Or.inl rfl)) (ja_cons (je_glob (v := .ref (g.ca 4)) rfl T.mg_BadBook rfl fun _ _ => .cls 4) ja_nil))) (ja_cons (je_bfn (callF_isa T.io T.ei) rfl T.no_isinstance rfl (ja_cons (je_var (i := 3) rfl (Or.inl rfl)) (ja_cons (je_glob (v := .ref (g.ca 5)) rfl T.mg_BadDeed rfl fun _ _ => .cls 5) ja_nil))) (ja_cons (je_bfn (callF_isa T.io T.ei) rfl T.no_isinstance rfl (ja_cons (je_var (i := 3) rfl (Or.inl rfl)) (ja_cons (je_glob (v := .ref (g.ca 6)) rfl T.mg_BadRow rfl fun _ _ => .cls 6) ja_nil))) ja_nil))) (len_cons (len_cons (len_cons len_nil)))))) (jl_cons (js_if (jb_cmpF opF_neD (je_opF opF_cat (je_var (i := 5) rfl (Or.inl rfl)) (je_lst (ja_cons (je_bfn (callF_isa T.io T.ei) rfl T.no_isinstance rfl (ja_cons (je_var (i := 3) rfl (Or.inl rfl)) (ja_cons (je_glob (v := .ref (g.ca 7)) rfl T.mg_Refused rfl fun _ _ => .cls 7) ja_nil))) ja_nil) (len_cons len_nil))) (je_lc (own := [("_law_k", 6)]) (cl := []) (ji_rng1 rfl T.no_range (ja_cons je_int ja_nil)) (by dsimp only [F.of, F.blk]; decide +kernel) (by decide +kernel) (jg_name (i := 6) rfl (Or.inl rfl)) jt_nil (je_cmpF opF_eqD (je_var (i := 6) rfl (Or.inl rfl)) (je_var (i := 4) rfl (Or.inr (Or.inl rfl)))))) (jl_one (js_ret je_bl)) jl_nil) (jl_one (js_if (jb_w (jw_or (jb_not (jb_val (je_bfn (callF_isa T.io T.ei) rfl T.no_isinstance rfl (ja_cons (je_var (i := 3) rfl (Or.inl rfl)) (ja_cons (je_glob (v := .ref (g.ca 0)) rfl T.mg_PileError rfl fun _ _ => .cls 0) ja_nil))))) (jw_or1 (jb_not (jb_val (je_bfn (callF_isa T.io T.ei) rfl T.no_isinstance rfl (ja_cons (je_var (i := 3) rfl (Or.inl rfl)) (ja_cons (je_bty rfl T.no_ValueError rfl) ja_nil)))))))) (jl_one (js_ret je_bl)) jl_nil)))))) (jl_one (js_ret je_bl))))))))
theorem ok_law_each_right : CallOk g 2 (g.fa 14) ["_law_q"] c_law_each_right := by
  obtain ⟨fd, h1, h2⟩ := T.fn_law_each_right
  exact callOk_of (N := n_law_each_right) h1 sc_law_each_right h2 (j_law_each_right T)
theorem j_are_rising : JL (F.of g n_are_rising (defScope s_are_rising) 1) (defBody s_are_rising) b_are_rising := by
  have hb : 1 ≤ 1 := Nat.le_refl _
  exact (jl_one (js_ret (je_bfn callF_all rfl T.no_all rfl (ja_cons (je_lc (own := [("one", 1), ("other", 2)]) (cl := []) (ji_zip rfl T.no_zip (ja_cons (je_var (i := 0) rfl (Or.inl rfl)) (ja_cons (je_slice (je_var (i := 0) rfl (Or.inl rfl)) (jo_some je_int) jo_none) ja_nil))) (by dsimp only [F.of, F.blk]; decide +kernel) (by decide +kernel) (jg_tup (n := 2) (jgs_cons (jg_name (i := 1) rfl (Or.inl rfl)) (jgs_cons (jg_name (i := 2) rfl (Or.inl rfl)) jgs_nil))) jt_nil (je_cmpF opF_lt (je_var (i := 1) rfl (Or.inl rfl)) (je_var (i := 2) rfl (Or.inl rfl)))) ja_nil))))
theorem ok_are_rising : CallOk g 2 (g.fa 3) ["things"] c_are_rising := by
  obtain ⟨fd, h1, h2⟩ := T.fn_are_rising
  exact callOk_of (N := n_are_rising) h1 sc_are_rising h2 (j_are_rising T)
theorem j_is_tuple : JL (F.of g n_is_tuple (defScope s_is_tuple) 1) (defBody s_is_tuple) b_is_tuple := by
  have hb : 1 ≤ 1 := Nat.le_refl _
  exact (jl_one (js_ret (je_and (je_bfn (callF_isa T.io T.ei) rfl T.no_isinstance rfl (ja_cons (je_var (i := 0) rfl (Or.inl rfl)) (ja_cons (je_bty rfl T.no_tuple rfl) ja_nil))) (je_one (je_cmpF opF_eqD (je_bfn callF_len rfl T.no_len rfl (ja_cons (je_var (i := 0) rfl (Or.inl rfl)) ja_nil)) (je_var (i := 1) rfl (Or.inl rfl)))))))
theorem ok_is_tuple : CallOk g 2 (g.fa 2) ["value", "many"] c_is_tuple := by
  obtain ⟨fd, h1, h2⟩ := T.fn_is_tuple
  exact callOk_of (N := n_is_tuple) h1 sc_is_tuple h2 (j_is_tuple T)
theorem j_are_pairs {b : Nat} (hb : 2 ≤ b) {tf_is_key : Nat → Option CF} {tl_is_key : Nat → Option (Nat × CE)} (hf_is_key : TabF g b 1 tf_is_key) (hl_is_key : TabL g b 1 tl_is_key) {tf_is_worth : Nat → Option CF} {tl_is_worth : Nat → Option (Nat × CE)} (hf_is_worth : TabF g b 1 tf_is_worth) (hl_is_worth : TabL g b 1 tl_is_worth) : JL (F.of g n_are_pairs (defScope s_are_pairs) b) (defBody s_are_pairs) (b_are_pairs tf_is_key tl_is_key tf_is_worth tl_is_worth) :=
  (jl_cons (js_if (jb_w (jw_or (jb_not (jb_val (je_bfn (callF_isa T.io T.ei) rfl T.no_isinstance rfl (ja_cons (je_var (i := 0) rfl (Or.inl rfl)) (ja_cons (je_bty rfl T.no_tuple rfl) ja_nil))))) (jw_or1 (jb_not (jb_val (je_bfn callF_all rfl T.no_all rfl (ja_cons (je_lc (own := [("pair", 3)]) (cl := []) (ji_any (je_var (i := 0) rfl (Or.inl rfl))) (by dsimp only [F.of, F.blk]; decide +kernel) (by decide +kernel) (jg_name (i := 3) rfl (Or.inl rfl)) jt_nil (je_call ((ok_is_tuple T).mono (Nat.le_trans (Nat.le_of_ble_eq_true rfl) hb)) rfl T.mg_is_tuple (ja_cons (je_var (i := 3) rfl (Or.inl rfl)) (ja_cons je_int ja_nil)) (len_cons (len_cons len_nil)))) ja_nil))))))) (jl_one (js_ret je_bl)) jl_nil) (jl_cons (js_if (jb_not (jb_val (je_bfn callF_all rfl T.no_all rfl (ja_cons (je_lc (own := [("key", 4), ("worth", 5)]) (cl := []) (ji_any (je_var (i := 0) rfl (Or.inl rfl))) (by dsimp only [F.of, F.blk]; decide +kernel) (by decide +kernel) (jg_tup (n := 2) (jgs_cons (jg_name (i := 4) rfl (Or.inl rfl)) (jgs_cons (jg_name (i := 5) rfl (Or.inl rfl)) jgs_nil))) jt_nil (je_and (je_callV (i := 1) rfl (Or.inr (Or.inl rfl)) hf_is_key hl_is_key (ja_cons (je_var (i := 4) rfl (Or.inl rfl)) ja_nil) (len_cons len_nil)) (je_one (je_callV (i := 2) rfl (Or.inr (Or.inl rfl)) hf_is_worth hl_is_worth (ja_cons (je_var (i := 5) rfl (Or.inl rfl)) ja_nil) (len_cons len_nil))))) ja_nil)))) (jl_one (js_ret je_bl)) jl_nil) (jl_one (js_ret (je_call ((ok_are_rising T).mono (Nat.le_trans (Nat.le_of_ble_eq_true rfl) hb)) rfl T.mg_are_rising (ja_cons (je_lc (own := [("key", 4), ("worth", 5)]) (cl := []) (ji_any (je_var (i := 0) rfl (Or.inl rfl))) (by dsimp only [F.of, F.blk]; decide +kernel) (by decide +kernel) (jg_tup (n := 2) (jgs_cons (jg_name (i := 4) rfl (Or.inl rfl)) (jgs_cons (jg_name (i := 5) rfl (Or.inl rfl)) jgs_nil))) jt_nil (je_var (i := 4) rfl (Or.inl rfl))) ja_nil) (len_cons len_nil))))))
theorem ok_are_pairs {b : Nat} (hb : 2 ≤ b) {tf_is_key : Nat → Option CF} {tl_is_key : Nat → Option (Nat × CE)} (hf_is_key : TabF g b 1 tf_is_key) (hl_is_key : TabL g b 1 tl_is_key) {tf_is_worth : Nat → Option CF} {tl_is_worth : Nat → Option (Nat × CE)} (hf_is_worth : TabF g b 1 tf_is_worth) (hl_is_worth : TabL g b 1 tl_is_worth) : CallOk g (b + 1) (g.fa 4) ["value", "is_key", "is_worth"] (c_are_pairs tf_is_key tl_is_key tf_is_worth tl_is_worth) := by
  obtain ⟨fd, h1, h2⟩ := T.fn_are_pairs
  exact callOk_of (N := n_are_pairs) h1 sc_are_pairs h2 (j_are_pairs T hb hf_is_key hl_is_key hf_is_worth hl_is_worth)
theorem j_is_number : JL (F.of g n_is_number (defScope s_is_number) 1) (defBody s_is_number) b_is_number := by
  have hb : 1 ≤ 1 := Nat.le_refl _
  exact (jl_one (js_ret (je_and (je_bfn (callF_isa T.io T.ei) rfl T.no_isinstance rfl (ja_cons (je_var (i := 0) rfl (Or.inl rfl)) (ja_cons (je_bty rfl T.no_int rfl) ja_nil))) (je_and (je_not (je_bfn (callF_isa T.io T.ei) rfl T.no_isinstance rfl (ja_cons (je_var (i := 0) rfl (Or.inl rfl)) (ja_cons (je_bty rfl T.no_bool rfl) ja_nil)))) (je_one (je_chainI cop_le cop_le je_int (je_var (i := 0) rfl (Or.inl rfl)) (je_gint rfl T.mc_MOST_NUMBER)))))))
theorem ok_is_number : CallOk g 2 (g.fa 1) ["value"] c_is_number := by
  obtain ⟨fd, h1, h2⟩ := T.fn_is_number
  exact callOk_of (N := n_is_number) h1 sc_is_number h2 (j_is_number T)
theorem j_is_word : JL (F.of g n_is_word (defScope s_is_word) 1) (defBody s_is_word) b_is_word := by
  have hb : 1 ≤ 1 := Nat.le_refl _
  exact (jl_one (js_ret (je_and (je_bfn (callF_isa T.io T.ei) rfl T.no_isinstance rfl (ja_cons (je_var (i := 0) rfl (Or.inl rfl)) (ja_cons (je_bty rfl T.no_str rfl) ja_nil))) (je_and (je_chainI cop_le cop_le je_int (je_bfn callF_len rfl T.no_len rfl (ja_cons (je_var (i := 0) rfl (Or.inl rfl)) ja_nil)) (je_gint rfl T.mc_MOST_LETTERS)) (je_one (je_bfn callF_all rfl T.no_all rfl (ja_cons (je_lc (own := [("letter", 1)]) (cl := []) (ji_any (je_var (i := 0) rfl (Or.inl rfl))) (by dsimp only [F.of, F.blk]; decide +kernel) (by decide +kernel) (jg_name (i := 1) rfl (Or.inl rfl)) jt_nil (je_cmpF opF_in (je_var (i := 1) rfl (Or.inl rfl)) (je_gstr rfl T.mc_LETTERS))) ja_nil)))))))
theorem ok_is_word : CallOk g 2 (g.fa 0) ["value"] c_is_word := by
  obtain ⟨fd, h1, h2⟩ := T.fn_is_word
  exact callOk_of (N := n_is_word) h1 sc_is_word h2 (j_is_word T)
theorem la0 {b : Nat} : LamAt (F.of g n_is_node (defScope s_is_node) b [(tA g 0, ("is_node.<locals>.<lambda>" : Str))]) 0 :=
  { tab := ⟨tA g 0, by dsimp only [F.of]; rw [T.lm0]; exact List.mem_cons_self, by dsimp only [F.of]; rw [T.lm0]; exact T.tb0.1, by dsimp only [F.of]; rw [T.lm0]; exact T.tb0.2⟩, dp := rfl,
    fr := by dsimp only [F.of]; rw [T.lm0]; decide +kernel, sub := by dsimp only [F.of]; rw [T.lm0]; decide +kernel, sup := by dsimp only [F.of]; rw [T.lm0]; decide +kernel }
theorem jl0 {k : Nat} (hb : 3 ≤ k) {rc : CF} (hrc : CallOk g k (g.fa 5) ["value", "deep"] rc) : JE (⟨g, ln0, lamR0.scope, k, [], true, []⟩ : Sm.F) lamR0.body (l0 rc) :=
  (je_and (je_cmpF opF_gt (je_var (i := 1) rfl (Or.inr (Or.inr rfl))) je_int) (je_one (je_call hrc rfl T.mg_is_node (ja_cons (je_var (i := 0) rfl (Or.inl rfl)) (ja_cons (je_opF opF_sub (je_var (i := 1) rfl (Or.inr (Or.inr rfl))) je_int) ja_nil)) (len_cons (len_cons len_nil)))))
theorem lo0 {k : Nat} (hb : 3 ≤ k) {rc : CF} (hrc : CallOk g k (g.fa 5) ["value", "deep"] rc) : LamOk g (k + 1) 0 1 ln0 (l0 rc) :=
  { sc := by rw [T.lm0]; exact NdefX.nscope_by (by decide +kernel),
    bnd := by rw [T.lm0]; exact fun cl pm cv ct us hl => match us, hl with | [_], _ => rfl,
    np := by rw [T.lm0]; rfl,
    body := ⟨k, Nat.le_refl _, by have h := jl0 T hb hrc; show JE (⟨g, ln0, (g.lm 0).scope, k, [], true, []⟩ : Sm.F) (g.lm 0).body _; rw [T.lm0]; exact h⟩ }
theorem j_is_node {k : Nat} (hb0 : 3 ≤ k) {rc : CF} (hrc0 : CallOk g k (g.fa 5) ["value", "deep"] rc) : JL (F.of g n_is_node (defScope s_is_node) (k + 2) [(tA g 0, ("is_node.<locals>.<lambda>" : Str))]) (defBody s_is_node) (b_is_node rc) := by
  have hb : 3 ≤ k + 2 := Nat.le_trans hb0 (Nat.le_add_right k 2)
  have hb1 : 3 ≤ k + 1 := Nat.le_trans hb0 (Nat.le_add_right k 1)
  have hrc := hrc0.mono (Nat.le_add_right k 2)
  exact (jl_cons (js_if (jb_w (jw_or (jb_not (jb_val (je_call ((ok_is_tuple T).mono (Nat.le_trans (Nat.le_of_ble_eq_true rfl) hb)) rfl T.mg_is_tuple (ja_cons (je_var (i := 0) rfl (Or.inl rfl)) (ja_cons je_int ja_nil)) (len_cons (len_cons len_nil))))) (jw_or1 (jb_not (jb_val (je_bfn (callF_isa T.io T.ei) rfl T.no_isinstance rfl (ja_cons (je_get (je_var (i := 0) rfl (Or.inl rfl)) je_int) (ja_cons (je_bty rfl T.no_str rfl) ja_nil)))))))) (jl_one (js_ret je_bl)) jl_nil) (jl_cons (js_if (jb_cmpF opF_eqD (je_get (je_var (i := 0) rfl (Or.inl rfl)) je_int) (je_gstr rfl T.mc_FILE)) (jl_one (js_ret (je_call ((ok_is_number T).mono (Nat.le_trans (Nat.le_of_ble_eq_true rfl) hb)) rfl T.mg_is_number (ja_cons (je_get (je_var (i := 0) rfl (Or.inl rfl)) je_int) ja_nil) (len_cons len_nil)))) jl_nil) (jl_cons (js_if (jb_cmpF opF_neD (je_get (je_var (i := 0) rfl (Or.inl rfl)) je_int) (je_gstr rfl T.mc_FOLDER)) (jl_one (js_ret je_bl)) jl_nil) (jl_one (js_ret (je_callL (js := [1]) (ok_are_pairs T (b := k + 1) (Nat.le_trans (Nat.le_of_ble_eq_true rfl) hb1) (TabF.one ((ok_is_word T).mono (Nat.le_trans (Nat.le_of_ble_eq_true rfl) hb1)) TabF.non) TabL.non TabF.non (TabL.one (lo0 T hb0 hrc0) TabL.non)) rfl T.mg_are_pairs (la0 T) (jal_cons (je_get (je_var (i := 0) rfl (Or.inl rfl)) je_int) (jal_cons (je_fn (f := 0) rfl T.mg_is_word) (jal_nil (la0 T) (by dsimp only [F.of]; rw [T.lm0]; rfl) (by dsimp only [F.of]; rw [T.lm0]; rfl) (by dsimp only [F.of]; rw [T.lm0]; rfl)))) (len_cons (len_cons len_nil)) (by dsimp only [F.of]; rw [T.lm0]; rfl)))))))
theorem ok_is_node : ∀ n, CallOk g (3 + 3 * n) (g.fa 5) ["value", "deep"] (c_is_node n)
  | 0 => by obtain ⟨fd, h1, h2, h3⟩ := T.fn_is_node; exact callOk_no h1 h2
  | n + 1 => by
    obtain ⟨fd, h1, h2, h3⟩ := T.fn_is_node
    have e : 3 + 3 * (n + 1) = 3 + 3 * n + 2 + 1 := by omega
    rw [e]
    exact callOk_of (N := n_is_node) h1 sc_is_node h2 (j_is_node T (Nat.le_add_right _ _) (ok_is_node n)) h3
theorem j_nodes_in {k : Nat} (hb0 : 1 ≤ k) {rc : CF} (hrc0 : CallOk g k (g.fa 7) ["node"] rc) : JL (F.of g n_nodes_in (defScope s_nodes_in) (k + 2)) (defBody s_nodes_in) (b_nodes_in rc) := by
  have hb : 1 ≤ k + 2 := Nat.le_trans hb0 (Nat.le_add_right k 2)
  have hb1 : 1 ≤ k + 1 := Nat.le_trans hb0 (Nat.le_add_right k 1)
  have hrc := hrc0.mono (Nat.le_add_right k 2)
  exact (jl_one (js_ret (je_if (jb_cmpF opF_eqD (je_get (je_var (i := 0) rfl (Or.inl rfl)) je_int) (je_gstr rfl T.mc_FILE)) je_int (je_bfn callF_sum rfl T.no_sum rfl (ja_cons (je_lc (own := [("name", 1), ("inner", 2)]) (cl := []) (ji_any (je_get (je_var (i := 0) rfl (Or.inl rfl)) je_int)) (by dsimp only [F.of, F.blk]; decide +kernel) (by decide +kernel) (jg_tup (n := 2) (jgs_cons (jg_name (i := 1) rfl (Or.inl rfl)) (jgs_cons (jg_name (i := 2) rfl (Or.inl rfl)) jgs_nil))) jt_nil (je_opF opF_add je_int (je_call hrc rfl T.mg_nodes_in (ja_cons (je_var (i := 2) rfl (Or.inl rfl)) ja_nil) (len_cons len_nil)))) ja_nil)))))
theorem ok_nodes_in : ∀ n, CallOk g (1 + 3 * n) (g.fa 7) ["node"] (c_nodes_in n)
  | 0 => by obtain ⟨fd, h1, h2⟩ := T.fn_nodes_in; exact callOk_no h1 h2
  | n + 1 => by
    obtain ⟨fd, h1, h2⟩ := T.fn_nodes_in
    have e : 1 + 3 * (n + 1) = 1 + 3 * n + 2 + 1 := by omega
    rw [e]
    exact callOk_of (N := n_nodes_in) h1 sc_nodes_in h2 (j_nodes_in T (Nat.le_add_right _ _) (ok_nodes_in n))
theorem j_numbers_in {k : Nat} (hb0 : 1 ≤ k) {rc : CF} (hrc0 : CallOk g k (g.fa 6) ["node"] rc) : JL (F.of g n_numbers_in (defScope s_numbers_in) (k + 2)) (defBody s_numbers_in) (b_numbers_in rc) := by
  have hb : 1 ≤ k + 2 := Nat.le_trans hb0 (Nat.le_add_right k 2)
  have hb1 : 1 ≤ k + 1 := Nat.le_trans hb0 (Nat.le_add_right k 1)
  have hrc := hrc0.mono (Nat.le_add_right k 2)
  exact (jl_cons (js_if (jb_cmpF opF_eqD (je_get (je_var (i := 0) rfl (Or.inl rfl)) je_int) (je_gstr rfl T.mc_FILE)) (jl_one (js_ret (je_lst (ja_cons (je_get (je_var (i := 0) rfl (Or.inl rfl)) je_int) ja_nil) (len_cons len_nil)))) jl_nil) (jl_one (js_ret (je_lc2 (own := [("name", 1), ("inner", 2), ("number", 3)]) (cl := []) (vs1 := [3]) (ji_any (je_get (je_var (i := 0) rfl (Or.inl rfl)) je_int)) (by dsimp only [F.of, F.blk]; decide +kernel) (by decide +kernel) (by decide +kernel) (jg_tup (n := 2) (jgs_cons (jg_name (i := 1) rfl (Or.inl rfl)) (jgs_cons (jg_name (i := 2) rfl (Or.inl rfl)) jgs_nil))) jt_nil (ji_any (je_call hrc rfl T.mg_numbers_in (ja_cons (je_var (i := 2) rfl (Or.inl rfl)) ja_nil) (len_cons len_nil))) (jg_name (i := 3) rfl (Or.inl rfl)) jt_nil (je_var (i := 3) rfl (Or.inl rfl))))))
theorem ok_numbers_in : ∀ n, CallOk g (1 + 3 * n) (g.fa 6) ["node"] (c_numbers_in n)
  | 0 => by obtain ⟨fd, h1, h2⟩ := T.fn_numbers_in; exact callOk_no h1 h2
  | n + 1 => by
    obtain ⟨fd, h1, h2⟩ := T.fn_numbers_in
    have e : 1 + 3 * (n + 1) = 1 + 3 * n + 2 + 1 := by omega
    rw [e]
    exact callOk_of (N := n_numbers_in) h1 sc_numbers_in h2 (j_numbers_in T (Nat.le_add_right _ _) (ok_numbers_in n))
theorem j_is_tree : JL (F.of g n_is_tree (defScope s_is_tree) 12) (defBody s_is_tree) b_is_tree := by
  have hb : 12 ≤ 12 := Nat.le_refl _
  exact (jl_cons (js_if (jb_w (jw_or (jb_not (jb_val (je_call ((ok_is_tuple T).mono (Nat.le_trans (Nat.le_of_ble_eq_true rfl) hb)) rfl T.mg_is_tuple (ja_cons (je_var (i := 0) rfl (Or.inl rfl)) (ja_cons je_int ja_nil)) (len_cons (len_cons len_nil))))) (jw_or (jb_not (jb_val (je_call ((ok_is_node T 3).mono (Nat.le_trans (Nat.le_of_ble_eq_true rfl) hb)) rfl T.mg_is_node (ja_cons (je_get (je_var (i := 0) rfl (Or.inl rfl)) je_int) (ja_cons (je_gint rfl T.mc_MOST_DEEP) ja_nil)) (len_cons (len_cons len_nil))))) (jw_or1 (jb_cmpF opF_neD (je_get (je_get (je_var (i := 0) rfl (Or.inl rfl)) je_int) je_int) (je_gstr rfl T.mc_FOLDER)))))) (jl_one (js_ret je_bl)) jl_nil) (jl_cons (js_if (jb_w (jw_or (jb_cmpF opF_gt (je_call ((ok_nodes_in T 3).mono (Nat.le_trans (Nat.le_of_ble_eq_true rfl) hb)) rfl T.mg_nodes_in (ja_cons (je_get (je_var (i := 0) rfl (Or.inl rfl)) je_int) ja_nil) (len_cons len_nil)) (je_gint rfl T.mc_MOST_NODES)) (jw_or1 (jb_not (jb_val (je_call ((ok_are_pairs T (b := 2) (Nat.le_of_ble_eq_true rfl) (TabF.one ((ok_is_number T).mono (Nat.le_of_ble_eq_true rfl)) TabF.non) TabL.non (TabF.one ((ok_is_word T).mono (Nat.le_of_ble_eq_true rfl)) TabF.non) TabL.non).mono (Nat.le_trans (Nat.le_of_ble_eq_true rfl) hb)) rfl T.mg_are_pairs (ja_cons (je_get (je_var (i := 0) rfl (Or.inl rfl)) je_int) (ja_cons (je_fn (f := 1) rfl T.mg_is_number) (ja_cons (je_fn (f := 0) rfl T.mg_is_word) ja_nil))) (len_cons (len_cons (len_cons len_nil))))))))) (jl_one (js_ret je_bl)) jl_nil) (jl_one (js_ret (je_cmpF opF_eqD (je_lc (own := [("number", 1), ("word", 2)]) (cl := []) (ji_any (je_get (je_var (i := 0) rfl (Or.inl rfl)) je_int)) (by dsimp only [F.of, F.blk]; decide +kernel) (by decide +kernel) (jg_tup (n := 2) (jgs_cons (jg_name (i := 1) rfl (Or.inl rfl)) (jgs_cons (jg_name (i := 2) rfl (Or.inl rfl)) jgs_nil))) jt_nil (je_var (i := 1) rfl (Or.inl rfl))) (je_sortI rfl T.no_sorted (jsi_set rfl T.no_set (ja_cons (je_call ((ok_numbers_in T 3).mono (Nat.le_trans (Nat.le_of_ble_eq_true rfl) hb)) rfl T.mg_numbers_in (ja_cons (je_get (je_var (i := 0) rfl (Or.inl rfl)) je_int) ja_nil) (len_cons len_nil)) ja_nil))))))))
theorem ok_is_tree : CallOk g 13 (g.fa 8) ["value"] c_is_tree := by
  obtain ⟨fd, h1, h2⟩ := T.fn_is_tree
  exact callOk_of (N := n_is_tree) h1 sc_is_tree h2 (j_is_tree T)
theorem j_need_tree : JL (F.of g n_need_tree (defScope s_need_tree) 13) (defBody s_need_tree) b_need_tree := by
  have hb : 13 ≤ 13 := Nat.le_refl _
  exact (jl_cons (js_if (jb_not (jb_val (je_call ((ok_is_tree T).mono (Nat.le_trans (Nat.le_of_ble_eq_true rfl) hb)) rfl T.mg_is_tree (ja_cons (je_var (i := 0) rfl (Or.inl rfl)) ja_nil) (len_cons len_nil)))) (jl_one (js_raise1 T.x_BadTree T.rs_BadTree rfl rfl T.mg_BadTree (je_var (i := 0) rfl (Or.inl rfl)))) jl_nil) (jl_one (js_ret (je_var (i := 0) rfl (Or.inl rfl)))))
theorem ok_need_tree : CallOk g 14 (g.fa 9) ["tree"] c_need_tree := by
  obtain ⟨fd, h1, h2⟩ := T.fn_need_tree
  exact callOk_of (N := n_need_tree) h1 sc_need_tree h2 (j_need_tree T)
theorem j_law : JL (F.of g n_law (defScope s_law) 14) (defBody s_law) b_law := by
  have hb : 14 ≤ 14 := Nat.le_refl _
  exact (jl_cons (js_set (i := 1) rfl (Or.inl rfl) (je_call ((ok_law_begun T).mono (Nat.le_trans (Nat.le_of_ble_eq_true rfl) hb)) rfl T.mg_law_begun (ja_cons (je_var (i := 0) rfl (Or.inl rfl)) ja_nil) (len_cons len_nil))) (jl_cons (js_for (vs := [2]) (ji_rng1 rfl T.no_range (ja_cons je_int ja_nil)) (jg_name (i := 2) rfl (Or.inl rfl)) (jl_one (js_if (jb_not (jb_val (je_call ((ok_law_each_right T).mono (Nat.le_trans (Nat.le_of_ble_eq_true rfl) hb)).iso rfl T.mg_law_each_right (ja_cons (je_get (je_lst (ja_cons je_non (ja_cons je_int (ja_cons je_int (ja_cons (je_tup (ja_cons je_int (ja_cons je_int ja_nil)) (len_cons (len_cons len_nil))) (ja_cons je_str (ja_cons (je_lst (ja_cons je_int ja_nil) (len_cons len_nil)) (ja_cons je_emp (ja_cons (je_opF opF_pow je_int je_int) ja_nil)))))))) (len_cons (len_cons (len_cons (len_cons (len_cons (len_cons (len_cons (len_cons len_nil))))))))) (je_call ((ok_law_draw T).mono (Nat.le_trans (Nat.le_of_ble_eq_true rfl) hb)) rfl T.mg_law_draw (ja_cons (je_var (i := 1) rfl (Or.inl rfl)) (ja_cons je_int ja_nil)) (len_cons (len_cons len_nil)))) ja_nil) (len_cons len_nil)))) (jl_one (js_ret je_bl)) jl_nil))) (jl_cons (js_set (i := 3) rfl (Or.inl rfl) (je_tup (ja_cons (je_tup (ja_cons je_str (ja_cons (je_tup ja_nil len_nil) ja_nil)) (len_cons (len_cons len_nil))) (ja_cons (je_tup ja_nil len_nil) ja_nil)) (len_cons (len_cons len_nil)))) (jl_one (js_ret (je_cmpF opF_eqD (je_call ((ok_need_tree T).mono (Nat.le_trans (Nat.le_of_ble_eq_true rfl) hb)).iso rfl T.mg_need_tree (ja_cons (je_var (i := 3) rfl (Or.inl rfl)) ja_nil) (len_cons len_nil)) (je_var (i := 3) rfl (Or.inl rfl))))))))
theorem ok_law : CallOk g 15 (g.fa 15) ["_law_script"] c_law := by
  obtain ⟨fd, h1, h2⟩ := T.fn_law
  exact callOk_of (N := n_law) h1 sc_law h2 (j_law T)
end
end Sm

/-! K30b: the law's answer, over the codes -/
namespace Sm
open PySem PySem.Spec PyProof.Rows L2
def items8 : List D := [.non, .int 0, .int 7, .tup [.int 1, .int 2], .str "x", .lst [.int 3], .dct [] [], .int (10 ^ 40)]
theorem each_all : (items8.all fun q => pureDs [q] && saysT (c_law_each_right [q] [])) = true := by decide +kernel
theorem each_ok {q : D} (h : q ∈ items8) (A : HA) : isoF c_law_each_right [q] A = .ok (.bl true) A := by
  have := List.all_eq_true.mp each_all q h
  rw [Bool.and_eq_true] at this
  exact iso_T this.1 this.2 A
def tree0 : D := .tup [.tup [.str "folder", .tup []], .tup []]
def isTree0 : R D → Bool
  | .ok (.tup [.tup [.str x, .tup []], .tup []]) _ => x == "folder"
  | _ => false
theorem need_ok : isTree0 (c_need_tree [tree0] []) = true := by decide +kernel
theorem need_run (A : HA) : isoF c_need_tree [tree0] A = .ok tree0 A := by
  have h := need_ok
  unfold isTree0 at h
  split at h
  · rename_i x A0 e
    have ex : x = "folder" := eq_of_beq h
    subst ex
    exact iso_ok rfl e rfl
  · cases h
theorem law_run (ns : List Int) : ∃ A', c_law [.lst (ns.map .int)] [] = .ok (.bl true) A' := by
  obtain ⟨A4, hb, dr, l4⟩ := begun_ok ns
  have e0 : startA 4 [.lst (ns.map .int)] = [some (.lst (ns.map .int)), none, none, none] := rfl
  have body : ∃ A', b_law [some (.lst (ns.map .int)), none, none, none] [] = .rt (.bl true) A' := by
    unfold b_law
    rw [cSeq_nx (ev_set ((ev_call1 (c := c_law_begun) (ev_var (i := 0) (d := .lst (ns.map .int)) rfl)).trans hb))]
    let E1 : SA := [some (.lst (ns.map .int)), some (.ref 2), none, none]
    show ∃ A', cSeq _ _ E1 A4 = _
    have hr : iRng1 (cCons (cC (.int 4)) cNil) E1 A4 = .ok (.fix (intsD 0 4)) A4 := iRng1_ok (j := 4) rfl (by decide) (by decide)
    let Inv : Nat → SA → HA → Prop := fun i E A => (∃ t, E = [some (.lst (ns.map .int)), some (.ref 2), t, none]) ∧ Drawn A 2 0 3 (i : Int)
    refine seq_run (for_run Inv hr ⟨⟨_, rfl⟩, dr⟩ ?_) fun E2 A2 iv => ?_
    · intro i d E A hd inv
      obtain ⟨⟨t, rfl⟩, dr⟩ := inv
      have hi : i < 4 := by
        have := (List.getElem?_eq_some_iff.mp hd).1
        simpa [intsD] using this
      obtain ⟨r, A5, h5, r0, r1, dr5, _, _⟩ := draw_ok dr (by omega) 8 (by decide) (by decide)
      obtain ⟨ix, rfl⟩ : ∃ i : Nat, r = (i : Int) := ⟨r.toNat, by omega⟩
      have len8 : items8.length = 8 := rfl
      obtain ⟨q, hq⟩ : ∃ q, items8[ix]? = some q := ⟨_, List.getElem?_eq_getElem (by rw [len8]; omega)⟩
      let E0 : SA := [some (.lst (ns.map .int)), some (.ref 2), some d, none]
      refine ⟨E0, A, E0, A5, rfl, .inl ?_, ⟨_, rfl⟩, by
        have e : ((i + 1 : Nat) : Int) = (i : Int) + 1 := by omega
        rw [e]; exact dr5⟩
      refine ifF_nx' (ev_not (b := true) (ev_cB (ev_call1 (c := isoF c_law_each_right) ?_ |>.trans (each_ok (List.mem_of_getElem? hq) A5))))
      have hl : cLst (cCons (cC .non) (cCons (cC (.int 0)) (cCons (cC (.int 7)) (cCons (cTup (cCons (cC (.int 1)) (cCons (cC (.int 2)) cNil))) (cCons (cC (.str "x")) (cCons (cLst (cCons (cC (.int 3)) cNil)) (cCons cEmp (cCons (c2 pPow (cC (.int 10)) (cC (.int 40))) cNil)))))))) E0 A = .ok (.lst items8) A := rfl
      exact (ev_c2 hl ((ev_call2 (c := c_law_draw) (ca := cVar 1) (cb := cC (.int 8)) (E := E0) (A := A) (A1 := A) (A2 := A) (d := .ref 2) (e := .int 8) rfl rfl).trans h5)).trans (get_at hq A5)
    · obtain ⟨⟨t, rfl⟩, _⟩ := iv
      let E3 : SA := [some (.lst (ns.map .int)), some (.ref 2), t, some tree0]
      have s3 : cSet 3 (cTup (cCons (cTup (cCons (cC (.str "folder")) (cCons (cTup cNil) cNil))) (cCons (cTup cNil) cNil))) [some (.lst (ns.map .int)), some (.ref 2), t, none] A2 = .nx E3 A2 := rfl
      rw [cSeq_nx s3]
      refine ⟨A2, ev_ret ((ev_c2 ((ev_call1 (c := isoF c_need_tree) (ev_var (i := 3) (E := E3) (d := tree0) rfl)).trans (need_run A2)) (ev_var (i := 3) (E := E3) (d := tree0) rfl)).trans rfl)⟩
  obtain ⟨A', h⟩ := body
  refine ⟨A', ?_⟩
  unfold c_law runB
  rw [e0, h]
end Sm

namespace Sm
open PySem PySem.Spec PyProof.Rows L2
theorem all_mk {w : World} {K : PySem.W.Frag} {h : Heap} {mg : Str → Option Value} {fa : Addr} (X : K.In h) (GN : h.Ns mainGlobals mg) (hfa : mg "law" = some (.ref fa)) {ts : List Addr}
    (ht : ∀ P ∈ ts, h.get? P = some (PySem.W.tabObj #[]))
    {f0 f1 f2 f3 f4 f5 f6 f7 f8 f9 f10 f11 f12 f13 f14 f15 C0 C1 C2 C3 C4 C5 C6 C7 : Addr} {od0 an0 : Option Addr} {sl0 : Array (Option Value)} {oc0 kV0 dc0 pm0 cd0 ct0 : Value} {od1 an1 : Option Addr} {sl1 : Array (Option Value)} {oc1 kV1 dc1 pm1 cd1 ct1 : Value} {od2 an2 : Option Addr} {sl2 : Array (Option Value)} {oc2 kV2 dc2 pm2 cd2 ct2 : Value} {od3 an3 : Option Addr} {sl3 : Array (Option Value)} {oc3 kV3 dc3 pm3 cd3 ct3 : Value} {od4 an4 : Option Addr} {sl4 : Array (Option Value)} {oc4 kV4 dc4 pm4 cd4 ct4 : Value} {od5 an5 : Option Addr} {sl5 : Array (Option Value)} {oc5 kV5 dc5 pm5 ct5 : Value} {cA5 P5 : Addr} {co5 : Value} {zd5 : Option Addr} {vc5 : Array Value} {zs5 : Array (Option Value)} {od6 an6 : Option Addr} {sl6 : Array (Option Value)} {oc6 kV6 dc6 pm6 cd6 ct6 : Value} {od7 an7 : Option Addr} {sl7 : Array (Option Value)} {oc7 kV7 dc7 pm7 cd7 ct7 : Value} {od8 an8 : Option Addr} {sl8 : Array (Option Value)} {oc8 kV8 dc8 pm8 cd8 ct8 : Value} {od9 an9 : Option Addr} {sl9 : Array (Option Value)} {oc9 kV9 dc9 pm9 cd9 ct9 : Value} {od10 an10 : Option Addr} {sl10 : Array (Option Value)} {oc10 kV10 dc10 pm10 cd10 ct10 : Value} {od11 an11 : Option Addr} {sl11 : Array (Option Value)} {oc11 kV11 dc11 pm11 cd11 ct11 : Value} {od12 an12 : Option Addr} {sl12 : Array (Option Value)} {oc12 kV12 dc12 pm12 cd12 ct12 : Value} {od13 an13 : Option Addr} {sl13 : Array (Option Value)} {oc13 kV13 dc13 pm13 cd13 ct13 : Value} {od14 an14 : Option Addr} {sl14 : Array (Option Value)} {oc14 kV14 dc14 pm14 cd14 ct14 : Value} {od15 an15 : Option Addr} {sl15 : Array (Option Value)} {oc15 kV15 dc15 pm15 cd15 ct15 : Value} {tk_FILE : Tok} {tk_FOLDER : Tok} {tk_LETTERS : Tok} {tk_MOST_DEEP : Tok} {tk_MOST_LETTERS : Tok} {tk_MOST_NODES : Tok} {tk_MOST_NUMBER : Tok} {fx1 cda1 cc1 : Addr} {oc_1 kV_1 dc_1 pm_1 ct_1 ccl1 cl1 : Value} {od_1 an_1 cdd1 cld1 : Option Addr} {osl1 ccs1 csl1 : Array (Option Value)} {vs1 : Array Value} {fi1 : Str} {tf1 : Tok} {cD1 : ClassData} {gt1 : Option Value} {fx2 cda2 cc2 : Addr} {oc_2 kV_2 dc_2 pm_2 ct_2 ccl2 cl2 : Value} {od_2 an_2 cdd2 cld2 : Option Addr} {osl2 ccs2 csl2 : Array (Option Value)} {vs2 : Array Value} {fi2 : Str} {tf2 : Tok} {cD2 : ClassData} {gt2 : Option Value} {fx3 cda3 cc3 : Addr} {oc_3 kV_3 dc_3 pm_3 ct_3 ccl3 cl3 : Value} {od_3 an_3 cdd3 cld3 : Option Addr} {osl3 ccs3 csl3 : Array (Option Value)} {vs3 : Array Value} {fi3 : Str} {tf3 : Tok} {cD3 : ClassData} {gt3 : Option Value} {fx4 cda4 cc4 : Addr} {oc_4 kV_4 dc_4 pm_4 ct_4 ccl4 cl4 : Value} {od_4 an_4 cdd4 cld4 : Option Addr} {osl4 ccs4 csl4 : Array (Option Value)} {vs4 : Array Value} {fi4 : Str} {tf4 : Tok} {cD4 : ClassData} {gt4 : Option Value} {fx5 cda5 cc5 : Addr} {oc_5 kV_5 dc_5 pm_5 ct_5 ccl5 cl5 : Value} {od_5 an_5 cdd5 cld5 : Option Addr} {osl5 ccs5 csl5 : Array (Option Value)} {vs5 : Array Value} {fi5 : Str} {tf5 : Tok} {cD5 : ClassData} {gt5 : Option Value} {fx6 cda6 cc6 : Addr} {oc_6 kV_6 dc_6 pm_6 ct_6 ccl6 cl6 : Value} {od_6 an_6 cdd6 cld6 : Option Addr} {osl6 ccs6 csl6 : Array (Option Value)} {vs6 : Array Value} {fi6 : Str} {tf6 : Tok} {cD6 : ClassData} {gt6 : Option Value} {fx7 cda7 cc7 : Addr} {oc_7 kV_7 dc_7 pm_7 ct_7 ccl7 cl7 : Value} {od_7 an_7 cdd7 cld7 : Option Addr} {osl7 ccs7 csl7 : Array (Option Value)} {vs7 : Array Value} {fi7 : Str} {tf7 : Tok} {cD7 : ClassData} {gt7 : Option Value}
    (a0 : PySem.W.nsIn K mainGlobals "is_word" = some (some (.ref f0)))
    (l0 : K.lookup f0 = some ⟨oc0, od0, .func (PySem.W.fnOf "is_word" "is_word" (defArgs s_is_word) (defBody s_is_word) (defScope s_is_word) .none kV0 dc0 pm0 an0 cd0 ct0), sl0⟩)
    (c0 : PySem.W.codeIn K cd0 "is_word" = true)
    (k0 : PySem.W.keepIn K (.ref f0) = true)
    (a1 : PySem.W.nsIn K mainGlobals "is_number" = some (some (.ref f1)))
    (l1 : K.lookup f1 = some ⟨oc1, od1, .func (PySem.W.fnOf "is_number" "is_number" (defArgs s_is_number) (defBody s_is_number) (defScope s_is_number) .none kV1 dc1 pm1 an1 cd1 ct1), sl1⟩)
    (c1 : PySem.W.codeIn K cd1 "is_number" = true)
    (k1 : PySem.W.keepIn K (.ref f1) = true)
    (a2 : PySem.W.nsIn K mainGlobals "is_tuple" = some (some (.ref f2)))
    (l2 : K.lookup f2 = some ⟨oc2, od2, .func (PySem.W.fnOf "is_tuple" "is_tuple" (defArgs s_is_tuple) (defBody s_is_tuple) (defScope s_is_tuple) .none kV2 dc2 pm2 an2 cd2 ct2), sl2⟩)
    (c2 : PySem.W.codeIn K cd2 "is_tuple" = true)
    (k2 : PySem.W.keepIn K (.ref f2) = true)
    (a3 : PySem.W.nsIn K mainGlobals "are_rising" = some (some (.ref f3)))
    (l3 : K.lookup f3 = some ⟨oc3, od3, .func (PySem.W.fnOf "are_rising" "are_rising" (defArgs s_are_rising) (defBody s_are_rising) (defScope s_are_rising) .none kV3 dc3 pm3 an3 cd3 ct3), sl3⟩)
    (c3 : PySem.W.codeIn K cd3 "are_rising" = true)
    (k3 : PySem.W.keepIn K (.ref f3) = true)
    (a4 : PySem.W.nsIn K mainGlobals "are_pairs" = some (some (.ref f4)))
    (l4 : K.lookup f4 = some ⟨oc4, od4, .func (PySem.W.fnOf "are_pairs" "are_pairs" (defArgs s_are_pairs) (defBody s_are_pairs) (defScope s_are_pairs) .none kV4 dc4 pm4 an4 cd4 ct4), sl4⟩)
    (c4 : PySem.W.codeIn K cd4 "are_pairs" = true)
    (k4 : PySem.W.keepIn K (.ref f4) = true)
    (a5 : PySem.W.nsIn K mainGlobals "is_node" = some (some (.ref f5)))
    (l5 : K.lookup f5 = some ⟨oc5, od5, .func (PySem.W.fnOf "is_node" "is_node" (defArgs s_is_node) (defBody s_is_node) (defScope s_is_node) .none kV5 dc5 pm5 an5 (.ref cA5) ct5), sl5⟩)
    (c5 : PySem.W.codeIn K (.ref cA5) "is_node" = true)
    (w5 : K.lookup cA5 = some ⟨co5, zd5, .fields vc5, zs5⟩)
    (e5 : vc5[11]? = some (.ref P5))
    (t5 : PySem.W.codeHdIn K cA5 P5 = true)
    (u5 : K.lookup P5 = none)
    (v5 : P5 ∈ ts)
    (k5 : PySem.W.keepIn K (.ref f5) = true)
    (a6 : PySem.W.nsIn K mainGlobals "numbers_in" = some (some (.ref f6)))
    (l6 : K.lookup f6 = some ⟨oc6, od6, .func (PySem.W.fnOf "numbers_in" "numbers_in" (defArgs s_numbers_in) (defBody s_numbers_in) (defScope s_numbers_in) .none kV6 dc6 pm6 an6 cd6 ct6), sl6⟩)
    (c6 : PySem.W.codeIn K cd6 "numbers_in" = true)
    (k6 : PySem.W.keepIn K (.ref f6) = true)
    (a7 : PySem.W.nsIn K mainGlobals "nodes_in" = some (some (.ref f7)))
    (l7 : K.lookup f7 = some ⟨oc7, od7, .func (PySem.W.fnOf "nodes_in" "nodes_in" (defArgs s_nodes_in) (defBody s_nodes_in) (defScope s_nodes_in) .none kV7 dc7 pm7 an7 cd7 ct7), sl7⟩)
    (c7 : PySem.W.codeIn K cd7 "nodes_in" = true)
    (k7 : PySem.W.keepIn K (.ref f7) = true)
    (a8 : PySem.W.nsIn K mainGlobals "is_tree" = some (some (.ref f8)))
    (l8 : K.lookup f8 = some ⟨oc8, od8, .func (PySem.W.fnOf "is_tree" "is_tree" (defArgs s_is_tree) (defBody s_is_tree) (defScope s_is_tree) .none kV8 dc8 pm8 an8 cd8 ct8), sl8⟩)
    (c8 : PySem.W.codeIn K cd8 "is_tree" = true)
    (k8 : PySem.W.keepIn K (.ref f8) = true)
    (a9 : PySem.W.nsIn K mainGlobals "need_tree" = some (some (.ref f9)))
    (l9 : K.lookup f9 = some ⟨oc9, od9, .func (PySem.W.fnOf "need_tree" "need_tree" (defArgs s_need_tree) (defBody s_need_tree) (defScope s_need_tree) .none kV9 dc9 pm9 an9 cd9 ct9), sl9⟩)
    (c9 : PySem.W.codeIn K cd9 "need_tree" = true)
    (k9 : PySem.W.keepIn K (.ref f9) = true)
    (a10 : PySem.W.nsIn K mainGlobals "_law_mixed" = some (some (.ref f10)))
    (l10 : K.lookup f10 = some ⟨oc10, od10, .func (PySem.W.fnOf "_law_mixed" "_law_mixed" (defArgs s_law_mixed) (defBody s_law_mixed) (defScope s_law_mixed) .none kV10 dc10 pm10 an10 cd10 ct10), sl10⟩)
    (c10 : PySem.W.codeIn K cd10 "_law_mixed" = true)
    (k10 : PySem.W.keepIn K (.ref f10) = true)
    (a11 : PySem.W.nsIn K mainGlobals "_law_folded" = some (some (.ref f11)))
    (l11 : K.lookup f11 = some ⟨oc11, od11, .func (PySem.W.fnOf "_law_folded" "_law_folded" (defArgs s_law_folded) (defBody s_law_folded) (defScope s_law_folded) .none kV11 dc11 pm11 an11 cd11 ct11), sl11⟩)
    (c11 : PySem.W.codeIn K cd11 "_law_folded" = true)
    (k11 : PySem.W.keepIn K (.ref f11) = true)
    (a12 : PySem.W.nsIn K mainGlobals "_law_draw" = some (some (.ref f12)))
    (l12 : K.lookup f12 = some ⟨oc12, od12, .func (PySem.W.fnOf "_law_draw" "_law_draw" (defArgs s_law_draw) (defBody s_law_draw) (defScope s_law_draw) .none kV12 dc12 pm12 an12 cd12 ct12), sl12⟩)
    (c12 : PySem.W.codeIn K cd12 "_law_draw" = true)
    (k12 : PySem.W.keepIn K (.ref f12) = true)
    (a13 : PySem.W.nsIn K mainGlobals "_law_begun" = some (some (.ref f13)))
    (l13 : K.lookup f13 = some ⟨oc13, od13, .func (PySem.W.fnOf "_law_begun" "_law_begun" (defArgs s_law_begun) (defBody s_law_begun) (defScope s_law_begun) .none kV13 dc13 pm13 an13 cd13 ct13), sl13⟩)
    (c13 : PySem.W.codeIn K cd13 "_law_begun" = true)
    (k13 : PySem.W.keepIn K (.ref f13) = true)
    (a14 : PySem.W.nsIn K mainGlobals "_law_each_right" = some (some (.ref f14)))
    (l14 : K.lookup f14 = some ⟨oc14, od14, .func (PySem.W.fnOf "_law_each_right" "_law_each_right" (defArgs s_law_each_right) (defBody s_law_each_right) (defScope s_law_each_right) .none kV14 dc14 pm14 an14 cd14 ct14), sl14⟩)
    (c14 : PySem.W.codeIn K cd14 "_law_each_right" = true)
    (k14 : PySem.W.keepIn K (.ref f14) = true)
    (a15 : PySem.W.nsIn K mainGlobals "law" = some (some (.ref f15)))
    (l15 : K.lookup f15 = some ⟨oc15, od15, .func (PySem.W.fnOf "law" "law" (defArgs s_law) (defBody s_law) (defScope s_law) .none kV15 dc15 pm15 an15 cd15 ct15), sl15⟩)
    (c15 : PySem.W.codeIn K cd15 "law" = true)
    (k15 : PySem.W.keepIn K (.ref f15) = true)
    (mc_FILE : PySem.W.nsIn K mainGlobals "FILE" = some (some (.str "file" tk_FILE)))
    (mc_FOLDER : PySem.W.nsIn K mainGlobals "FOLDER" = some (some (.str "folder" tk_FOLDER)))
    (mc_LETTERS : PySem.W.nsIn K mainGlobals "LETTERS" = some (some (.str "abcdefghijklmnopqrstuvwxyz" tk_LETTERS)))
    (mc_MOST_DEEP : PySem.W.nsIn K mainGlobals "MOST_DEEP" = some (some (.int 6 tk_MOST_DEEP)))
    (mc_MOST_LETTERS : PySem.W.nsIn K mainGlobals "MOST_LETTERS" = some (some (.int 8 tk_MOST_LETTERS)))
    (mc_MOST_NODES : PySem.W.nsIn K mainGlobals "MOST_NODES" = some (some (.int 60 tk_MOST_NODES)))
    (mc_MOST_NUMBER : PySem.W.nsIn K mainGlobals "MOST_NUMBER" = some (some (.int 99 tk_MOST_NUMBER)))
    (A0 : PySem.W.nsIn K mainGlobals "PileError" = some (some (.ref C0)))
    (A1 : PySem.W.nsIn K mainGlobals "BadTree" = some (some (.ref C1)))
    (A2 : PySem.W.nsIn K mainGlobals "BadPath" = some (some (.ref C2)))
    (A3 : PySem.W.nsIn K mainGlobals "BadUpper" = some (some (.ref C3)))
    (A4 : PySem.W.nsIn K mainGlobals "BadBook" = some (some (.ref C4)))
    (A5 : PySem.W.nsIn K mainGlobals "BadDeed" = some (some (.ref C5)))
    (A6 : PySem.W.nsIn K mainGlobals "BadRow" = some (some (.ref C6)))
    (A7 : PySem.W.nsIn K mainGlobals "Refused" = some (some (.ref C7)))
    (q_1 : PySem.W.excInitIn K C1 veT "ValueError.__new__" = true)
    (i_1 : PySem.W.findIn K (.ref C1) "__init__" = some (some (.ref fx1)))
    (l_1 : K.lookup fx1 = some ⟨oc_1, od_1, .func (PySem.W.ksFn "__init__" "BadTree.__init__" (defArgs (inClass (top 2) 0)) (defBody (inClass (top 2) 0)) (defScope (inClass (top 2) 0)) .none kV_1 dc_1 pm_1 an_1 (.ref cda1) ct_1 cc1), osl1⟩)
    (c_1 : PySem.W.codeIn K (.ref cda1) "BadTree.__init__" = true)
    (d_1 : K.lookup cda1 = some ⟨ccl1, cdd1, .fields vs1, ccs1⟩)
    (v_1 : vs1[2]? = some (.str fi1 tf1))
    (m_1 : ((PySem.Challenge.pw_piledtrees_k30_exceptions_of_the_first_p.main.file : Str) == fi1) = true)
    (e_1 : K.lookup cc1 = some ⟨cl1, cld1, .cell (some (.ref C1)), csl1⟩)
    (D_1 : PySem.W.clsIn K C1 = some cD1)
    (r_1 : PySem.HandSPX.refsVE cD1.mro = true)
    (H_1 : cD1.hasDict = true)
    (s_1 : PySem.W.mroIn K C1 (.ref C1) = some true)
    (u_1 : PySem.W.ks_superIn K C1 C1 "__init__" = some (some (.builtin "ValueError.__init__")))
    (V_1 : PySem.W.subIn K (.ref C1) (.type "ValueError") = some true)
    (S_1 : PySem.W.findIn K (.ref C1) "__setattr__" = some (some (.builtin "object.__setattr__")))
    (y_1 : PySem.W.typeIn K (.ref fx1) = some (.type "function"))
    (n_1 : PySem.W.findIn K (.ref C1) "value" = some none)
    (Y_1 : PySem.W.typeIn K (.ref C1) = some (.type "type"))
    (k_1 : PySem.W.keepIn K (.ref C1) = true)
    (g_1 : PySem.W.findIn K (.ref C1) "__getattribute__" = some (some (.builtin "BaseException.__getattribute__")))
    (t_1 : PySem.W.findIn K (.ref C1) "__getattr__" = some gt1)
    (B_1 : PySem.W.subIn K (.ref C1) (.type "BaseException") = some true)
    (L_1 : PySem.W.findIn K (.ref C1) "__class__" = some (some (.builtin "object.__class__")))
    (O_1 : PySem.W.mroIn K C1 (.type "object") = some true)
    (W_1 : PySem.W.hasDictIn K C1 = true)
    (q_2 : PySem.W.excInitIn K C2 veT "ValueError.__new__" = true)
    (i_2 : PySem.W.findIn K (.ref C2) "__init__" = some (some (.ref fx2)))
    (l_2 : K.lookup fx2 = some ⟨oc_2, od_2, .func (PySem.W.ksFn "__init__" "BadPath.__init__" (defArgs (inClass (top 3) 0)) (defBody (inClass (top 3) 0)) (defScope (inClass (top 3) 0)) .none kV_2 dc_2 pm_2 an_2 (.ref cda2) ct_2 cc2), osl2⟩)
    (c_2 : PySem.W.codeIn K (.ref cda2) "BadPath.__init__" = true)
    (d_2 : K.lookup cda2 = some ⟨ccl2, cdd2, .fields vs2, ccs2⟩)
    (v_2 : vs2[2]? = some (.str fi2 tf2))
    (m_2 : ((PySem.Challenge.pw_piledtrees_k30_exceptions_of_the_first_p.main.file : Str) == fi2) = true)
    (e_2 : K.lookup cc2 = some ⟨cl2, cld2, .cell (some (.ref C2)), csl2⟩)
    (D_2 : PySem.W.clsIn K C2 = some cD2)
    (r_2 : PySem.HandSPX.refsVE cD2.mro = true)
    (H_2 : cD2.hasDict = true)
    (s_2 : PySem.W.mroIn K C2 (.ref C2) = some true)
    (u_2 : PySem.W.ks_superIn K C2 C2 "__init__" = some (some (.builtin "ValueError.__init__")))
    (V_2 : PySem.W.subIn K (.ref C2) (.type "ValueError") = some true)
    (S_2 : PySem.W.findIn K (.ref C2) "__setattr__" = some (some (.builtin "object.__setattr__")))
    (y_2 : PySem.W.typeIn K (.ref fx2) = some (.type "function"))
    (n_2 : PySem.W.findIn K (.ref C2) "value" = some none)
    (k_2 : PySem.W.keepIn K (.ref C2) = true)
    (g_2 : PySem.W.findIn K (.ref C2) "__getattribute__" = some (some (.builtin "BaseException.__getattribute__")))
    (t_2 : PySem.W.findIn K (.ref C2) "__getattr__" = some gt2)
    (B_2 : PySem.W.subIn K (.ref C2) (.type "BaseException") = some true)
    (L_2 : PySem.W.findIn K (.ref C2) "__class__" = some (some (.builtin "object.__class__")))
    (O_2 : PySem.W.mroIn K C2 (.type "object") = some true)
    (W_2 : PySem.W.hasDictIn K C2 = true)
    (q_3 : PySem.W.excInitIn K C3 veT "ValueError.__new__" = true)
    (i_3 : PySem.W.findIn K (.ref C3) "__init__" = some (some (.ref fx3)))
    (l_3 : K.lookup fx3 = some ⟨oc_3, od_3, .func (PySem.W.ksFn "__init__" "BadUpper.__init__" (defArgs (inClass (top 4) 0)) (defBody (inClass (top 4) 0)) (defScope (inClass (top 4) 0)) .none kV_3 dc_3 pm_3 an_3 (.ref cda3) ct_3 cc3), osl3⟩)
    (c_3 : PySem.W.codeIn K (.ref cda3) "BadUpper.__init__" = true)
    (d_3 : K.lookup cda3 = some ⟨ccl3, cdd3, .fields vs3, ccs3⟩)
    (v_3 : vs3[2]? = some (.str fi3 tf3))
    (m_3 : ((PySem.Challenge.pw_piledtrees_k30_exceptions_of_the_first_p.main.file : Str) == fi3) = true)
    (e_3 : K.lookup cc3 = some ⟨cl3, cld3, .cell (some (.ref C3)), csl3⟩)
    (D_3 : PySem.W.clsIn K C3 = some cD3)
    (r_3 : PySem.HandSPX.refsVE cD3.mro = true)
    (H_3 : cD3.hasDict = true)
    (s_3 : PySem.W.mroIn K C3 (.ref C3) = some true)
    (u_3 : PySem.W.ks_superIn K C3 C3 "__init__" = some (some (.builtin "ValueError.__init__")))
    (V_3 : PySem.W.subIn K (.ref C3) (.type "ValueError") = some true)
    (S_3 : PySem.W.findIn K (.ref C3) "__setattr__" = some (some (.builtin "object.__setattr__")))
    (y_3 : PySem.W.typeIn K (.ref fx3) = some (.type "function"))
    (n_3 : PySem.W.findIn K (.ref C3) "value" = some none)
    (k_3 : PySem.W.keepIn K (.ref C3) = true)
    (g_3 : PySem.W.findIn K (.ref C3) "__getattribute__" = some (some (.builtin "BaseException.__getattribute__")))
    (t_3 : PySem.W.findIn K (.ref C3) "__getattr__" = some gt3)
    (B_3 : PySem.W.subIn K (.ref C3) (.type "BaseException") = some true)
    (L_3 : PySem.W.findIn K (.ref C3) "__class__" = some (some (.builtin "object.__class__")))
    (O_3 : PySem.W.mroIn K C3 (.type "object") = some true)
    (W_3 : PySem.W.hasDictIn K C3 = true)
    (q_4 : PySem.W.excInitIn K C4 veT "ValueError.__new__" = true)
    (i_4 : PySem.W.findIn K (.ref C4) "__init__" = some (some (.ref fx4)))
    (l_4 : K.lookup fx4 = some ⟨oc_4, od_4, .func (PySem.W.ksFn "__init__" "BadBook.__init__" (defArgs (inClass (top 5) 0)) (defBody (inClass (top 5) 0)) (defScope (inClass (top 5) 0)) .none kV_4 dc_4 pm_4 an_4 (.ref cda4) ct_4 cc4), osl4⟩)
    (c_4 : PySem.W.codeIn K (.ref cda4) "BadBook.__init__" = true)
    (d_4 : K.lookup cda4 = some ⟨ccl4, cdd4, .fields vs4, ccs4⟩)
    (v_4 : vs4[2]? = some (.str fi4 tf4))
    (m_4 : ((PySem.Challenge.pw_piledtrees_k30_exceptions_of_the_first_p.main.file : Str) == fi4) = true)
    (e_4 : K.lookup cc4 = some ⟨cl4, cld4, .cell (some (.ref C4)), csl4⟩)
    (D_4 : PySem.W.clsIn K C4 = some cD4)
    (r_4 : PySem.HandSPX.refsVE cD4.mro = true)
    (H_4 : cD4.hasDict = true)
    (s_4 : PySem.W.mroIn K C4 (.ref C4) = some true)
    (u_4 : PySem.W.ks_superIn K C4 C4 "__init__" = some (some (.builtin "ValueError.__init__")))
    (V_4 : PySem.W.subIn K (.ref C4) (.type "ValueError") = some true)
    (S_4 : PySem.W.findIn K (.ref C4) "__setattr__" = some (some (.builtin "object.__setattr__")))
    (y_4 : PySem.W.typeIn K (.ref fx4) = some (.type "function"))
    (n_4 : PySem.W.findIn K (.ref C4) "place" = some none)
    (k_4 : PySem.W.keepIn K (.ref C4) = true)
    (g_4 : PySem.W.findIn K (.ref C4) "__getattribute__" = some (some (.builtin "BaseException.__getattribute__")))
    (t_4 : PySem.W.findIn K (.ref C4) "__getattr__" = some gt4)
    (B_4 : PySem.W.subIn K (.ref C4) (.type "BaseException") = some true)
    (L_4 : PySem.W.findIn K (.ref C4) "__class__" = some (some (.builtin "object.__class__")))
    (O_4 : PySem.W.mroIn K C4 (.type "object") = some true)
    (W_4 : PySem.W.hasDictIn K C4 = true)
    (q_5 : PySem.W.excInitIn K C5 veT "ValueError.__new__" = true)
    (i_5 : PySem.W.findIn K (.ref C5) "__init__" = some (some (.ref fx5)))
    (l_5 : K.lookup fx5 = some ⟨oc_5, od_5, .func (PySem.W.ksFn "__init__" "BadDeed.__init__" (defArgs (inClass (top 6) 0)) (defBody (inClass (top 6) 0)) (defScope (inClass (top 6) 0)) .none kV_5 dc_5 pm_5 an_5 (.ref cda5) ct_5 cc5), osl5⟩)
    (c_5 : PySem.W.codeIn K (.ref cda5) "BadDeed.__init__" = true)
    (d_5 : K.lookup cda5 = some ⟨ccl5, cdd5, .fields vs5, ccs5⟩)
    (v_5 : vs5[2]? = some (.str fi5 tf5))
    (m_5 : ((PySem.Challenge.pw_piledtrees_k30_exceptions_of_the_first_p.main.file : Str) == fi5) = true)
    (e_5 : K.lookup cc5 = some ⟨cl5, cld5, .cell (some (.ref C5)), csl5⟩)
    (D_5 : PySem.W.clsIn K C5 = some cD5)
    (r_5 : PySem.HandSPX.refsVE cD5.mro = true)
    (H_5 : cD5.hasDict = true)
    (s_5 : PySem.W.mroIn K C5 (.ref C5) = some true)
    (u_5 : PySem.W.ks_superIn K C5 C5 "__init__" = some (some (.builtin "ValueError.__init__")))
    (V_5 : PySem.W.subIn K (.ref C5) (.type "ValueError") = some true)
    (S_5 : PySem.W.findIn K (.ref C5) "__setattr__" = some (some (.builtin "object.__setattr__")))
    (y_5 : PySem.W.typeIn K (.ref fx5) = some (.type "function"))
    (n_5 : PySem.W.findIn K (.ref C5) "value" = some none)
    (k_5 : PySem.W.keepIn K (.ref C5) = true)
    (g_5 : PySem.W.findIn K (.ref C5) "__getattribute__" = some (some (.builtin "BaseException.__getattribute__")))
    (t_5 : PySem.W.findIn K (.ref C5) "__getattr__" = some gt5)
    (B_5 : PySem.W.subIn K (.ref C5) (.type "BaseException") = some true)
    (L_5 : PySem.W.findIn K (.ref C5) "__class__" = some (some (.builtin "object.__class__")))
    (O_5 : PySem.W.mroIn K C5 (.type "object") = some true)
    (W_5 : PySem.W.hasDictIn K C5 = true)
    (q_6 : PySem.W.excInitIn K C6 veT "ValueError.__new__" = true)
    (i_6 : PySem.W.findIn K (.ref C6) "__init__" = some (some (.ref fx6)))
    (l_6 : K.lookup fx6 = some ⟨oc_6, od_6, .func (PySem.W.ksFn "__init__" "BadRow.__init__" (defArgs (inClass (top 7) 0)) (defBody (inClass (top 7) 0)) (defScope (inClass (top 7) 0)) .none kV_6 dc_6 pm_6 an_6 (.ref cda6) ct_6 cc6), osl6⟩)
    (c_6 : PySem.W.codeIn K (.ref cda6) "BadRow.__init__" = true)
    (d_6 : K.lookup cda6 = some ⟨ccl6, cdd6, .fields vs6, ccs6⟩)
    (v_6 : vs6[2]? = some (.str fi6 tf6))
    (m_6 : ((PySem.Challenge.pw_piledtrees_k30_exceptions_of_the_first_p.main.file : Str) == fi6) = true)
    (e_6 : K.lookup cc6 = some ⟨cl6, cld6, .cell (some (.ref C6)), csl6⟩)
    (D_6 : PySem.W.clsIn K C6 = some cD6)
    (r_6 : PySem.HandSPX.refsVE cD6.mro = true)
    (H_6 : cD6.hasDict = true)
    (s_6 : PySem.W.mroIn K C6 (.ref C6) = some true)
    (u_6 : PySem.W.ks_superIn K C6 C6 "__init__" = some (some (.builtin "ValueError.__init__")))
    (V_6 : PySem.W.subIn K (.ref C6) (.type "ValueError") = some true)
    (S_6 : PySem.W.findIn K (.ref C6) "__setattr__" = some (some (.builtin "object.__setattr__")))
    (y_6 : PySem.W.typeIn K (.ref fx6) = some (.type "function"))
    (n_6 : PySem.W.findIn K (.ref C6) "place" = some none)
    (k_6 : PySem.W.keepIn K (.ref C6) = true)
    (g_6 : PySem.W.findIn K (.ref C6) "__getattribute__" = some (some (.builtin "BaseException.__getattribute__")))
    (t_6 : PySem.W.findIn K (.ref C6) "__getattr__" = some gt6)
    (B_6 : PySem.W.subIn K (.ref C6) (.type "BaseException") = some true)
    (L_6 : PySem.W.findIn K (.ref C6) "__class__" = some (some (.builtin "object.__class__")))
    (O_6 : PySem.W.mroIn K C6 (.type "object") = some true)
    (W_6 : PySem.W.hasDictIn K C6 = true)
    (q_7 : PySem.W.excInitIn K C7 veT "ValueError.__new__" = true)
    (i_7 : PySem.W.findIn K (.ref C7) "__init__" = some (some (.ref fx7)))
    (l_7 : K.lookup fx7 = some ⟨oc_7, od_7, .func (PySem.W.ksFn "__init__" "Refused.__init__" (defArgs (inClass (top 8) 0)) (defBody (inClass (top 8) 0)) (defScope (inClass (top 8) 0)) .none kV_7 dc_7 pm_7 an_7 (.ref cda7) ct_7 cc7), osl7⟩)
    (c_7 : PySem.W.codeIn K (.ref cda7) "Refused.__init__" = true)
    (d_7 : K.lookup cda7 = some ⟨ccl7, cdd7, .fields vs7, ccs7⟩)
    (v_7 : vs7[2]? = some (.str fi7 tf7))
    (m_7 : ((PySem.Challenge.pw_piledtrees_k30_exceptions_of_the_first_p.main.file : Str) == fi7) = true)
    (e_7 : K.lookup cc7 = some ⟨cl7, cld7, .cell (some (.ref C7)), csl7⟩)
    (D_7 : PySem.W.clsIn K C7 = some cD7)
    (r_7 : PySem.HandSPX.refsVE cD7.mro = true)
    (H_7 : cD7.hasDict = true)
    (s_7 : PySem.W.mroIn K C7 (.ref C7) = some true)
    (u_7 : PySem.W.ks_superIn K C7 C7 "__init__" = some (some (.builtin "ValueError.__init__")))
    (V_7 : PySem.W.subIn K (.ref C7) (.type "ValueError") = some true)
    (S_7 : PySem.W.findIn K (.ref C7) "__setattr__" = some (some (.builtin "object.__setattr__")))
    (y_7 : PySem.W.typeIn K (.ref fx7) = some (.type "function"))
    (n_7 : PySem.W.findIn K (.ref C7) "word" = some none)
    (k_7 : PySem.W.keepIn K (.ref C7) = true)
    (g_7 : PySem.W.findIn K (.ref C7) "__getattribute__" = some (some (.builtin "BaseException.__getattribute__")))
    (t_7 : PySem.W.findIn K (.ref C7) "__getattr__" = some gt7)
    (B_7 : PySem.W.subIn K (.ref C7) (.type "BaseException") = some true)
    (L_7 : PySem.W.findIn K (.ref C7) "__class__" = some (some (.builtin "object.__class__")))
    (O_7 : PySem.W.mroIn K C7 (.type "object") = some true)
    (W_7 : PySem.W.hasDictIn K C7 = true)
    (no : PySem.W.nsIn K cStatics "thirdparty.any" = some none)
    (sp : PySem.W.specialIn K (.builtin "object.__class__") "__get__" = some (some (.builtin "getset_descriptor.__get__")))
    (tk : PySem.W.takesIn K (.builtin "object.__class__") = some true)
    (z_ValueError : PySem.W.nsIn K mainGlobals "ValueError" = some none)
    (z_all : PySem.W.nsIn K mainGlobals "all" = some none)
    (z_bool : PySem.W.nsIn K mainGlobals "bool" = some none)
    (z_enumerate : PySem.W.nsIn K mainGlobals "enumerate" = some none)
    (z_int : PySem.W.nsIn K mainGlobals "int" = some none)
    (z_isinstance : PySem.W.nsIn K mainGlobals "isinstance" = some none)
    (z_len : PySem.W.nsIn K mainGlobals "len" = some none)
    (z_range : PySem.W.nsIn K mainGlobals "range" = some none)
    (z_repr : PySem.W.nsIn K mainGlobals "repr" = some none)
    (z_set : PySem.W.nsIn K mainGlobals "set" = some none)
    (z_sorted : PySem.W.nsIn K mainGlobals "sorted" = some none)
    (z_str : PySem.W.nsIn K mainGlobals "str" = some none)
    (z_sum : PySem.W.nsIn K mainGlobals "sum" = some none)
    (z_super : PySem.W.nsIn K mainGlobals "super" = some none)
    (z_tuple : PySem.W.nsIn K mainGlobals "tuple" = some none)
    (z_zip : PySem.W.nsIn K mainGlobals "zip" = some none)
    (x0 : PySem.W.kitOne K (.ref C1) (.ref C1) = some true)
    (x1 : PySem.W.kitOne K (.ref C1) (.ref C2) = some false)
    (x2 : PySem.W.kitOne K (.ref C1) (.ref C3) = some false)
    (x3 : PySem.W.kitOne K (.ref C1) (.ref C4) = some false)
    (x4 : PySem.W.kitOne K (.ref C1) (.ref C5) = some false)
    (x5 : PySem.W.kitOne K (.ref C1) (.ref C6) = some false)
    (x6 : PySem.W.kitOne K (.ref C1) (.ref C7) = some false)
    (x7 : PySem.W.kitOne K (.ref C1) (.ref C0) = some true)
    (x8 : PySem.W.kitOne K (.ref C1) (.type "ValueError") = some true)
    (x9 : PySem.W.kitOne K (.ref C2) (.ref C1) = some false)
    (x10 : PySem.W.kitOne K (.ref C2) (.ref C2) = some true)
    (x11 : PySem.W.kitOne K (.ref C2) (.ref C3) = some false)
    (x12 : PySem.W.kitOne K (.ref C2) (.ref C4) = some false)
    (x13 : PySem.W.kitOne K (.ref C2) (.ref C5) = some false)
    (x14 : PySem.W.kitOne K (.ref C2) (.ref C6) = some false)
    (x15 : PySem.W.kitOne K (.ref C2) (.ref C7) = some false)
    (x16 : PySem.W.kitOne K (.ref C2) (.ref C0) = some true)
    (x17 : PySem.W.kitOne K (.ref C2) (.type "ValueError") = some true)
    (x18 : PySem.W.kitOne K (.ref C3) (.ref C1) = some false)
    (x19 : PySem.W.kitOne K (.ref C3) (.ref C2) = some false)
    (x20 : PySem.W.kitOne K (.ref C3) (.ref C3) = some true)
    (x21 : PySem.W.kitOne K (.ref C3) (.ref C4) = some false)
    (x22 : PySem.W.kitOne K (.ref C3) (.ref C5) = some false)
    (x23 : PySem.W.kitOne K (.ref C3) (.ref C6) = some false)
    (x24 : PySem.W.kitOne K (.ref C3) (.ref C7) = some false)
    (x25 : PySem.W.kitOne K (.ref C3) (.ref C0) = some true)
    (x26 : PySem.W.kitOne K (.ref C3) (.type "ValueError") = some true)
    (x27 : PySem.W.kitOne K (.ref C4) (.ref C1) = some false)
    (x28 : PySem.W.kitOne K (.ref C4) (.ref C2) = some false)
    (x29 : PySem.W.kitOne K (.ref C4) (.ref C3) = some false)
    (x30 : PySem.W.kitOne K (.ref C4) (.ref C4) = some true)
    (x31 : PySem.W.kitOne K (.ref C4) (.ref C5) = some false)
    (x32 : PySem.W.kitOne K (.ref C4) (.ref C6) = some false)
    (x33 : PySem.W.kitOne K (.ref C4) (.ref C7) = some false)
    (x34 : PySem.W.kitOne K (.ref C4) (.ref C0) = some true)
    (x35 : PySem.W.kitOne K (.ref C4) (.type "ValueError") = some true)
    (x36 : PySem.W.kitOne K (.ref C5) (.ref C1) = some false)
    (x37 : PySem.W.kitOne K (.ref C5) (.ref C2) = some false)
    (x38 : PySem.W.kitOne K (.ref C5) (.ref C3) = some false)
    (x39 : PySem.W.kitOne K (.ref C5) (.ref C4) = some false)
    (x40 : PySem.W.kitOne K (.ref C5) (.ref C5) = some true)
    (x41 : PySem.W.kitOne K (.ref C5) (.ref C6) = some false)
    (x42 : PySem.W.kitOne K (.ref C5) (.ref C7) = some false)
    (x43 : PySem.W.kitOne K (.ref C5) (.ref C0) = some true)
    (x44 : PySem.W.kitOne K (.ref C5) (.type "ValueError") = some true)
    (x45 : PySem.W.kitOne K (.ref C6) (.ref C1) = some false)
    (x46 : PySem.W.kitOne K (.ref C6) (.ref C2) = some false)
    (x47 : PySem.W.kitOne K (.ref C6) (.ref C3) = some false)
    (x48 : PySem.W.kitOne K (.ref C6) (.ref C4) = some false)
    (x49 : PySem.W.kitOne K (.ref C6) (.ref C5) = some false)
    (x50 : PySem.W.kitOne K (.ref C6) (.ref C6) = some true)
    (x51 : PySem.W.kitOne K (.ref C6) (.ref C7) = some false)
    (x52 : PySem.W.kitOne K (.ref C6) (.ref C0) = some true)
    (x53 : PySem.W.kitOne K (.ref C6) (.type "ValueError") = some true)
    (x54 : PySem.W.kitOne K (.ref C7) (.ref C1) = some false)
    (x55 : PySem.W.kitOne K (.ref C7) (.ref C2) = some false)
    (x56 : PySem.W.kitOne K (.ref C7) (.ref C3) = some false)
    (x57 : PySem.W.kitOne K (.ref C7) (.ref C4) = some false)
    (x58 : PySem.W.kitOne K (.ref C7) (.ref C5) = some false)
    (x59 : PySem.W.kitOne K (.ref C7) (.ref C6) = some false)
    (x60 : PySem.W.kitOne K (.ref C7) (.ref C7) = some true)
    (x61 : PySem.W.kitOne K (.ref C7) (.ref C0) = some true)
    (x62 : PySem.W.kitOne K (.ref C7) (.type "ValueError") = some true)
    (x63 : PySem.W.kitOne K (.type "tuple") (.type "tuple") = some true)
    (x64 : PySem.W.kitOne K (.type "str") (.type "str") = some true)
    : ∃ (fd : FuncData) (mk : Heap → G) (cs : List (Addr × Addr)), (∀ (s : Shared) (u : Value), BindsTo s fd ⟨[u], []⟩ [("_law_script", u)]) ∧ (∀ h, (mk h).prog = PySem.Challenge.pw_piledtrees_k30_exceptions_of_the_first_p ∧ (mk h).w = w ∧ (mk h).K = K ∧ (mk h).mg = mg ∧ (mk h).base = h) ∧
      (∀ p ∈ cs, PySem.W.CodeHd h p.1 p.2 ∧ h.get? p.2 = some (PySem.W.tabObj #[])) ∧ (∀ p ∈ cs, K.lookup p.2 = none) ∧ (∀ h, ∀ t ∈ (mk h).tabs, t.1 ∈ cs.map (·.2)) ∧
      ∀ base : Heap, K.In base → base.Ns mainGlobals mg → (∀ p ∈ cs, LamX.TabB base mg p.1 p.2) → FnG (mk base) 15 fa fd ["_law_script"] (SpC (mk base) c_law 1) := by
  have e := hfa.symm.trans (PySem.W.mg_of X GN a15)
  have e2 : f15 = fa := by cases e; rfl
  subst e2
  refine ⟨PySem.W.fnOf "law" "law" (defArgs s_law) (defBody s_law) (defScope s_law) .none kV15 dc15 pm15 an15 cd15 ct15, fun base => ⟨PySem.Challenge.pw_piledtrees_k30_exceptions_of_the_first_p, w, K, mg, base, (fun i => [f0, f1, f2, f3, f4, f5, f6, f7, f8, f9, f10, f11, f12, f13, f14, f15].getD i 0), (fun i => [C0, C1, C2, C3, C4, C5, C6, C7].getD i 0), efT, isaT, lmT, [(P5, ("is_node.<locals>.<lambda>" : Str))]⟩, [(cA5, P5)], fun s v => .of_eq rfl, fun _ => ⟨rfl, rfl, rfl, rfl, rfl⟩, ?c1, ?c2, ?c3, fun base KB GB TB => ?c4⟩
  case c1 =>
    intro p hp
    simp only [List.mem_cons, List.not_mem_nil, or_false] at hp
    rcases hp with rfl
    · exact ⟨PySem.W.codeHd_of_K X t5, ht _ v5⟩
  case c2 =>
    intro p hp
    simp only [List.mem_cons, List.not_mem_nil, or_false] at hp
    rcases hp with rfl
    · exact u5
  case c3 =>
    intro _ p hp
    simp only [List.mem_cons, List.not_mem_nil, or_false] at hp
    rcases hp with rfl
    · simp
  have F0 := fun_mk (st := s_is_word) l0 c0 k0
  have b0 := F0.binds (ps := ["value"]) fun _ _ _ _ _ _ us hl => match us, hl with | [_], _ => rfl
  have F1 := fun_mk (st := s_is_number) l1 c1 k1
  have b1 := F1.binds (ps := ["value"]) fun _ _ _ _ _ _ us hl => match us, hl with | [_], _ => rfl
  have F2 := fun_mk (st := s_is_tuple) l2 c2 k2
  have b2 := F2.binds (ps := ["value", "many"]) fun _ _ _ _ _ _ us hl => match us, hl with | [_, _], _ => rfl
  have F3 := fun_mk (st := s_are_rising) l3 c3 k3
  have b3 := F3.binds (ps := ["things"]) fun _ _ _ _ _ _ us hl => match us, hl with | [_], _ => rfl
  have F4 := fun_mk (st := s_are_pairs) l4 c4 k4
  have b4 := F4.binds (ps := ["value", "is_key", "is_worth"]) fun _ _ _ _ _ _ us hl => match us, hl with | [_, _, _], _ => rfl
  have F5 := fun_mk (st := s_is_node) l5 c5 k5
  have b5 := F5.binds (ps := ["value", "deep"]) fun _ _ _ _ _ _ us hl => match us, hl with | [_, _], _ => rfl
  have F6 := fun_mk (st := s_numbers_in) l6 c6 k6
  have b6 := F6.binds (ps := ["node"]) fun _ _ _ _ _ _ us hl => match us, hl with | [_], _ => rfl
  have F7 := fun_mk (st := s_nodes_in) l7 c7 k7
  have b7 := F7.binds (ps := ["node"]) fun _ _ _ _ _ _ us hl => match us, hl with | [_], _ => rfl
  have F8 := fun_mk (st := s_is_tree) l8 c8 k8
  have b8 := F8.binds (ps := ["value"]) fun _ _ _ _ _ _ us hl => match us, hl with | [_], _ => rfl
  have F9 := fun_mk (st := s_need_tree) l9 c9 k9
  have b9 := F9.binds (ps := ["tree"]) fun _ _ _ _ _ _ us hl => match us, hl with | [_], _ => rfl
  have F10 := fun_mk (st := s_law_mixed) l10 c10 k10
  have b10 := F10.binds (ps := ["_law_cell", "_law_n"]) fun _ _ _ _ _ _ us hl => match us, hl with | [_, _], _ => rfl
  have F11 := fun_mk (st := s_law_folded) l11 c11 k11
  have b11 := F11.binds (ps := ["_law_script"]) fun _ _ _ _ _ _ us hl => match us, hl with | [_], _ => rfl
  have F12 := fun_mk (st := s_law_draw) l12 c12 k12
  have b12 := F12.binds (ps := ["_law_m", "_law_limit"]) fun _ _ _ _ _ _ us hl => match us, hl with | [_, _], _ => rfl
  have F13 := fun_mk (st := s_law_begun) l13 c13 k13
  have b13 := F13.binds (ps := ["_law_script"]) fun _ _ _ _ _ _ us hl => match us, hl with | [_], _ => rfl
  have F14 := fun_mk (st := s_law_each_right) l14 c14 k14
  have b14 := F14.binds (ps := ["_law_q"]) fun _ _ _ _ _ _ us hl => match us, hl with | [_], _ => rfl
  have F15 := fun_mk (st := s_law) l15 c15 k15
  have b15 := F15.binds (ps := ["_law_script"]) fun _ _ _ _ _ _ us hl => match us, hl with | [_], _ => rfl
  have TB5 := TB (cA5, P5) (by simp)
  generalize hg : (⟨PySem.Challenge.pw_piledtrees_k30_exceptions_of_the_first_p, w, K, mg, base, (fun i => [f0, f1, f2, f3, f4, f5, f6, f7, f8, f9, f10, f11, f12, f13, f14, f15].getD i 0), (fun i => [C0, C1, C2, C3, C4, C5, C6, C7].getD i 0), efT, isaT, lmT, [(P5, ("is_node.<locals>.<lambda>" : Str))]⟩ : G) = g
  have gb : g.base = base := by rw [← hg]
  have gt : g.tabs = [(P5, ("is_node.<locals>.<lambda>" : Str))] := by rw [← hg]
  have gA5 : tA g 0 = P5 := by rw [← hg]; rfl
  have gK : g.K = K := by rw [← hg]
  have gm : g.mg = mg := by rw [← hg]
  have gp : g.prog = PySem.Challenge.pw_piledtrees_k30_exceptions_of_the_first_p := by rw [← hg]
  have gf0 : g.fa 0 = f0 := by rw [← hg]; rfl
  have gf1 : g.fa 1 = f1 := by rw [← hg]; rfl
  have gf2 : g.fa 2 = f2 := by rw [← hg]; rfl
  have gf3 : g.fa 3 = f3 := by rw [← hg]; rfl
  have gf4 : g.fa 4 = f4 := by rw [← hg]; rfl
  have gf5 : g.fa 5 = f5 := by rw [← hg]; rfl
  have gf6 : g.fa 6 = f6 := by rw [← hg]; rfl
  have gf7 : g.fa 7 = f7 := by rw [← hg]; rfl
  have gf8 : g.fa 8 = f8 := by rw [← hg]; rfl
  have gf9 : g.fa 9 = f9 := by rw [← hg]; rfl
  have gf10 : g.fa 10 = f10 := by rw [← hg]; rfl
  have gf11 : g.fa 11 = f11 := by rw [← hg]; rfl
  have gf12 : g.fa 12 = f12 := by rw [← hg]; rfl
  have gf13 : g.fa 13 = f13 := by rw [← hg]; rfl
  have gf14 : g.fa 14 = f14 := by rw [← hg]; rfl
  have gf15 : g.fa 15 = f15 := by rw [← hg]; rfl
  have gc0 : g.ca 0 = C0 := by rw [← hg]; rfl
  have gc1 : g.ca 1 = C1 := by rw [← hg]; rfl
  have gc2 : g.ca 2 = C2 := by rw [← hg]; rfl
  have gc3 : g.ca 3 = C3 := by rw [← hg]; rfl
  have gc4 : g.ca 4 = C4 := by rw [← hg]; rfl
  have gc5 : g.ca 5 = C5 := by rw [← hg]; rfl
  have gc6 : g.ca 6 = C6 := by rw [← hg]; rfl
  have gc7 : g.ca 7 = C7 := by rw [← hg]; rfl
  have x_1 : XCls g 1 "value" :=
    { ex := ⟨fx1, "__init__", "BadTree.__init__", defArgs (inClass (top 2) 0), defScope (inClass (top 2) 0), _, _, _, _, _, _, _, _, _, _, _, _, _, _,
        { q := (by rw [gK, gc1]; exact q_1), fn := ⟨oc_1, od_1, an_1, osl1, kV_1, dc_1, pm_1, ct_1, cda1, cc1, ccl1, cl1, cdd1, cld1, ccs1, csl1, vs1, fi1, tf1, (by rw [gK]; exact l_1), (by rw [gK]; exact c_1), (by rw [gK]; exact d_1), v_1, (by rw [gp]; exact m_1), (by rw [gK, gc1]; exact e_1)⟩, hd := rfl,
          cl := ⟨cD1, (by rw [gK, gc1]; exact D_1), r_1, H_1⟩, sub := (by rw [gK, gc1]; exact s_1), no := (by rw [gK]; exact no), sup := (by rw [gK, gc1]; exact u_1), ve := (by rw [gK, gc1]; exact V_1), sa := (by rw [gK, gc1]; exact S_1), init := (by rw [gK, gc1]; exact i_1), ty := (by rw [gK]; exact y_1),
          ks := rfl, kc := rfl, ka := rfl, kd := rfl, co := rfl, gen := rfl, cell := (by decide +kernel), top := (by rw [gp]; decide +kernel) }, rfl, fun _ => rfl, rfl, xbinds1 (fun fd e d x u => ⟨by cases fd; cases e; cases d; rfl, by cases fd; cases e; cases d; rfl⟩)⟩
      no := (by rw [gK, gc1]; exact n_1), sn := (by decide +kernel), nd := (by decide +kernel), ef := (by rw [← hg]; rfl), sup := (by rw [gm]; exact PySem.W.mg_none_of X GN z_super), kp := (by rw [gK, gc1]; exact k_1) }
  have f_1 : XFa g 1 := { hcl := (by rw [gK, gc1, D_1]; rfl), ga := (by rw [gK, gc1]; exact g_1), gt := ⟨gt1, (by rw [gK, gc1]; exact t_1)⟩, sub := (by rw [gK, gc1]; exact B_1), cl := (by rw [gK, gc1]; exact L_1), mro := (by rw [gK, gc1]; exact O_1), hd := (by rw [gK, gc1]; exact W_1), no := fun n hn => by rw [← hg] at hn; have hn : n ∈ (["value"] : List Str) := hn; simp only [List.mem_cons, List.not_mem_nil, or_false] at hn; subst hn; rw [gK, gc1]; exact n_1 }
  have x_2 : XCls g 2 "value" :=
    { ex := ⟨fx2, "__init__", "BadPath.__init__", defArgs (inClass (top 3) 0), defScope (inClass (top 3) 0), _, _, _, _, _, _, _, _, _, _, _, _, _, _,
        { q := (by rw [gK, gc2]; exact q_2), fn := ⟨oc_2, od_2, an_2, osl2, kV_2, dc_2, pm_2, ct_2, cda2, cc2, ccl2, cl2, cdd2, cld2, ccs2, csl2, vs2, fi2, tf2, (by rw [gK]; exact l_2), (by rw [gK]; exact c_2), (by rw [gK]; exact d_2), v_2, (by rw [gp]; exact m_2), (by rw [gK, gc2]; exact e_2)⟩, hd := rfl,
          cl := ⟨cD2, (by rw [gK, gc2]; exact D_2), r_2, H_2⟩, sub := (by rw [gK, gc2]; exact s_2), no := (by rw [gK]; exact no), sup := (by rw [gK, gc2]; exact u_2), ve := (by rw [gK, gc2]; exact V_2), sa := (by rw [gK, gc2]; exact S_2), init := (by rw [gK, gc2]; exact i_2), ty := (by rw [gK]; exact y_2),
          ks := rfl, kc := rfl, ka := rfl, kd := rfl, co := rfl, gen := rfl, cell := (by decide +kernel), top := (by rw [gp]; decide +kernel) }, rfl, fun _ => rfl, rfl, xbinds1 (fun fd e d x u => ⟨by cases fd; cases e; cases d; rfl, by cases fd; cases e; cases d; rfl⟩)⟩
      no := (by rw [gK, gc2]; exact n_2), sn := (by decide +kernel), nd := (by decide +kernel), ef := (by rw [← hg]; rfl), sup := (by rw [gm]; exact PySem.W.mg_none_of X GN z_super), kp := (by rw [gK, gc2]; exact k_2) }
  have f_2 : XFa g 2 := { hcl := (by rw [gK, gc2, D_2]; rfl), ga := (by rw [gK, gc2]; exact g_2), gt := ⟨gt2, (by rw [gK, gc2]; exact t_2)⟩, sub := (by rw [gK, gc2]; exact B_2), cl := (by rw [gK, gc2]; exact L_2), mro := (by rw [gK, gc2]; exact O_2), hd := (by rw [gK, gc2]; exact W_2), no := fun n hn => by rw [← hg] at hn; have hn : n ∈ (["value"] : List Str) := hn; simp only [List.mem_cons, List.not_mem_nil, or_false] at hn; subst hn; rw [gK, gc2]; exact n_2 }
  have x_3 : XCls g 3 "value" :=
    { ex := ⟨fx3, "__init__", "BadUpper.__init__", defArgs (inClass (top 4) 0), defScope (inClass (top 4) 0), _, _, _, _, _, _, _, _, _, _, _, _, _, _,
        { q := (by rw [gK, gc3]; exact q_3), fn := ⟨oc_3, od_3, an_3, osl3, kV_3, dc_3, pm_3, ct_3, cda3, cc3, ccl3, cl3, cdd3, cld3, ccs3, csl3, vs3, fi3, tf3, (by rw [gK]; exact l_3), (by rw [gK]; exact c_3), (by rw [gK]; exact d_3), v_3, (by rw [gp]; exact m_3), (by rw [gK, gc3]; exact e_3)⟩, hd := rfl,
          cl := ⟨cD3, (by rw [gK, gc3]; exact D_3), r_3, H_3⟩, sub := (by rw [gK, gc3]; exact s_3), no := (by rw [gK]; exact no), sup := (by rw [gK, gc3]; exact u_3), ve := (by rw [gK, gc3]; exact V_3), sa := (by rw [gK, gc3]; exact S_3), init := (by rw [gK, gc3]; exact i_3), ty := (by rw [gK]; exact y_3),
          ks := rfl, kc := rfl, ka := rfl, kd := rfl, co := rfl, gen := rfl, cell := (by decide +kernel), top := (by rw [gp]; decide +kernel) }, rfl, fun _ => rfl, rfl, xbinds1 (fun fd e d x u => ⟨by cases fd; cases e; cases d; rfl, by cases fd; cases e; cases d; rfl⟩)⟩
      no := (by rw [gK, gc3]; exact n_3), sn := (by decide +kernel), nd := (by decide +kernel), ef := (by rw [← hg]; rfl), sup := (by rw [gm]; exact PySem.W.mg_none_of X GN z_super), kp := (by rw [gK, gc3]; exact k_3) }
  have f_3 : XFa g 3 := { hcl := (by rw [gK, gc3, D_3]; rfl), ga := (by rw [gK, gc3]; exact g_3), gt := ⟨gt3, (by rw [gK, gc3]; exact t_3)⟩, sub := (by rw [gK, gc3]; exact B_3), cl := (by rw [gK, gc3]; exact L_3), mro := (by rw [gK, gc3]; exact O_3), hd := (by rw [gK, gc3]; exact W_3), no := fun n hn => by rw [← hg] at hn; have hn : n ∈ (["value"] : List Str) := hn; simp only [List.mem_cons, List.not_mem_nil, or_false] at hn; subst hn; rw [gK, gc3]; exact n_3 }
  have x_4 : XCls g 4 "place" :=
    { ex := ⟨fx4, "__init__", "BadBook.__init__", defArgs (inClass (top 5) 0), defScope (inClass (top 5) 0), _, _, _, _, _, _, _, _, _, _, _, _, _, _,
        { q := (by rw [gK, gc4]; exact q_4), fn := ⟨oc_4, od_4, an_4, osl4, kV_4, dc_4, pm_4, ct_4, cda4, cc4, ccl4, cl4, cdd4, cld4, ccs4, csl4, vs4, fi4, tf4, (by rw [gK]; exact l_4), (by rw [gK]; exact c_4), (by rw [gK]; exact d_4), v_4, (by rw [gp]; exact m_4), (by rw [gK, gc4]; exact e_4)⟩, hd := rfl,
          cl := ⟨cD4, (by rw [gK, gc4]; exact D_4), r_4, H_4⟩, sub := (by rw [gK, gc4]; exact s_4), no := (by rw [gK]; exact no), sup := (by rw [gK, gc4]; exact u_4), ve := (by rw [gK, gc4]; exact V_4), sa := (by rw [gK, gc4]; exact S_4), init := (by rw [gK, gc4]; exact i_4), ty := (by rw [gK]; exact y_4),
          ks := rfl, kc := rfl, ka := rfl, kd := rfl, co := rfl, gen := rfl, cell := (by decide +kernel), top := (by rw [gp]; decide +kernel) }, rfl, fun _ => rfl, rfl, xbinds1 (fun fd e d x u => ⟨by cases fd; cases e; cases d; rfl, by cases fd; cases e; cases d; rfl⟩)⟩
      no := (by rw [gK, gc4]; exact n_4), sn := (by decide +kernel), nd := (by decide +kernel), ef := (by rw [← hg]; rfl), sup := (by rw [gm]; exact PySem.W.mg_none_of X GN z_super), kp := (by rw [gK, gc4]; exact k_4) }
  have f_4 : XFa g 4 := { hcl := (by rw [gK, gc4, D_4]; rfl), ga := (by rw [gK, gc4]; exact g_4), gt := ⟨gt4, (by rw [gK, gc4]; exact t_4)⟩, sub := (by rw [gK, gc4]; exact B_4), cl := (by rw [gK, gc4]; exact L_4), mro := (by rw [gK, gc4]; exact O_4), hd := (by rw [gK, gc4]; exact W_4), no := fun n hn => by rw [← hg] at hn; have hn : n ∈ (["place"] : List Str) := hn; simp only [List.mem_cons, List.not_mem_nil, or_false] at hn; subst hn; rw [gK, gc4]; exact n_4 }
  have x_5 : XCls g 5 "value" :=
    { ex := ⟨fx5, "__init__", "BadDeed.__init__", defArgs (inClass (top 6) 0), defScope (inClass (top 6) 0), _, _, _, _, _, _, _, _, _, _, _, _, _, _,
        { q := (by rw [gK, gc5]; exact q_5), fn := ⟨oc_5, od_5, an_5, osl5, kV_5, dc_5, pm_5, ct_5, cda5, cc5, ccl5, cl5, cdd5, cld5, ccs5, csl5, vs5, fi5, tf5, (by rw [gK]; exact l_5), (by rw [gK]; exact c_5), (by rw [gK]; exact d_5), v_5, (by rw [gp]; exact m_5), (by rw [gK, gc5]; exact e_5)⟩, hd := rfl,
          cl := ⟨cD5, (by rw [gK, gc5]; exact D_5), r_5, H_5⟩, sub := (by rw [gK, gc5]; exact s_5), no := (by rw [gK]; exact no), sup := (by rw [gK, gc5]; exact u_5), ve := (by rw [gK, gc5]; exact V_5), sa := (by rw [gK, gc5]; exact S_5), init := (by rw [gK, gc5]; exact i_5), ty := (by rw [gK]; exact y_5),
          ks := rfl, kc := rfl, ka := rfl, kd := rfl, co := rfl, gen := rfl, cell := (by decide +kernel), top := (by rw [gp]; decide +kernel) }, rfl, fun _ => rfl, rfl, xbinds1 (fun fd e d x u => ⟨by cases fd; cases e; cases d; rfl, by cases fd; cases e; cases d; rfl⟩)⟩
      no := (by rw [gK, gc5]; exact n_5), sn := (by decide +kernel), nd := (by decide +kernel), ef := (by rw [← hg]; rfl), sup := (by rw [gm]; exact PySem.W.mg_none_of X GN z_super), kp := (by rw [gK, gc5]; exact k_5) }
  have f_5 : XFa g 5 := { hcl := (by rw [gK, gc5, D_5]; rfl), ga := (by rw [gK, gc5]; exact g_5), gt := ⟨gt5, (by rw [gK, gc5]; exact t_5)⟩, sub := (by rw [gK, gc5]; exact B_5), cl := (by rw [gK, gc5]; exact L_5), mro := (by rw [gK, gc5]; exact O_5), hd := (by rw [gK, gc5]; exact W_5), no := fun n hn => by rw [← hg] at hn; have hn : n ∈ (["value"] : List Str) := hn; simp only [List.mem_cons, List.not_mem_nil, or_false] at hn; subst hn; rw [gK, gc5]; exact n_5 }
  have x_6 : XCls g 6 "place" :=
    { ex := ⟨fx6, "__init__", "BadRow.__init__", defArgs (inClass (top 7) 0), defScope (inClass (top 7) 0), _, _, _, _, _, _, _, _, _, _, _, _, _, _,
        { q := (by rw [gK, gc6]; exact q_6), fn := ⟨oc_6, od_6, an_6, osl6, kV_6, dc_6, pm_6, ct_6, cda6, cc6, ccl6, cl6, cdd6, cld6, ccs6, csl6, vs6, fi6, tf6, (by rw [gK]; exact l_6), (by rw [gK]; exact c_6), (by rw [gK]; exact d_6), v_6, (by rw [gp]; exact m_6), (by rw [gK, gc6]; exact e_6)⟩, hd := rfl,
          cl := ⟨cD6, (by rw [gK, gc6]; exact D_6), r_6, H_6⟩, sub := (by rw [gK, gc6]; exact s_6), no := (by rw [gK]; exact no), sup := (by rw [gK, gc6]; exact u_6), ve := (by rw [gK, gc6]; exact V_6), sa := (by rw [gK, gc6]; exact S_6), init := (by rw [gK, gc6]; exact i_6), ty := (by rw [gK]; exact y_6),
          ks := rfl, kc := rfl, ka := rfl, kd := rfl, co := rfl, gen := rfl, cell := (by decide +kernel), top := (by rw [gp]; decide +kernel) }, rfl, fun _ => rfl, rfl, xbinds1 (fun fd e d x u => ⟨by cases fd; cases e; cases d; rfl, by cases fd; cases e; cases d; rfl⟩)⟩
      no := (by rw [gK, gc6]; exact n_6), sn := (by decide +kernel), nd := (by decide +kernel), ef := (by rw [← hg]; rfl), sup := (by rw [gm]; exact PySem.W.mg_none_of X GN z_super), kp := (by rw [gK, gc6]; exact k_6) }
  have f_6 : XFa g 6 := { hcl := (by rw [gK, gc6, D_6]; rfl), ga := (by rw [gK, gc6]; exact g_6), gt := ⟨gt6, (by rw [gK, gc6]; exact t_6)⟩, sub := (by rw [gK, gc6]; exact B_6), cl := (by rw [gK, gc6]; exact L_6), mro := (by rw [gK, gc6]; exact O_6), hd := (by rw [gK, gc6]; exact W_6), no := fun n hn => by rw [← hg] at hn; have hn : n ∈ (["place"] : List Str) := hn; simp only [List.mem_cons, List.not_mem_nil, or_false] at hn; subst hn; rw [gK, gc6]; exact n_6 }
  have x_7 : XCls g 7 "word" :=
    { ex := ⟨fx7, "__init__", "Refused.__init__", defArgs (inClass (top 8) 0), defScope (inClass (top 8) 0), _, _, _, _, _, _, _, _, _, _, _, _, _, _,
        { q := (by rw [gK, gc7]; exact q_7), fn := ⟨oc_7, od_7, an_7, osl7, kV_7, dc_7, pm_7, ct_7, cda7, cc7, ccl7, cl7, cdd7, cld7, ccs7, csl7, vs7, fi7, tf7, (by rw [gK]; exact l_7), (by rw [gK]; exact c_7), (by rw [gK]; exact d_7), v_7, (by rw [gp]; exact m_7), (by rw [gK, gc7]; exact e_7)⟩, hd := rfl,
          cl := ⟨cD7, (by rw [gK, gc7]; exact D_7), r_7, H_7⟩, sub := (by rw [gK, gc7]; exact s_7), no := (by rw [gK]; exact no), sup := (by rw [gK, gc7]; exact u_7), ve := (by rw [gK, gc7]; exact V_7), sa := (by rw [gK, gc7]; exact S_7), init := (by rw [gK, gc7]; exact i_7), ty := (by rw [gK]; exact y_7),
          ks := rfl, kc := rfl, ka := rfl, kd := rfl, co := rfl, gen := rfl, cell := (by decide +kernel), top := (by rw [gp]; decide +kernel) }, rfl, fun _ => rfl, rfl, xbinds1 (fun fd e d x u => ⟨by cases fd; cases e; cases d; rfl, by cases fd; cases e; cases d; rfl⟩)⟩
      no := (by rw [gK, gc7]; exact n_7), sn := (by decide +kernel), nd := (by decide +kernel), ef := (by rw [← hg]; rfl), sup := (by rw [gm]; exact PySem.W.mg_none_of X GN z_super), kp := (by rw [gK, gc7]; exact k_7) }
  have f_7 : XFa g 7 := { hcl := (by rw [gK, gc7, D_7]; rfl), ga := (by rw [gK, gc7]; exact g_7), gt := ⟨gt7, (by rw [gK, gc7]; exact t_7)⟩, sub := (by rw [gK, gc7]; exact B_7), cl := (by rw [gK, gc7]; exact L_7), mro := (by rw [gK, gc7]; exact O_7), hd := (by rw [gK, gc7]; exact W_7), no := fun n hn => by rw [← hg] at hn; have hn : n ∈ (["word"] : List Str) := hn; simp only [List.mem_cons, List.not_mem_nil, or_false] at hn; subst hn; rw [gK, gc7]; exact n_7 }
  have io : IsaOk g :=
    { isa := fun a b r h => by
        rw [← hg] at h
        have hm := isaOf_mem (t := isaL) h
        simp only [isaL, List.mem_cons, List.not_mem_nil, or_false, Prod.mk.injEq] at hm
        rw [gK]
        rcases hm with ⟨rfl, rfl, rfl⟩ | ⟨rfl, rfl, rfl⟩ | ⟨rfl, rfl, rfl⟩ | ⟨rfl, rfl, rfl⟩ | ⟨rfl, rfl, rfl⟩ | ⟨rfl, rfl, rfl⟩ | ⟨rfl, rfl, rfl⟩ | ⟨rfl, rfl, rfl⟩ | ⟨rfl, rfl, rfl⟩ | ⟨rfl, rfl, rfl⟩ | ⟨rfl, rfl, rfl⟩ | ⟨rfl, rfl, rfl⟩ | ⟨rfl, rfl, rfl⟩ | ⟨rfl, rfl, rfl⟩ | ⟨rfl, rfl, rfl⟩ | ⟨rfl, rfl, rfl⟩ | ⟨rfl, rfl, rfl⟩ | ⟨rfl, rfl, rfl⟩ | ⟨rfl, rfl, rfl⟩ | ⟨rfl, rfl, rfl⟩ | ⟨rfl, rfl, rfl⟩ | ⟨rfl, rfl, rfl⟩ | ⟨rfl, rfl, rfl⟩ | ⟨rfl, rfl, rfl⟩ | ⟨rfl, rfl, rfl⟩ | ⟨rfl, rfl, rfl⟩ | ⟨rfl, rfl, rfl⟩ | ⟨rfl, rfl, rfl⟩ | ⟨rfl, rfl, rfl⟩ | ⟨rfl, rfl, rfl⟩ | ⟨rfl, rfl, rfl⟩ | ⟨rfl, rfl, rfl⟩ | ⟨rfl, rfl, rfl⟩ | ⟨rfl, rfl, rfl⟩ | ⟨rfl, rfl, rfl⟩ | ⟨rfl, rfl, rfl⟩ | ⟨rfl, rfl, rfl⟩ | ⟨rfl, rfl, rfl⟩ | ⟨rfl, rfl, rfl⟩ | ⟨rfl, rfl, rfl⟩ | ⟨rfl, rfl, rfl⟩ | ⟨rfl, rfl, rfl⟩ | ⟨rfl, rfl, rfl⟩ | ⟨rfl, rfl, rfl⟩ | ⟨rfl, rfl, rfl⟩ | ⟨rfl, rfl, rfl⟩ | ⟨rfl, rfl, rfl⟩ | ⟨rfl, rfl, rfl⟩ | ⟨rfl, rfl, rfl⟩ | ⟨rfl, rfl, rfl⟩ | ⟨rfl, rfl, rfl⟩ | ⟨rfl, rfl, rfl⟩ | ⟨rfl, rfl, rfl⟩ | ⟨rfl, rfl, rfl⟩ | ⟨rfl, rfl, rfl⟩ | ⟨rfl, rfl, rfl⟩ | ⟨rfl, rfl, rfl⟩ | ⟨rfl, rfl, rfl⟩ | ⟨rfl, rfl, rfl⟩ | ⟨rfl, rfl, rfl⟩ | ⟨rfl, rfl, rfl⟩ | ⟨rfl, rfl, rfl⟩ | ⟨rfl, rfl, rfl⟩ | ⟨rfl, rfl, rfl⟩ | ⟨rfl, rfl, rfl⟩
        · show PySem.W.kitOne K (.ref (g.ca 1)) (.ref (g.ca 1)) = some true; rw [gc1]; exact x0
        · show PySem.W.kitOne K (.ref (g.ca 1)) (.ref (g.ca 2)) = some false; rw [gc1, gc2]; exact x1
        · show PySem.W.kitOne K (.ref (g.ca 1)) (.ref (g.ca 3)) = some false; rw [gc1, gc3]; exact x2
        · show PySem.W.kitOne K (.ref (g.ca 1)) (.ref (g.ca 4)) = some false; rw [gc1, gc4]; exact x3
        · show PySem.W.kitOne K (.ref (g.ca 1)) (.ref (g.ca 5)) = some false; rw [gc1, gc5]; exact x4
        · show PySem.W.kitOne K (.ref (g.ca 1)) (.ref (g.ca 6)) = some false; rw [gc1, gc6]; exact x5
        · show PySem.W.kitOne K (.ref (g.ca 1)) (.ref (g.ca 7)) = some false; rw [gc1, gc7]; exact x6
        · show PySem.W.kitOne K (.ref (g.ca 1)) (.ref (g.ca 0)) = some true; rw [gc1, gc0]; exact x7
        · show PySem.W.kitOne K (.ref (g.ca 1)) (.type "ValueError") = some true; rw [gc1]; exact x8
        · show PySem.W.kitOne K (.ref (g.ca 2)) (.ref (g.ca 1)) = some false; rw [gc2, gc1]; exact x9
        · show PySem.W.kitOne K (.ref (g.ca 2)) (.ref (g.ca 2)) = some true; rw [gc2]; exact x10
        · show PySem.W.kitOne K (.ref (g.ca 2)) (.ref (g.ca 3)) = some false; rw [gc2, gc3]; exact x11
        · show PySem.W.kitOne K (.ref (g.ca 2)) (.ref (g.ca 4)) = some false; rw [gc2, gc4]; exact x12
        · show PySem.W.kitOne K (.ref (g.ca 2)) (.ref (g.ca 5)) = some false; rw [gc2, gc5]; exact x13
        · show PySem.W.kitOne K (.ref (g.ca 2)) (.ref (g.ca 6)) = some false; rw [gc2, gc6]; exact x14
        · show PySem.W.kitOne K (.ref (g.ca 2)) (.ref (g.ca 7)) = some false; rw [gc2, gc7]; exact x15
        · show PySem.W.kitOne K (.ref (g.ca 2)) (.ref (g.ca 0)) = some true; rw [gc2, gc0]; exact x16
        · show PySem.W.kitOne K (.ref (g.ca 2)) (.type "ValueError") = some true; rw [gc2]; exact x17
        · show PySem.W.kitOne K (.ref (g.ca 3)) (.ref (g.ca 1)) = some false; rw [gc3, gc1]; exact x18
        · show PySem.W.kitOne K (.ref (g.ca 3)) (.ref (g.ca 2)) = some false; rw [gc3, gc2]; exact x19
        · show PySem.W.kitOne K (.ref (g.ca 3)) (.ref (g.ca 3)) = some true; rw [gc3]; exact x20
        · show PySem.W.kitOne K (.ref (g.ca 3)) (.ref (g.ca 4)) = some false; rw [gc3, gc4]; exact x21
        · show PySem.W.kitOne K (.ref (g.ca 3)) (.ref (g.ca 5)) = some false; rw [gc3, gc5]; exact x22
        · show PySem.W.kitOne K (.ref (g.ca 3)) (.ref (g.ca 6)) = some false; rw [gc3, gc6]; exact x23
        · show PySem.W.kitOne K (.ref (g.ca 3)) (.ref (g.ca 7)) = some false; rw [gc3, gc7]; exact x24
        · show PySem.W.kitOne K (.ref (g.ca 3)) (.ref (g.ca 0)) = some true; rw [gc3, gc0]; exact x25
        · show PySem.W.kitOne K (.ref (g.ca 3)) (.type "ValueError") = some true; rw [gc3]; exact x26
        · show PySem.W.kitOne K (.ref (g.ca 4)) (.ref (g.ca 1)) = some false; rw [gc4, gc1]; exact x27
        · show PySem.W.kitOne K (.ref (g.ca 4)) (.ref (g.ca 2)) = some false; rw [gc4, gc2]; exact x28
        · show PySem.W.kitOne K (.ref (g.ca 4)) (.ref (g.ca 3)) = some false; rw [gc4, gc3]; exact x29
        · show PySem.W.kitOne K (.ref (g.ca 4)) (.ref (g.ca 4)) = some true; rw [gc4]; exact x30
        · show PySem.W.kitOne K (.ref (g.ca 4)) (.ref (g.ca 5)) = some false; rw [gc4, gc5]; exact x31
        · show PySem.W.kitOne K (.ref (g.ca 4)) (.ref (g.ca 6)) = some false; rw [gc4, gc6]; exact x32
        · show PySem.W.kitOne K (.ref (g.ca 4)) (.ref (g.ca 7)) = some false; rw [gc4, gc7]; exact x33
        · show PySem.W.kitOne K (.ref (g.ca 4)) (.ref (g.ca 0)) = some true; rw [gc4, gc0]; exact x34
        · show PySem.W.kitOne K (.ref (g.ca 4)) (.type "ValueError") = some true; rw [gc4]; exact x35
        · show PySem.W.kitOne K (.ref (g.ca 5)) (.ref (g.ca 1)) = some false; rw [gc5, gc1]; exact x36
        · show PySem.W.kitOne K (.ref (g.ca 5)) (.ref (g.ca 2)) = some false; rw [gc5, gc2]; exact x37
        · show PySem.W.kitOne K (.ref (g.ca 5)) (.ref (g.ca 3)) = some false; rw [gc5, gc3]; exact x38
        · show PySem.W.kitOne K (.ref (g.ca 5)) (.ref (g.ca 4)) = some false; rw [gc5, gc4]; exact x39
        · show PySem.W.kitOne K (.ref (g.ca 5)) (.ref (g.ca 5)) = some true; rw [gc5]; exact x40
        · show PySem.W.kitOne K (.ref (g.ca 5)) (.ref (g.ca 6)) = some false; rw [gc5, gc6]; exact x41
        · show PySem.W.kitOne K (.ref (g.ca 5)) (.ref (g.ca 7)) = some false; rw [gc5, gc7]; exact x42
        · show PySem.W.kitOne K (.ref (g.ca 5)) (.ref (g.ca 0)) = some true; rw [gc5, gc0]; exact x43
        · show PySem.W.kitOne K (.ref (g.ca 5)) (.type "ValueError") = some true; rw [gc5]; exact x44
        · show PySem.W.kitOne K (.ref (g.ca 6)) (.ref (g.ca 1)) = some false; rw [gc6, gc1]; exact x45
        · show PySem.W.kitOne K (.ref (g.ca 6)) (.ref (g.ca 2)) = some false; rw [gc6, gc2]; exact x46
        · show PySem.W.kitOne K (.ref (g.ca 6)) (.ref (g.ca 3)) = some false; rw [gc6, gc3]; exact x47
        · show PySem.W.kitOne K (.ref (g.ca 6)) (.ref (g.ca 4)) = some false; rw [gc6, gc4]; exact x48
        · show PySem.W.kitOne K (.ref (g.ca 6)) (.ref (g.ca 5)) = some false; rw [gc6, gc5]; exact x49
        · show PySem.W.kitOne K (.ref (g.ca 6)) (.ref (g.ca 6)) = some true; rw [gc6]; exact x50
        · show PySem.W.kitOne K (.ref (g.ca 6)) (.ref (g.ca 7)) = some false; rw [gc6, gc7]; exact x51
        · show PySem.W.kitOne K (.ref (g.ca 6)) (.ref (g.ca 0)) = some true; rw [gc6, gc0]; exact x52
        · show PySem.W.kitOne K (.ref (g.ca 6)) (.type "ValueError") = some true; rw [gc6]; exact x53
        · show PySem.W.kitOne K (.ref (g.ca 7)) (.ref (g.ca 1)) = some false; rw [gc7, gc1]; exact x54
        · show PySem.W.kitOne K (.ref (g.ca 7)) (.ref (g.ca 2)) = some false; rw [gc7, gc2]; exact x55
        · show PySem.W.kitOne K (.ref (g.ca 7)) (.ref (g.ca 3)) = some false; rw [gc7, gc3]; exact x56
        · show PySem.W.kitOne K (.ref (g.ca 7)) (.ref (g.ca 4)) = some false; rw [gc7, gc4]; exact x57
        · show PySem.W.kitOne K (.ref (g.ca 7)) (.ref (g.ca 5)) = some false; rw [gc7, gc5]; exact x58
        · show PySem.W.kitOne K (.ref (g.ca 7)) (.ref (g.ca 6)) = some false; rw [gc7, gc6]; exact x59
        · show PySem.W.kitOne K (.ref (g.ca 7)) (.ref (g.ca 7)) = some true; rw [gc7]; exact x60
        · show PySem.W.kitOne K (.ref (g.ca 7)) (.ref (g.ca 0)) = some true; rw [gc7, gc0]; exact x61
        · show PySem.W.kitOne K (.ref (g.ca 7)) (.type "ValueError") = some true; rw [gc7]; exact x62
        · show PySem.W.kitOne K (.type "tuple") (.type "tuple") = some true; rw []; exact x63
        · show PySem.W.kitOne K (.type "str") (.type "str") = some true; rw []; exact x64
      sp := (by rw [gK]; exact sp), tk := (by rw [gK]; exact tk)
      xc := fun c a b h hlt => by
        rw [← hg] at h
        have hm := isaOf_mem (t := isaL) h
        simp only [isaL, List.mem_cons, List.not_mem_nil, or_false, Prod.mk.injEq] at hm
        rcases hm with ⟨e, _, _⟩ | ⟨e, _, _⟩ | ⟨e, _, _⟩ | ⟨e, _, _⟩ | ⟨e, _, _⟩ | ⟨e, _, _⟩ | ⟨e, _, _⟩ | ⟨e, _, _⟩ | ⟨e, _, _⟩ | ⟨e, _, _⟩ | ⟨e, _, _⟩ | ⟨e, _, _⟩ | ⟨e, _, _⟩ | ⟨e, _, _⟩ | ⟨e, _, _⟩ | ⟨e, _, _⟩ | ⟨e, _, _⟩ | ⟨e, _, _⟩ | ⟨e, _, _⟩ | ⟨e, _, _⟩ | ⟨e, _, _⟩ | ⟨e, _, _⟩ | ⟨e, _, _⟩ | ⟨e, _, _⟩ | ⟨e, _, _⟩ | ⟨e, _, _⟩ | ⟨e, _, _⟩ | ⟨e, _, _⟩ | ⟨e, _, _⟩ | ⟨e, _, _⟩ | ⟨e, _, _⟩ | ⟨e, _, _⟩ | ⟨e, _, _⟩ | ⟨e, _, _⟩ | ⟨e, _, _⟩ | ⟨e, _, _⟩ | ⟨e, _, _⟩ | ⟨e, _, _⟩ | ⟨e, _, _⟩ | ⟨e, _, _⟩ | ⟨e, _, _⟩ | ⟨e, _, _⟩ | ⟨e, _, _⟩ | ⟨e, _, _⟩ | ⟨e, _, _⟩ | ⟨e, _, _⟩ | ⟨e, _, _⟩ | ⟨e, _, _⟩ | ⟨e, _, _⟩ | ⟨e, _, _⟩ | ⟨e, _, _⟩ | ⟨e, _, _⟩ | ⟨e, _, _⟩ | ⟨e, _, _⟩ | ⟨e, _, _⟩ | ⟨e, _, _⟩ | ⟨e, _, _⟩ | ⟨e, _, _⟩ | ⟨e, _, _⟩ | ⟨e, _, _⟩ | ⟨e, _, _⟩ | ⟨e, _, _⟩ | ⟨e, _, _⟩ | ⟨e, _, _⟩ | ⟨e, _, _⟩
        · cases e; exact f_1
        · cases e; exact f_1
        · cases e; exact f_1
        · cases e; exact f_1
        · cases e; exact f_1
        · cases e; exact f_1
        · cases e; exact f_1
        · cases e; exact f_1
        · cases e; exact f_1
        · cases e; exact f_2
        · cases e; exact f_2
        · cases e; exact f_2
        · cases e; exact f_2
        · cases e; exact f_2
        · cases e; exact f_2
        · cases e; exact f_2
        · cases e; exact f_2
        · cases e; exact f_2
        · cases e; exact f_3
        · cases e; exact f_3
        · cases e; exact f_3
        · cases e; exact f_3
        · cases e; exact f_3
        · cases e; exact f_3
        · cases e; exact f_3
        · cases e; exact f_3
        · cases e; exact f_3
        · cases e; exact f_4
        · cases e; exact f_4
        · cases e; exact f_4
        · cases e; exact f_4
        · cases e; exact f_4
        · cases e; exact f_4
        · cases e; exact f_4
        · cases e; exact f_4
        · cases e; exact f_4
        · cases e; exact f_5
        · cases e; exact f_5
        · cases e; exact f_5
        · cases e; exact f_5
        · cases e; exact f_5
        · cases e; exact f_5
        · cases e; exact f_5
        · cases e; exact f_5
        · cases e; exact f_5
        · cases e; exact f_6
        · cases e; exact f_6
        · cases e; exact f_6
        · cases e; exact f_6
        · cases e; exact f_6
        · cases e; exact f_6
        · cases e; exact f_6
        · cases e; exact f_6
        · cases e; exact f_6
        · cases e; exact f_7
        · cases e; exact f_7
        · cases e; exact f_7
        · cases e; exact f_7
        · cases e; exact f_7
        · cases e; exact f_7
        · cases e; exact f_7
        · cases e; exact f_7
        · cases e; exact f_7
        · cases e
        · cases e
      ic := fun c a b h => by
        rw [← hg] at h
        have hm := isaOf_mem (t := isaL) h
        simp only [isaL, List.mem_cons, List.not_mem_nil, or_false, Prod.mk.injEq] at hm
        rcases hm with ⟨e, _, _⟩ | ⟨e, _, _⟩ | ⟨e, _, _⟩ | ⟨e, _, _⟩ | ⟨e, _, _⟩ | ⟨e, _, _⟩ | ⟨e, _, _⟩ | ⟨e, _, _⟩ | ⟨e, _, _⟩ | ⟨e, _, _⟩ | ⟨e, _, _⟩ | ⟨e, _, _⟩ | ⟨e, _, _⟩ | ⟨e, _, _⟩ | ⟨e, _, _⟩ | ⟨e, _, _⟩ | ⟨e, _, _⟩ | ⟨e, _, _⟩ | ⟨e, _, _⟩ | ⟨e, _, _⟩ | ⟨e, _, _⟩ | ⟨e, _, _⟩ | ⟨e, _, _⟩ | ⟨e, _, _⟩ | ⟨e, _, _⟩ | ⟨e, _, _⟩ | ⟨e, _, _⟩ | ⟨e, _, _⟩ | ⟨e, _, _⟩ | ⟨e, _, _⟩ | ⟨e, _, _⟩ | ⟨e, _, _⟩ | ⟨e, _, _⟩ | ⟨e, _, _⟩ | ⟨e, _, _⟩ | ⟨e, _, _⟩ | ⟨e, _, _⟩ | ⟨e, _, _⟩ | ⟨e, _, _⟩ | ⟨e, _, _⟩ | ⟨e, _, _⟩ | ⟨e, _, _⟩ | ⟨e, _, _⟩ | ⟨e, _, _⟩ | ⟨e, _, _⟩ | ⟨e, _, _⟩ | ⟨e, _, _⟩ | ⟨e, _, _⟩ | ⟨e, _, _⟩ | ⟨e, _, _⟩ | ⟨e, _, _⟩ | ⟨e, _, _⟩ | ⟨e, _, _⟩ | ⟨e, _, _⟩ | ⟨e, _, _⟩ | ⟨e, _, _⟩ | ⟨e, _, _⟩ | ⟨e, _, _⟩ | ⟨e, _, _⟩ | ⟨e, _, _⟩ | ⟨e, _, _⟩ | ⟨e, _, _⟩ | ⟨e, _, _⟩ | ⟨e, _, _⟩ | ⟨e, _, _⟩
        · injection e with e; omega
        · injection e with e; omega
        · injection e with e; omega
        · injection e with e; omega
        · injection e with e; omega
        · injection e with e; omega
        · injection e with e; omega
        · injection e with e; omega
        · injection e with e; omega
        · injection e with e; omega
        · injection e with e; omega
        · injection e with e; omega
        · injection e with e; omega
        · injection e with e; omega
        · injection e with e; omega
        · injection e with e; omega
        · injection e with e; omega
        · injection e with e; omega
        · injection e with e; omega
        · injection e with e; omega
        · injection e with e; omega
        · injection e with e; omega
        · injection e with e; omega
        · injection e with e; omega
        · injection e with e; omega
        · injection e with e; omega
        · injection e with e; omega
        · injection e with e; omega
        · injection e with e; omega
        · injection e with e; omega
        · injection e with e; omega
        · injection e with e; omega
        · injection e with e; omega
        · injection e with e; omega
        · injection e with e; omega
        · injection e with e; omega
        · injection e with e; omega
        · injection e with e; omega
        · injection e with e; omega
        · injection e with e; omega
        · injection e with e; omega
        · injection e with e; omega
        · injection e with e; omega
        · injection e with e; omega
        · injection e with e; omega
        · injection e with e; omega
        · injection e with e; omega
        · injection e with e; omega
        · injection e with e; omega
        · injection e with e; omega
        · injection e with e; omega
        · injection e with e; omega
        · injection e with e; omega
        · injection e with e; omega
        · injection e with e; omega
        · injection e with e; omega
        · injection e with e; omega
        · injection e with e; omega
        · injection e with e; omega
        · injection e with e; omega
        · injection e with e; omega
        · injection e with e; omega
        · injection e with e; omega
        · cases e
        · cases e
    }
  have T : Txt g :=
    {
      mg_is_word := (by rw [gm, gf0]; exact PySem.W.mg_of X GN a0), fn_is_word := ⟨_, (by rw [gK, gf0]; exact F0), (by rw [gK]; exact b0)⟩,
      mg_is_number := (by rw [gm, gf1]; exact PySem.W.mg_of X GN a1), fn_is_number := ⟨_, (by rw [gK, gf1]; exact F1), (by rw [gK]; exact b1)⟩,
      mg_is_tuple := (by rw [gm, gf2]; exact PySem.W.mg_of X GN a2), fn_is_tuple := ⟨_, (by rw [gK, gf2]; exact F2), (by rw [gK]; exact b2)⟩,
      mg_are_rising := (by rw [gm, gf3]; exact PySem.W.mg_of X GN a3), fn_are_rising := ⟨_, (by rw [gK, gf3]; exact F3), (by rw [gK]; exact b3)⟩,
      mg_are_pairs := (by rw [gm, gf4]; exact PySem.W.mg_of X GN a4), fn_are_pairs := ⟨_, (by rw [gK, gf4]; exact F4), (by rw [gK]; exact b4)⟩,
      mg_is_node := (by rw [gm, gf5]; exact PySem.W.mg_of X GN a5), fn_is_node := ⟨_, (by rw [gK, gf5]; exact F5), (by rw [gK]; exact b5), (by intro t z; simp only [List.mem_cons, List.not_mem_nil, or_false] at z; subst z; exact ⟨cA5, rfl, by rw [gb, gm, gA5]; exact TB5, rfl⟩)⟩,
      mg_numbers_in := (by rw [gm, gf6]; exact PySem.W.mg_of X GN a6), fn_numbers_in := ⟨_, (by rw [gK, gf6]; exact F6), (by rw [gK]; exact b6)⟩,
      mg_nodes_in := (by rw [gm, gf7]; exact PySem.W.mg_of X GN a7), fn_nodes_in := ⟨_, (by rw [gK, gf7]; exact F7), (by rw [gK]; exact b7)⟩,
      mg_is_tree := (by rw [gm, gf8]; exact PySem.W.mg_of X GN a8), fn_is_tree := ⟨_, (by rw [gK, gf8]; exact F8), (by rw [gK]; exact b8)⟩,
      mg_need_tree := (by rw [gm, gf9]; exact PySem.W.mg_of X GN a9), fn_need_tree := ⟨_, (by rw [gK, gf9]; exact F9), (by rw [gK]; exact b9)⟩,
      mg_law_mixed := (by rw [gm, gf10]; exact PySem.W.mg_of X GN a10), fn_law_mixed := ⟨_, (by rw [gK, gf10]; exact F10), (by rw [gK]; exact b10)⟩,
      mg_law_folded := (by rw [gm, gf11]; exact PySem.W.mg_of X GN a11), fn_law_folded := ⟨_, (by rw [gK, gf11]; exact F11), (by rw [gK]; exact b11)⟩,
      mg_law_draw := (by rw [gm, gf12]; exact PySem.W.mg_of X GN a12), fn_law_draw := ⟨_, (by rw [gK, gf12]; exact F12), (by rw [gK]; exact b12)⟩,
      mg_law_begun := (by rw [gm, gf13]; exact PySem.W.mg_of X GN a13), fn_law_begun := ⟨_, (by rw [gK, gf13]; exact F13), (by rw [gK]; exact b13)⟩,
      mg_law_each_right := (by rw [gm, gf14]; exact PySem.W.mg_of X GN a14), fn_law_each_right := ⟨_, (by rw [gK, gf14]; exact F14), (by rw [gK]; exact b14)⟩,
      mg_law := (by rw [gm, gf15]; exact PySem.W.mg_of X GN a15), fn_law := ⟨_, (by rw [gK, gf15]; exact F15), (by rw [gK]; exact b15)⟩,
      tb0 := (by rw [gt, gA5]; refine ⟨by simp, fun p hp e => ?_⟩; simp only [List.mem_cons, List.not_mem_nil, or_false] at hp; rcases hp with rfl <;> first | rfl | exact absurd e (by first | assumption | exact Ne.symm (by assumption))),
      lm0 := (by rw [← hg]; rfl),
      mc_FILE := ⟨tk_FILE, by rw [gm]; exact PySem.W.mg_of X GN mc_FILE⟩,
      mc_FOLDER := ⟨tk_FOLDER, by rw [gm]; exact PySem.W.mg_of X GN mc_FOLDER⟩,
      mc_LETTERS := ⟨tk_LETTERS, by rw [gm]; exact PySem.W.mg_of X GN mc_LETTERS⟩,
      mc_MOST_DEEP := ⟨tk_MOST_DEEP, by rw [gm]; exact PySem.W.mg_of X GN mc_MOST_DEEP⟩,
      mc_MOST_LETTERS := ⟨tk_MOST_LETTERS, by rw [gm]; exact PySem.W.mg_of X GN mc_MOST_LETTERS⟩,
      mc_MOST_NODES := ⟨tk_MOST_NODES, by rw [gm]; exact PySem.W.mg_of X GN mc_MOST_NODES⟩,
      mc_MOST_NUMBER := ⟨tk_MOST_NUMBER, by rw [gm]; exact PySem.W.mg_of X GN mc_MOST_NUMBER⟩,
      mg_PileError := (by rw [gm, gc0]; exact PySem.W.mg_of X GN A0),
      mg_BadTree := (by rw [gm, gc1]; exact PySem.W.mg_of X GN A1),
      mg_BadPath := (by rw [gm, gc2]; exact PySem.W.mg_of X GN A2),
      mg_BadUpper := (by rw [gm, gc3]; exact PySem.W.mg_of X GN A3),
      mg_BadBook := (by rw [gm, gc4]; exact PySem.W.mg_of X GN A4),
      mg_BadDeed := (by rw [gm, gc5]; exact PySem.W.mg_of X GN A5),
      mg_BadRow := (by rw [gm, gc6]; exact PySem.W.mg_of X GN A6),
      mg_Refused := (by rw [gm, gc7]; exact PySem.W.mg_of X GN A7),
      x_BadTree := x_1,
      x_BadPath := x_2,
      x_BadUpper := x_3,
      x_BadBook := x_4,
      x_BadDeed := x_5,
      x_BadRow := x_6,
      x_Refused := x_7,
      rs_BadTree := ⟨(by rw [gK, gc1]; exact B_1), (by rw [gK, gc1]; exact Y_1)⟩,
      no_ValueError := (by rw [gm]; exact PySem.W.mg_none_of X GN z_ValueError),
      no_all := (by rw [gm]; exact PySem.W.mg_none_of X GN z_all),
      no_bool := (by rw [gm]; exact PySem.W.mg_none_of X GN z_bool),
      no_enumerate := (by rw [gm]; exact PySem.W.mg_none_of X GN z_enumerate),
      no_int := (by rw [gm]; exact PySem.W.mg_none_of X GN z_int),
      no_isinstance := (by rw [gm]; exact PySem.W.mg_none_of X GN z_isinstance),
      no_len := (by rw [gm]; exact PySem.W.mg_none_of X GN z_len),
      no_range := (by rw [gm]; exact PySem.W.mg_none_of X GN z_range),
      no_repr := (by rw [gm]; exact PySem.W.mg_none_of X GN z_repr),
      no_set := (by rw [gm]; exact PySem.W.mg_none_of X GN z_set),
      no_sorted := (by rw [gm]; exact PySem.W.mg_none_of X GN z_sorted),
      no_str := (by rw [gm]; exact PySem.W.mg_none_of X GN z_str),
      no_sum := (by rw [gm]; exact PySem.W.mg_none_of X GN z_sum),
      no_tuple := (by rw [gm]; exact PySem.W.mg_none_of X GN z_tuple),
      no_zip := (by rw [gm]; exact PySem.W.mg_none_of X GN z_zip),
      ee := (by rw [← hg]), ei := (by rw [← hg]), io := io,
      xf_place := fun c hc => by
        rw [← hg] at hc
        exact xfOf (P := fun c => XFa g c) (l := efL) (n := "place") (fun c hc => by
          have hm : c ∈ hasF efL "place" := hc
          rw [show hasF efL "place" = [4, 6] by decide +kernel] at hm
          simp only [List.mem_cons, List.not_mem_nil, or_false] at hm
          rcases hm with rfl | rfl
          · exact f_4
          · exact f_6
          ) c hc
      xf_value := fun c hc => by
        rw [← hg] at hc
        exact xfOf (P := fun c => XFa g c) (l := efL) (n := "value") (fun c hc => by
          have hm : c ∈ hasF efL "value" := hc
          rw [show hasF efL "value" = [1, 2, 3, 5] by decide +kernel] at hm
          simp only [List.mem_cons, List.not_mem_nil, or_false] at hm
          rcases hm with rfl | rfl | rfl | rfl
          · exact f_1
          · exact f_2
          · exact f_3
          · exact f_5
          ) c hc
      xf_word := fun c hc => by
        rw [← hg] at hc
        exact xfOf (P := fun c => XFa g c) (l := efL) (n := "word") (fun c hc => by
          have hm : c ∈ hasF efL "word" := hc
          rw [show hasF efL "word" = [7] by decide +kernel] at hm
          simp only [List.mem_cons, List.not_mem_nil, or_false] at hm
          rcases hm with rfl
          · exact f_7
          ) c hc
    }
  have z := fnG_of (g := g) (k := 14) (by rw [gK]; exact F15) sc_law (j_law T)
  subst hg
  exact z
end Sm

open PySem PySem.W PyProof.Rows in
set_option maxRecDepth 100000 in
set_option maxHeartbeats 0 in
theorem PySem.Challenge.cw_piledtrees_k30_exceptions_of_the_first_p_holds : PySem.Challenge.rw_piledtrees_k30_exceptions_of_the_first_p.Holds := by
  w_on; o_law; k_head; (case hw => w_witness2)
  k_fill
  refine Sm.walk_T (l := PySem.Challenge.rw_piledtrees_k30_exceptions_of_the_first_p) (n := 63) (k := 15) (x := "_law_script") (c := Sm.c_law) rfl (by decide) rfl ⟨rfl, by decide, by decide⟩ (fun w h Y => by first | exact Y | exact ⟨PySem.W.kIn_of Y, fun _ z => nomatch z⟩) ?F (fun ns hl => Sm.law_run ns)
  case F =>
    intro w mg fa h KX G hmg ht
    refine' Sm.all_mk KX G hmg ht ?a0 ?l0 ?c0 ?k0 ?a1 ?l1 ?c1 ?k1 ?a2 ?l2 ?c2 ?k2 ?a3 ?l3 ?c3 ?k3 ?a4 ?l4 ?c4 ?k4 ?a5 ?l5 ?c5 ?w5 ?e5 ?t5 ?u5 ?v5 ?k5 ?a6 ?l6 ?c6 ?k6 ?a7 ?l7 ?c7 ?k7 ?a8 ?l8 ?c8 ?k8 ?a9 ?l9 ?c9 ?k9 ?a10 ?l10 ?c10 ?k10 ?a11 ?l11 ?c11 ?k11 ?a12 ?l12 ?c12 ?k12 ?a13 ?l13 ?c13 ?k13 ?a14 ?l14 ?c14 ?k14 ?a15 ?l15 ?c15 ?k15 ?mc_FILE ?mc_FOLDER ?mc_LETTERS ?mc_MOST_DEEP ?mc_MOST_LETTERS ?mc_MOST_NODES ?mc_MOST_NUMBER ?A0 ?A1 ?A2 ?A3 ?A4 ?A5 ?A6 ?A7 ?q_1 ?i_1 ?l_1 ?c_1 ?d_1 ?v_1 ?m_1 ?e_1 ?D_1 ?r_1 ?H_1 ?s_1 ?u_1 ?V_1 ?S_1 ?y_1 ?n_1 ?Y_1 ?k_1 ?g_1 ?t_1 ?B_1 ?L_1 ?O_1 ?W_1 ?q_2 ?i_2 ?l_2 ?c_2 ?d_2 ?v_2 ?m_2 ?e_2 ?D_2 ?r_2 ?H_2 ?s_2 ?u_2 ?V_2 ?S_2 ?y_2 ?n_2 ?k_2 ?g_2 ?t_2 ?B_2 ?L_2 ?O_2 ?W_2 ?q_3 ?i_3 ?l_3 ?c_3 ?d_3 ?v_3 ?m_3 ?e_3 ?D_3 ?r_3 ?H_3 ?s_3 ?u_3 ?V_3 ?S_3 ?y_3 ?n_3 ?k_3 ?g_3 ?t_3 ?B_3 ?L_3 ?O_3 ?W_3 ?q_4 ?i_4 ?l_4 ?c_4 ?d_4 ?v_4 ?m_4 ?e_4 ?D_4 ?r_4 ?H_4 ?s_4 ?u_4 ?V_4 ?S_4 ?y_4 ?n_4 ?k_4 ?g_4 ?t_4 ?B_4 ?L_4 ?O_4 ?W_4 ?q_5 ?i_5 ?l_5 ?c_5 ?d_5 ?v_5 ?m_5 ?e_5 ?D_5 ?r_5 ?H_5 ?s_5 ?u_5 ?V_5 ?S_5 ?y_5 ?n_5 ?k_5 ?g_5 ?t_5 ?B_5 ?L_5 ?O_5 ?W_5 ?q_6 ?i_6 ?l_6 ?c_6 ?d_6 ?v_6 ?m_6 ?e_6 ?D_6 ?r_6 ?H_6 ?s_6 ?u_6 ?V_6 ?S_6 ?y_6 ?n_6 ?k_6 ?g_6 ?t_6 ?B_6 ?L_6 ?O_6 ?W_6 ?q_7 ?i_7 ?l_7 ?c_7 ?d_7 ?v_7 ?m_7 ?e_7 ?D_7 ?r_7 ?H_7 ?s_7 ?u_7 ?V_7 ?S_7 ?y_7 ?n_7 ?k_7 ?g_7 ?t_7 ?B_7 ?L_7 ?O_7 ?W_7 ?no ?sp ?tk ?z_ValueError ?z_all ?z_bool ?z_enumerate ?z_int ?z_isinstance ?z_len ?z_range ?z_repr ?z_set ?z_sorted ?z_str ?z_sum ?z_super ?z_tuple ?z_zip ?x0 ?x1 ?x2 ?x3 ?x4 ?x5 ?x6 ?x7 ?x8 ?x9 ?x10 ?x11 ?x12 ?x13 ?x14 ?x15 ?x16 ?x17 ?x18 ?x19 ?x20 ?x21 ?x22 ?x23 ?x24 ?x25 ?x26 ?x27 ?x28 ?x29 ?x30 ?x31 ?x32 ?x33 ?x34 ?x35 ?x36 ?x37 ?x38 ?x39 ?x40 ?x41 ?x42 ?x43 ?x44 ?x45 ?x46 ?x47 ?x48 ?x49 ?x50 ?x51 ?x52 ?x53 ?x54 ?x55 ?x56 ?x57 ?x58 ?x59 ?x60 ?x61 ?x62 ?x63 ?x64
    (case a0 => k_is)
    (case l0 => k_is)
    (case c0 => k_is)
    (case k0 => k_is)
    (case a1 => k_is)
    (case l1 => k_is)
    (case c1 => k_is)
    (case k1 => k_is)
    (case a2 => k_is)
    (case l2 => k_is)
    (case c2 => k_is)
    (case k2 => k_is)
    (case a3 => k_is)
    (case l3 => k_is)
    (case c3 => k_is)
    (case k3 => k_is)
    (case a4 => k_is)
    (case l4 => k_is)
    (case c4 => k_is)
    (case k4 => k_is)
    (case a5 => k_is)
    (case l5 => k_is)
    (case c5 => k_is)
    (case w5 => k_is)
    (case e5 => rfl)
    (case t5 => kernel_rfl)
    (case u5 => kernel_rfl)
    (case v5 => first | k_mem | decide)
    (case k5 => k_is)
    (case a6 => k_is)
    (case l6 => k_is)
    (case c6 => k_is)
    (case k6 => k_is)
    (case a7 => k_is)
    (case l7 => k_is)
    (case c7 => k_is)
    (case k7 => k_is)
    (case a8 => k_is)
    (case l8 => k_is)
    (case c8 => k_is)
    (case k8 => k_is)
    (case a9 => k_is)
    (case l9 => k_is)
    (case c9 => k_is)
    (case k9 => k_is)
    (case a10 => k_is)
    (case l10 => k_is)
    (case c10 => k_is)
    (case k10 => k_is)
    (case a11 => k_is)
    (case l11 => k_is)
    (case c11 => k_is)
    (case k11 => k_is)
    (case a12 => k_is)
    (case l12 => k_is)
    (case c12 => k_is)
    (case k12 => k_is)
    (case a13 => k_is)
    (case l13 => k_is)
    (case c13 => k_is)
    (case k13 => k_is)
    (case a14 => k_is)
    (case l14 => k_is)
    (case c14 => k_is)
    (case k14 => k_is)
    (case a15 => k_is)
    (case l15 => k_is)
    (case c15 => k_is)
    (case k15 => k_is)
    (case mc_FILE => k_is)
    (case mc_FOLDER => k_is)
    (case mc_LETTERS => k_is)
    (case mc_MOST_DEEP => k_is)
    (case mc_MOST_LETTERS => k_is)
    (case mc_MOST_NODES => k_is)
    (case mc_MOST_NUMBER => k_is)
    (case A0 => k_is)
    (case A1 => k_is)
    (case A2 => k_is)
    (case A3 => k_is)
    (case A4 => k_is)
    (case A5 => k_is)
    (case A6 => k_is)
    (case A7 => k_is)
    (case q_1 => kx_is)
    (case i_1 => k_is)
    (case l_1 => k_is)
    (case c_1 => k_is)
    (case d_1 => k_is)
    (case v_1 => rfl)
    (case m_1 => rfl)
    (case e_1 => k_is)
    (case D_1 => k_is)
    (case r_1 => rfl)
    (case H_1 => rfl)
    (case s_1 => k_is)
    (case u_1 => ks_is)
    (case V_1 => k_is)
    (case S_1 => k_is)
    (case y_1 => k_is)
    (case n_1 => k_is)
    (case Y_1 => k_is)
    (case k_1 => k_is)
    (case g_1 => k_is)
    (case t_1 => k_is)
    (case B_1 => k_is)
    (case L_1 => k_is)
    (case O_1 => k_is)
    (case W_1 => k_is)
    (case q_2 => kx_is)
    (case i_2 => k_is)
    (case l_2 => k_is)
    (case c_2 => k_is)
    (case d_2 => k_is)
    (case v_2 => rfl)
    (case m_2 => rfl)
    (case e_2 => k_is)
    (case D_2 => k_is)
    (case r_2 => rfl)
    (case H_2 => rfl)
    (case s_2 => k_is)
    (case u_2 => ks_is)
    (case V_2 => k_is)
    (case S_2 => k_is)
    (case y_2 => k_is)
    (case n_2 => k_is)
    (case k_2 => k_is)
    (case g_2 => k_is)
    (case t_2 => k_is)
    (case B_2 => k_is)
    (case L_2 => k_is)
    (case O_2 => k_is)
    (case W_2 => k_is)
    (case q_3 => kx_is)
    (case i_3 => k_is)
    (case l_3 => k_is)
    (case c_3 => k_is)
    (case d_3 => k_is)
    (case v_3 => rfl)
    (case m_3 => rfl)
    (case e_3 => k_is)
    (case D_3 => k_is)
    (case r_3 => rfl)
    (case H_3 => rfl)
    (case s_3 => k_is)
    (case u_3 => ks_is)
    (case V_3 => k_is)
    (case S_3 => k_is)
    (case y_3 => k_is)
    (case n_3 => k_is)
    (case k_3 => k_is)
    (case g_3 => k_is)
    (case t_3 => k_is)
    (case B_3 => k_is)
    (case L_3 => k_is)
    (case O_3 => k_is)
    (case W_3 => k_is)
    (case q_4 => kx_is)
    (case i_4 => k_is)
    (case l_4 => k_is)
    (case c_4 => k_is)
    (case d_4 => k_is)
    (case v_4 => rfl)
    (case m_4 => rfl)
    (case e_4 => k_is)
    (case D_4 => k_is)
    (case r_4 => rfl)
    (case H_4 => rfl)
    (case s_4 => k_is)
    (case u_4 => ks_is)
    (case V_4 => k_is)
    (case S_4 => k_is)
    (case y_4 => k_is)
    (case n_4 => k_is)
    (case k_4 => k_is)
    (case g_4 => k_is)
    (case t_4 => k_is)
    (case B_4 => k_is)
    (case L_4 => k_is)
    (case O_4 => k_is)
    (case W_4 => k_is)
    (case q_5 => kx_is)
    (case i_5 => k_is)
    (case l_5 => k_is)
    (case c_5 => k_is)
    (case d_5 => k_is)
    (case v_5 => rfl)
    (case m_5 => rfl)
    (case e_5 => k_is)
    (case D_5 => k_is)
    (case r_5 => rfl)
    (case H_5 => rfl)
    (case s_5 => k_is)
    (case u_5 => ks_is)
    (case V_5 => k_is)
    (case S_5 => k_is)
    (case y_5 => k_is)
    (case n_5 => k_is)
    (case k_5 => k_is)
    (case g_5 => k_is)
    (case t_5 => k_is)
    (case B_5 => k_is)
    (case L_5 => k_is)
    (case O_5 => k_is)
    (case W_5 => k_is)
    (case q_6 => kx_is)
    (case i_6 => k_is)
    (case l_6 => k_is)
    (case c_6 => k_is)
    (case d_6 => k_is)
    (case v_6 => rfl)
    (case m_6 => rfl)
    (case e_6 => k_is)
    (case D_6 => k_is)
    (case r_6 => rfl)
    (case H_6 => rfl)
    (case s_6 => k_is)
    (case u_6 => ks_is)
    (case V_6 => k_is)
    (case S_6 => k_is)
    (case y_6 => k_is)
    (case n_6 => k_is)
    (case k_6 => k_is)
    (case g_6 => k_is)
    (case t_6 => k_is)
    (case B_6 => k_is)
    (case L_6 => k_is)
    (case O_6 => k_is)
    (case W_6 => k_is)
    (case q_7 => kx_is)
    (case i_7 => k_is)
    (case l_7 => k_is)
    (case c_7 => k_is)
    (case d_7 => k_is)
    (case v_7 => rfl)
    (case m_7 => rfl)
    (case e_7 => k_is)
    (case D_7 => k_is)
    (case r_7 => rfl)
    (case H_7 => rfl)
    (case s_7 => k_is)
    (case u_7 => ks_is)
    (case V_7 => k_is)
    (case S_7 => k_is)
    (case y_7 => k_is)
    (case n_7 => k_is)
    (case k_7 => k_is)
    (case g_7 => k_is)
    (case t_7 => k_is)
    (case B_7 => k_is)
    (case L_7 => k_is)
    (case O_7 => k_is)
    (case W_7 => k_is)
    (case no => k_is)
    (case sp => k_is)
    (case tk => k_is)
    (case z_ValueError => k_is)
    (case z_all => k_is)
    (case z_bool => k_is)
    (case z_enumerate => k_is)
    (case z_int => k_is)
    (case z_isinstance => k_is)
    (case z_len => k_is)
    (case z_range => k_is)
    (case z_repr => k_is)
    (case z_set => k_is)
    (case z_sorted => k_is)
    (case z_str => k_is)
    (case z_sum => k_is)
    (case z_super => k_is)
    (case z_tuple => k_is)
    (case z_zip => k_is)
    (case x0 => kit_is)
    (case x1 => kit_is)
    (case x2 => kit_is)
    (case x3 => kit_is)
    (case x4 => kit_is)
    (case x5 => kit_is)
    (case x6 => kit_is)
    (case x7 => kit_is)
    (case x8 => kit_is)
    (case x9 => kit_is)
    (case x10 => kit_is)
    (case x11 => kit_is)
    (case x12 => kit_is)
    (case x13 => kit_is)
    (case x14 => kit_is)
    (case x15 => kit_is)
    (case x16 => kit_is)
    (case x17 => kit_is)
    (case x18 => kit_is)
    (case x19 => kit_is)
    (case x20 => kit_is)
    (case x21 => kit_is)
    (case x22 => kit_is)
    (case x23 => kit_is)
    (case x24 => kit_is)
    (case x25 => kit_is)
    (case x26 => kit_is)
    (case x27 => kit_is)
    (case x28 => kit_is)
    (case x29 => kit_is)
    (case x30 => kit_is)
    (case x31 => kit_is)
    (case x32 => kit_is)
    (case x33 => kit_is)
    (case x34 => kit_is)
    (case x35 => kit_is)
    (case x36 => kit_is)
    (case x37 => kit_is)
    (case x38 => kit_is)
    (case x39 => kit_is)
    (case x40 => kit_is)
    (case x41 => kit_is)
    (case x42 => kit_is)
    (case x43 => kit_is)
    (case x44 => kit_is)
    (case x45 => kit_is)
    (case x46 => kit_is)
    (case x47 => kit_is)
    (case x48 => kit_is)
    (case x49 => kit_is)
    (case x50 => kit_is)
    (case x51 => kit_is)
    (case x52 => kit_is)
    (case x53 => kit_is)
    (case x54 => kit_is)
    (case x55 => kit_is)
    (case x56 => kit_is)
    (case x57 => kit_is)
    (case x58 => kit_is)
    (case x59 => kit_is)
    (case x60 => kit_is)
    (case x61 => kit_is)
    (case x62 => kit_is)
    (case x63 => kit_is)
    (case x64 => kit_is)
#print axioms PySem.Challenge.cw_piledtrees_k30_exceptions_of_the_first_p_holds
