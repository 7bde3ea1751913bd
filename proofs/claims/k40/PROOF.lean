import PyProof.Rows.All
import Wide.All
import OpenK.AllK
import Wide.FinOn
import HandS.ForMost
import HandS.Exc
import HandS.ExcOwn
import HandS.WordsExc
import HandS.CallSlots
import HandS.Walk
import HandS.Lambda
import KE.KDflt
import HandS.IsInst
import HandS.TupAny
import HandS.Style
import HandS.Wide
import HandS.Deep
import HandS.ExcInit
import KE.KExcSuper
import KE.KFromBytes
import KE.DataEq
import KE.DataIsa
import KE.SortData
import HandS.More
import HandS.ExcField
import HandS.Small
import KE.KExcIs
import HandS.Comp
import HandS.Words
import HandS.Ends
import HandS.EndTab
import HandS.Nested
import HandS.Zip
import HandS.TupSets
import HandS.SetFor
import HandS.Strs
import KE.KNestM
import HandS.Text
import HandS.DictComp
import HandS.DictTup
import KE.KDictCopyH
import HandS.TupLen
import HandS.SetKeys
import KE.KDictKeyed
import KE.KDictPairs
import KE.KItemsList
import HandS.Conv
import HandS.Star
import KE.GoesEnum
import PyProof.EnumMake
import HandS.Codes
import KE.KDictWalk
import PyProof.SetRoads
import KE.DataMinMax
import HandS.SetTxt0
import KE.KDictSum
import HandS.TupMul
import PyProof.AutoSeq1
import KE.DataCmp
import PyProof.WalksMore
import HandS.Head2
import HandS.HeadHook4
import PyProof.TableCode
import PySem.Challenge.RW_piledtrees_k40_whole_stands
set_option Elab.async false
set_option linter.all false
set_option maxRecDepth 100000
set_option maxHeartbeats 4000000
namespace Sm
open PySem PySem.Spec PyProof.Rows L2
/-- texts compared sign by sign: what the kernel reckons fast -/
noncomputable def eqNs : List Nat → List Nat → Bool
  | [], [] => true
  | a :: as, b :: bs => Nat.beq a b && eqNs as bs
  | _, _ => false
theorem eqNs_iff : ∀ {a b : List Nat}, eqNs a b = true ↔ a = b
  | [], [] => by simp [eqNs]
  | [], _ :: _ => by simp [eqNs]
  | _ :: _, [] => by simp [eqNs]
  | a :: as, b :: bs => by
    unfold eqNs
    rw [Bool.and_eq_true, Nat.beq_eq, eqNs_iff (a := as) (b := bs), List.cons.injEq]
noncomputable def strDec : DecidableEq Str := fun a b => decidable_of_bool (eqNs a.cps.toList b.cps.toList) (by
  obtain ⟨⟨a⟩⟩ := a
  obtain ⟨⟨b⟩⟩ := b
  rw [eqNs_iff]
  simp)
noncomputable abbrev St := L2.St
/-- a value, told as data; objects that change stand in the abstract heap -/
inductive D where
  | non | bl (b : Bool) | int (i : Int) | str (x : Str)
  | tup (ds : List D) | lst (ds : List D)
  | dct (ks : List Key) (ds : List D)
  | ref (a : Nat) | cls (c : Nat) | fn (f : Nat)
  | exc (c : Nat) (ds : List D)
  | ty (n : String)
  | lam (j : Nat) (caps : List D)
  /-- a pair that a walk hands out -/
  | wtp (ds : List D)
  deriving Inhabited
inductive AO where
  | lst (ds : List D)
  | dct (lk : Bool) (kvs : List (D × D))
  | dtt (lk : Bool) (kvs : List (D × D))
  | ins (c : Nat) (fs : List (Str × D))
  deriving Inhabited
noncomputable abbrev HA := List AO
noncomputable abbrev SA := List (Option D)
/-- a lambda of the text: its name, its words, the names that it captures -/
structure LamRec where
  q : Str
  params : Arguments
  body : Expr
  scope : Scope
  ps : List Str
  fr : List Str
  /-- the constant that its last name has of itself, if any -/
  df : Option Int
/-- what is fixed for a law -/
structure G where
  prog : Program
  w : World
  K : PySem.W.Frag
  mg : Str → Option Value
  base : Heap
  fa : Nat → Addr
  ca : Nat → Addr
  ef : Nat → List Str
  isa : String ⊕ Nat → String ⊕ Nat → Option Bool
  lm : Nat → LamRec
  tabs : List (Addr × Str)
noncomputable def KTup (K : PySem.W.Frag) (a : Addr) (xs : List V) : Prop :=
  ∃ (o : Obj) (its : Array Value) (n : Nat), K.lookup a = some o ∧ o.cls = .type "tuple" ∧ o.dict = none ∧ o.data = .seq its n ∧ its.size ≤ sizeLine ∧ Vals xs its.toList
/-- a tuple that the text has made: its object has no dict -/
noncomputable def PTu (H : Hp) (m : List Addr) (p : Addr) (vs : List V) : Prop := ∃ o, H p = some (.frz o (.tup vs)) ∧ o.dict = none ∧ p ∉ m
noncomputable def KLst (K : PySem.W.Frag) (a : Addr) (xs : List V) : Prop :=
  ∃ (o : Obj) (its : Array Value) (n : Nat), K.lookup a = some o ∧ o.cls = .type "list" ∧ o.dict = none ∧ o.data = .seq its n ∧ its.size ≤ sizeLine ∧ Vals xs its.toList
/-- an exception's object: its class, its dict -/
noncomputable def XO (C dd a : Addr) : HO := .ext fun h => ∃ (oe : Obj) (vs : Array Value), h.get? a = some oe ∧ Zc (.ref C) (some dd) oe ∧ oe.data = .fields vs
/-- a function object made of a lambda; a cell, its object told -/
noncomputable def dfV (L : LamRec) (T : Addr) : Value := match L.df with | none => .none | some _ => .ref T
noncomputable def dfL (L : LamRec) : List V := match L.df with | none => [] | some i => [.int i]
noncomputable def dfD (L : LamRec) : List D := match L.df with | none => [] | some i => [.int i]
noncomputable def LamO (L : LamRec) (cl : List (Str × Addr)) (c T f : Addr) : HO := .ext fun h => ∃ (pm doc ctv : Value), h.get? f = some (PySem.W.kdv_obj "<lambda>" L.q L.params (.expr L.body) L.scope cl (dfV L T) doc pm c ctv)
noncomputable def CellX (c : Addr) (o : Obj) : HO := .ext fun h => h.get? c = some o
/-- the cells of captured names -/
inductive CellsV (H : Hp) (m : List Addr) (cl : List (Str × Addr)) : List Str → List V → Prop
  | nil : CellsV H m cl [] []
  | cons {x : Str} {c : Addr} {o : Obj} {u : Value} {v : V} {xs : List Str} {vs : List V} : cl.lookup x = some c → H c = some (CellX c o) → c ∉ m → o.data = .cell (some u) → RelV v u → CellsV H m cl xs vs → CellsV H m cl (x :: xs) (v :: vs)
/-- a closure's names are the captured ones, its cells differ -/
structure ClOk (cl : List (Str × Addr)) (fr : List Str) : Prop where
  sub : ∀ y c, cl.lookup y = some c → y ∈ fr
  inj : ∀ x y c, cl.lookup x = some c → cl.lookup y = some c → x = y
structure CellsQ (H : Hp) (m : List Addr) (cl : List (Str × Addr)) (fr : List Str) (vs : List V) (df : Option Int) (T : Addr) : Prop where
  ok : ClOk cl fr
  v : CellsV H m cl fr vs
  d : ∀ i, df = some i → PTu H m T [.int i]
mutual
inductive DV (g : G) (H : Hp) (m : List Addr) : D → V → Prop
  | non : DV g H m .non .non
  | bl (b : Bool) : DV g H m (.bl b) (.bl b)
  | int (i : Int) : DV g H m (.int i) (.int i)
  | str (x : Str) : DV g H m (.str x) (.str x)
  | ty (n : String) : DV g H m (.ty n) (.ty n)
  | tup {ds : List D} {vs : List V} {p : Addr} : (PTu H m p vs ∨ KTup g.K p vs) → DVs g H m ds vs → DV g H m (.tup ds) (.ref p)
  | wtp {ds : List D} {vs : List V} {p : Addr} : H p = some (.tup vs) → p ∉ m → DVs g H m ds vs → DV g H m (.wtp ds) (.ref p)
  | lst {ds : List D} {vs : List V} {p : Addr} : ((∃ o, H p = some (.frz o (.lst vs)) ∧ p ∉ m) ∨ KLst g.K p vs) → DVs g H m ds vs → DV g H m (.lst ds) (.ref p)
  | dct {ks : List Key} {ds : List D} {vs : List V} {p : Addr} : (∃ o, H p = some (.frz o (.dK (ks.zip vs))) ∧ p ∉ m) → ks.length = ds.length → DVs g H m ds vs → DV g H m (.dct ks ds) (.ref p)
  | ref {a : Nat} {p : Addr} : m[a]? = some p → DV g H m (.ref a) (.ref p)
  | cls (c : Nat) : DV g H m (.cls c) (.ref (g.ca c))
  | fn (f : Nat) : DV g H m (.fn f) (.ref (g.fa f))
  | exc {c : Nat} {ds : List D} {vs : List V} {p q : Addr} : H p = some (XO (g.ca c) q p) → p ∉ m → H q = some (.xd ((g.ef c).zip vs)) → q ∉ m → (g.ef c).length = ds.length → DVs g H m ds vs → DV g H m (.exc c ds) (.ref p)
  | lam {j : Nat} {ds : List D} {vs : List V} {p c T : Addr} {cl : List (Str × Addr)} : H p = some (LamO (g.lm j) cl c T p) → p ∉ m → H c = some (LamX.CodeO c (g.lm j).q) → c ∉ m → CellsQ H m cl (g.lm j).fr vs (g.lm j).df T → DVs g H m ds (dfL (g.lm j) ++ vs) → DV g H m (.lam j ds) (.ref p)
inductive DVs (g : G) (H : Hp) (m : List Addr) : List D → List V → Prop
  | nil : DVs g H m [] []
  | cons {d : D} {v : V} {ds : List D} {vs : List V} : DV g H m d v → DVs g H m ds vs → DVs g H m (d :: ds) (v :: vs)
end
/-- what a step may do: new objects, changes at the abstract heap's addresses alone -/
structure Gr (m m' : List Addr) (H H' : Hp) : Prop where
  ext : ∃ n, m' = m ++ n ∧ ∀ p ∈ n, H p = none
  keepN : ∀ p o, H p = some o → p ∉ m → (∀ ps, o ≠ .tbl ps) → H' p = some o
  tbl : ∀ p ps, H p = some (.tbl ps) → ∃ more, H' p = some (.tbl (ps ++ more))
  non : ∀ p, H' p = none → H p = none
  lk : ∀ p o u, H p = some (.frz o u) → H' p = some (.frz o u)
theorem Gr.keep {m m' : List Addr} {H H' : Hp} (a : Gr m m' H H') (p : Addr) (o : HO) (h : H p = some o) (hm : p ∉ m) (ht : ∀ ps, o ≠ .tbl ps := by intro _ z; cases z) : H' p = some o := a.keepN p o h hm ht
/-- nothing that stands is changed -/
theorem Gr.mk' {m m' : List Addr} {H H' : Hp} (e : ∃ n, m' = m ++ n ∧ ∀ p ∈ n, H p = none) (k : ∀ p o, H p = some o → (p ∉ m ∨ (∃ ps, o = .tbl ps) ∨ ∃ ob u, o = .frz ob u) → H' p = some o) (n : ∀ p, H' p = none → H p = none) : Gr m m' H H' :=
  ⟨e, fun p o h hm _ => k p o h (.inl hm), fun p ps h => ⟨#[], by rw [k p _ h (.inr (.inl ⟨ps, rfl⟩))]; simp⟩, n, fun p ob u h => k p _ h (.inr (.inr ⟨ob, u, rfl⟩))⟩
theorem Gr.refl (m : List Addr) (H : Hp) : Gr m m H H := Gr.mk' ⟨[], by simp, by simp⟩ (fun _ _ h _ => h) fun _ h => h
theorem Gr.trans {m m1 m2 : List Addr} {H H1 H2 : Hp} (a : Gr m m1 H H1) (b : Gr m1 m2 H1 H2) : Gr m m2 H H2 := by
  obtain ⟨n1, rfl, f1⟩ := a.ext
  obtain ⟨n2, rfl, f2⟩ := b.ext
  refine ⟨⟨n1 ++ n2, by simp, fun p hp => ?_⟩, fun p o h hm ht => ?_, fun p ps h => ?_, fun p h => a.non p (b.non p h), fun p o u h => b.lk p o u (a.lk p o u h)⟩
  · rcases List.mem_append.mp hp with h | h
    · exact f1 p h
    · exact a.non p (f2 p h)
  · refine b.keep p o (a.keep p o h hm ht) (fun hp => ?_) ht
    rcases List.mem_append.mp hp with h1 | h1
    · exact hm h1
    · rw [f1 p h1] at h; cases h
  · obtain ⟨m1, e1⟩ := a.tbl p ps h
    obtain ⟨m2, e2⟩ := b.tbl p _ e1
    exact ⟨m1 ++ m2, by rw [e2, Array.append_assoc]⟩
theorem Gr.get {m m' : List Addr} {H H' : Hp} (a : Gr m m' H H') {i : Nat} {p : Addr} (h : m[i]? = some p) : m'[i]? = some p := by
  obtain ⟨n, rfl, _⟩ := a.ext
  rw [List.getElem?_append_left (by exact (List.getElem?_eq_some_iff.mp h).1)]
  exact h
theorem Gr.notin {m m' : List Addr} {H H' : Hp} (a : Gr m m' H H') {p : Addr} {o : HO} (h : H p = some o) (hm : p ∉ m) : p ∉ m' := by
  obtain ⟨n, rfl, f⟩ := a.ext
  intro hp
  rcases List.mem_append.mp hp with h1 | h1
  · exact hm h1
  · rw [f p h1] at h; cases h
theorem Gr.new {m : List Addr} {H : Hp} {p : Addr} {o : HO} (h : H p = none) : Gr m m H (upd H p o) := by
  refine Gr.mk' ⟨[], by simp, by simp⟩ (fun q u hq _ => ?_) fun q hq => ?_
  · rw [upd_ne (fun e => by rw [e, h] at hq; cases hq)]; exact hq
  · by_cases e : q = p
    · subst e; exact h
    · rw [upd_ne e] at hq; exact hq
/-- as Gr, but lists outside may change -/
structure GrW (m m' : List Addr) (H H' : Hp) : Prop where
  ext : ∃ n, m' = m ++ n ∧ ∀ p ∈ n, H p = none
  keepN : ∀ p o, H p = some o → p ∉ m → (∀ ps, o ≠ .tbl ps) → (∀ xs, o ≠ .lst xs) → (∀ ks, o ≠ .dK ks) → H' p = some o
  non : ∀ p, H' p = none → H p = none
theorem GrW.keep {m m' : List Addr} {H H' : Hp} (a : GrW m m' H H') (p : Addr) (o : HO) (h : H p = some o) (hm : p ∉ m) (ht : ∀ ps, o ≠ .tbl ps := by intro _ z; cases z) (hl : ∀ ps, o ≠ .lst ps := by intro _ z; cases z) (hk : ∀ ks, o ≠ .dK ks := by intro _ z; cases z) : H' p = some o := a.keepN p o h hm ht hl hk
theorem Gr.w {m m' : List Addr} {H H' : Hp} (a : Gr m m' H H') : GrW m m' H H' := ⟨a.ext, fun p o h hm ht _ _ => a.keepN p o h hm ht, a.non⟩
theorem GrW.trans {m m1 m2 : List Addr} {H H1 H2 : Hp} (a : GrW m m1 H H1) (b : GrW m1 m2 H1 H2) : GrW m m2 H H2 := by
  obtain ⟨n1, rfl, f1⟩ := a.ext
  obtain ⟨n2, rfl, f2⟩ := b.ext
  refine ⟨⟨n1 ++ n2, by simp, fun p hp => ?_⟩, fun p o h hm ht hl hk => ?_, fun p h => a.non p (b.non p h)⟩
  · rcases List.mem_append.mp hp with h | h
    · exact f1 p h
    · exact a.non p (f2 p h)
  · refine b.keep p o (a.keep p o h hm ht hl hk) (fun hp => ?_) ht hl hk
    rcases List.mem_append.mp hp with h1 | h1
    · exact hm h1
    · rw [f1 p h1] at h; cases h
/-- .. and what is frozen stays -/
structure GrX (m m' : List Addr) (H H' : Hp) : Prop where
  w : GrW m m' H H'
  lk : ∀ p o u, H p = some (.frz o u) → H' p = some (.frz o u)
theorem Gr.x {m m' : List Addr} {H H' : Hp} (a : Gr m m' H H') : GrX m m' H H' := ⟨a.w, a.lk⟩
theorem GrX.trans {m m1 m2 : List Addr} {H H1 H2 : Hp} (a : GrX m m1 H H1) (b : Gr m1 m2 H1 H2) : GrX m m2 H H2 := ⟨a.w.trans b.w, fun p o u h => b.lk p o u (a.lk p o u h)⟩
theorem GrW.get {m m' : List Addr} {H H' : Hp} (a : GrW m m' H H') {i : Nat} {p : Addr} (h : m[i]? = some p) : m'[i]? = some p := by
  obtain ⟨n, rfl, _⟩ := a.ext
  rw [List.getElem?_append_left (by exact (List.getElem?_eq_some_iff.mp h).1)]
  exact h
theorem GrW.notin {m m' : List Addr} {H H' : Hp} (a : GrW m m' H H') {p : Addr} {o : HO} (h : H p = some o) (hm : p ∉ m) : p ∉ m' := by
  obtain ⟨n, rfl, f⟩ := a.ext
  intro hp
  rcases List.mem_append.mp hp with h1 | h1
  · exact hm h1
  · rw [f p h1] at h; cases h
section
variable {g : G} {H H' : Hp} {m m' : List Addr}
theorem CellsV.mono (a : Gr m m' H H') {cl : List (Str × Addr)} : ∀ {xs : List Str} {vs : List V}, CellsV H m cl xs vs → CellsV H' m' cl xs vs
  | _, _, .nil => .nil
  | _, _, .cons h1 h2 h3 h4 h5 h6 => .cons h1 (a.keep _ _ h2 h3) (a.notin h2 h3) h4 h5 (CellsV.mono a h6)
theorem PTu.mono (a : Gr m m' H H') {p : Addr} {vs : List V} (h : PTu H m p vs) : PTu H' m' p vs := let ⟨o, h1, h2, h3⟩ := h; ⟨o, a.keep _ _ h1 h3, h2, a.notin h1 h3⟩
theorem CellsQ.mono (a : Gr m m' H H') {cl : List (Str × Addr)} {xs : List Str} {vs : List V} {df : Option Int} {T : Addr} (h : CellsQ H m cl xs vs df T) : CellsQ H' m' cl xs vs df T := ⟨h.ok, h.v.mono a, fun i e => (h.d i e).mono a⟩
theorem PTu.monoW (a : GrW m m' H H') {p : Addr} {vs : List V} (h : PTu H m p vs) : PTu H' m' p vs := let ⟨o, h1, h2, h3⟩ := h; ⟨o, a.keep _ _ h1 h3, h2, a.notin h1 h3⟩
mutual
theorem DV.mono (a : Gr m m' H H') : ∀ {d : D} {v : V}, DV g H m d v → DV g H' m' d v
  | _, _, .non => .non
  | _, _, .bl b => .bl b
  | _, _, .int i => .int i
  | _, _, .str x => .str x
  | _, _, .ty n => .ty n
  | _, _, .tup h hs => .tup (h.imp (fun h => h.mono a) id) (DVs.mono a hs)
  | _, _, .wtp h1 h2 hs => .wtp (a.keep _ _ h1 h2) (a.notin h1 h2) (DVs.mono a hs)
  | _, _, .lst h hs => .lst (h.imp (fun h => let ⟨o, h1, h2⟩ := h; ⟨o, a.keep _ _ h1 h2, a.notin h1 h2⟩) id) (DVs.mono a hs)
  | _, _, .dct h hl hs => .dct (let ⟨o, h1, h2⟩ := h; ⟨o, a.keep _ _ h1 h2, a.notin h1 h2⟩) hl (DVs.mono a hs)
  | _, _, .ref h => .ref (a.get h)
  | _, _, .cls c => .cls c
  | _, _, .fn f => .fn f
  | _, _, .exc h1 h2 h3 h4 h6 h5 => .exc (a.keep _ _ h1 h2) (a.notin h1 h2) (a.keep _ _ h3 h4) (a.notin h3 h4) h6 (DVs.mono a h5)
  | _, _, .lam h1 h2 h3 h4 h5 h6 => .lam (a.keep _ _ h1 h2) (a.notin h1 h2) (a.keep _ _ h3 h4) (a.notin h3 h4) (h5.mono a) (DVs.mono a h6)
theorem DVs.mono (a : Gr m m' H H') : ∀ {ds : List D} {vs : List V}, DVs g H m ds vs → DVs g H' m' ds vs
  | _, _, .nil => .nil
  | _, _, .cons h hs => .cons (DV.mono a h) (DVs.mono a hs)
end
theorem CellsV.monoW (a : GrW m m' H H') {cl : List (Str × Addr)} : ∀ {xs : List Str} {vs : List V}, CellsV H m cl xs vs → CellsV H' m' cl xs vs
  | _, _, .nil => .nil
  | _, _, .cons h1 h2 h3 h4 h5 h6 => .cons h1 (a.keep _ _ h2 h3) (a.notin h2 h3) h4 h5 (CellsV.monoW a h6)
theorem CellsQ.monoW (a : GrW m m' H H') {cl : List (Str × Addr)} {xs : List Str} {vs : List V} {df : Option Int} {T : Addr} (h : CellsQ H m cl xs vs df T) : CellsQ H' m' cl xs vs df T := ⟨h.ok, h.v.monoW a, fun i e => (h.d i e).monoW a⟩
mutual
theorem DV.monoW (a : GrW m m' H H') : ∀ {d : D} {v : V}, DV g H m d v → DV g H' m' d v
  | _, _, .non => .non
  | _, _, .bl b => .bl b
  | _, _, .int i => .int i
  | _, _, .str x => .str x
  | _, _, .ty n => .ty n
  | _, _, .tup h hs => .tup (h.imp (fun h => h.monoW a) id) (DVs.monoW a hs)
  | _, _, .wtp h1 h2 hs => .wtp (a.keep _ _ h1 h2) (a.notin h1 h2) (DVs.monoW a hs)
  | _, _, .lst h hs => .lst (h.imp (fun h => let ⟨o, h1, h2⟩ := h; ⟨o, a.keep _ _ h1 h2, a.notin h1 h2⟩) id) (DVs.monoW a hs)
  | _, _, .dct h hl hs => .dct (let ⟨o, h1, h2⟩ := h; ⟨o, a.keep _ _ h1 h2, a.notin h1 h2⟩) hl (DVs.monoW a hs)
  | _, _, .ref h => .ref (a.get h)
  | _, _, .cls c => .cls c
  | _, _, .fn f => .fn f
  | _, _, .exc h1 h2 h3 h4 h6 h5 => .exc (a.keep _ _ h1 h2) (a.notin h1 h2) (a.keep _ _ h3 h4) (a.notin h3 h4) h6 (DVs.monoW a h5)
  | _, _, .lam h1 h2 h3 h4 h5 h6 => .lam (a.keep _ _ h1 h2) (a.notin h1 h2) (a.keep _ _ h3 h4) (a.notin h3 h4) (h5.monoW a) (DVs.monoW a h6)
theorem DVs.monoW (a : GrW m m' H H') : ∀ {ds : List D} {vs : List V}, DVs g H m ds vs → DVs g H' m' ds vs
  | _, _, .nil => .nil
  | _, _, .cons h hs => .cons (DV.monoW a h) (DVs.monoW a hs)
end
theorem DVs.length : ∀ {ds : List D} {vs : List V}, DVs g H m ds vs → ds.length = vs.length
  | _, _, .nil => rfl
  | _, _, .cons _ hs => by simp [DVs.length hs]
theorem DVs.get : ∀ {ds : List D} {vs : List V} {i : Nat} {d : D}, DVs g H m ds vs → ds[i]? = some d → ∃ v, vs[i]? = some v ∧ DV g H m d v
  | _, _, _, _, .nil, e => by simp at e
  | _, _, 0, _, .cons h _, e => by simp at e; subst e; exact ⟨_, rfl, h⟩
  | _, _, i + 1, _, .cons _ hs, e => by
    obtain ⟨v, h1, h2⟩ := DVs.get (i := i) hs (by simpa using e)
    exact ⟨v, by simpa using h1, h2⟩
theorem DVs.set {d : D} {v : V} (h : DV g H m d v) : ∀ {ds : List D} {vs : List V} (i : Nat), DVs g H m ds vs → DVs g H m (ds.set i d) (vs.set i v)
  | _, _, _, .nil => .nil
  | _, _, 0, .cons _ hs => .cons h hs
  | _, _, i + 1, .cons q hs => .cons q (DVs.set h i hs)
theorem DVs.append : ∀ {ds es : List D} {vs ws : List V}, DVs g H m ds vs → DVs g H m es ws → DVs g H m (ds ++ es) (vs ++ ws)
  | _, _, _, _, .nil, k => k
  | _, _, _, _, .cons h hs, k => .cons h (DVs.append hs k)
theorem DVs.take : ∀ {ds : List D} {vs : List V} (n : Nat), DVs g H m ds vs → DVs g H m (ds.take n) (vs.take n)
  | _, _, 0, _ => .nil
  | _, _, _ + 1, .nil => .nil
  | _, _, n + 1, .cons h hs => .cons h (DVs.take n hs)
theorem DVs.drop : ∀ {ds : List D} {vs : List V} (n : Nat), DVs g H m ds vs → DVs g H m (ds.drop n) (vs.drop n)
  | _, _, 0, h => h
  | _, _, _ + 1, .nil => .nil
  | _, _, n + 1, .cons _ hs => DVs.drop n hs
end
noncomputable def toKey : D → Option Key
  | .int i => some (.inl i)
  | .str x => some (.inr x)
  | _ => none
noncomputable def toKeys : List D → Option (List Key)
  | [] => some []
  | d :: ds => match toKey d, toKeys ds with
    | some k, some ks => some (k :: ks)
    | _, _ => none
noncomputable def toKeyT : D → Option (List Key)
  | .tup ds => toKeys ds
  | _ => none
noncomputable def keyIsB : D → Key → Bool
  | .int i, .inl j => decide (i = j)
  | .str x, .inr y => eqNs x.cps.toList y.cps.toList
  | _, _ => false
theorem strB_iff {x y : Str} : eqNs x.cps.toList y.cps.toList = true ↔ x = y := by
  obtain ⟨⟨a⟩⟩ := x
  obtain ⟨⟨b⟩⟩ := y
  rw [eqNs_iff]
  simp
theorem keyIsB_iff {d : D} {k : Key} : keyIsB d k = true ↔ toKey d = some k := by
  cases d with
  | int i =>
    cases k with
    | inl j => simp [keyIsB, toKey]
    | inr y => simp [keyIsB, toKey]
  | str x =>
    cases k with
    | inl j => simp [keyIsB, toKey]
    | inr y =>
      show eqNs x.cps.toList y.cps.toList = true ↔ some (Sum.inr x) = some (Sum.inr y)
      rw [strB_iff, Option.some.injEq, Sum.inr.injEq]
  | _ => simp [keyIsB, toKey]
noncomputable instance (priority := 5000) keyDec (d : D) (k : Key) : Decidable (toKey d = some k) := decidable_of_bool (keyIsB d k) keyIsB_iff
noncomputable def keysIsB : List D → List Key → Bool
  | [], [] => true
  | d :: ds, k :: ks => keyIsB d k && keysIsB ds ks
  | _, _ => false
theorem keysIsB_iff : ∀ {ds : List D} {ks : List Key}, keysIsB ds ks = true ↔ toKeys ds = some ks
  | [], [] => by simp [keysIsB, toKeys]
  | [], _ :: _ => by simp [keysIsB, toKeys]
  | d :: ds, [] => by
    unfold keysIsB toKeys
    split <;> simp
  | d :: ds, k :: ks => by
    unfold keysIsB toKeys
    rw [Bool.and_eq_true, keyIsB_iff, keysIsB_iff (ds := ds) (ks := ks)]
    cases h1 : toKey d <;> cases h2 : toKeys ds <;> simp
noncomputable def keyTIsB : D → List Key → Bool
  | .tup ds, ks => keysIsB ds ks
  | _, _ => false
theorem keyTIsB_iff {d : D} {k : List Key} : keyTIsB d k = true ↔ toKeyT d = some k := by
  cases d with
  | tup ds => exact keysIsB_iff
  | _ => simp [keyTIsB, toKeyT]
noncomputable instance (priority := 5000) keyTDec (d : D) (k : List Key) : Decidable (toKeyT d = some k) := decidable_of_bool (keyTIsB d k) keyTIsB_iff
/-- a dict whose keys are tuples: the keys, their objects, the values -/
noncomputable def DTO (P : Program) (w : World) (p : Addr) (xs : List (List Key × Addr × V)) : HO := .ext fun h => xs.length ≤ sizeLine ∧ (p == sysModules) = false ∧ ∃ (o : Obj) (es : Array DictEntry) (ep : Nat) (ys : List (List Key × Addr × Value)),
  h.get? p = some o ∧ o.ExactDict ∧ o.data = .dict es ep ∧ es.toList = ys.map (entryOfKey (tupleKind (mixKind P w))) ∧ (ys.map (·.1)).Nodup ∧ Paired (fun x y => x.1 = y.1 ∧ x.2.1 = y.2.1 ∧ RelV x.2.2 y.2.2) xs ys
/-- a heap of one object, again and again -/
noncomputable def heapOf (n : Nat) (o : Obj) : Heap := { objs := Array.replicate (n + 1) o }
theorem heapOf_get {n a : Nat} {o : Obj} (ha : a ≤ n) (hd : o.data ≠ .freed) : (heapOf n o).get? a = some o := by
  unfold heapOf Heap.get?
  have e : (Array.replicate (n + 1) o)[a]? = some o := by
    rw [Array.getElem?_eq_getElem (by rw [Array.size_replicate]; omega), Array.getElem_replicate]
  show (match (Array.replicate (n + 1) o)[a]? with | some ⟨_, _, .freed, _⟩ => none | x => x) = some o
  rw [e]
  obtain ⟨c, d, dt, sl⟩ := o
  cases dt <;> first | rfl | exact absurd rfl hd
theorem dto_ne {P : Program} {w : World} {p : Addr} {xs : List (List Key × Addr × V)} {φ : Heap → Prop} (n : Nat) (o : Obj) (hp : p ≤ n) (hd : o.data ≠ .freed) (hc : o.cls ≠ .type "dict") (h : φ (heapOf n o)) : HO.ext φ ≠ DTO P w p xs := fun e => by
  unfold DTO at e
  have e := congrFun (HO.ext.inj e) (heapOf n o)
  rw [e] at h
  obtain ⟨_, _, o', _, _, _, h1, h2, _⟩ := h
  rw [heapOf_get hp hd] at h1
  cases h1
  exact hc h2.1
/-- objects told by .ext that are no dicts -/
inductive SmX : HO → Prop
  | xo (C dd a : Addr) : SmX (XO C dd a)
  | code (c : Addr) (q : Str) : SmX (LamX.CodeO c q)
theorem SmX.ext {u : HO} (h : SmX u) : ∃ φ, u = .ext φ := by
  cases h with
  | xo C dd a => exact ⟨_, rfl⟩
  | code c q => exact ⟨_, rfl⟩
theorem SmX.ne {u : HO} {P : Program} {w : World} {p : Addr} {xs : List (List Key × Addr × V)} (h : SmX u) : u ≠ DTO P w p xs := by
  cases h with
  | xo C dd a => exact dto_ne (p + a) { cls := .ref C, dict := some dd, data := .fields #[] } (Nat.le_add_right _ _) (by simp) (by simp) ⟨_, #[], heapOf_get (Nat.le_add_left _ _) (by simp), ⟨rfl, rfl⟩, rfl⟩
  | code c q => exact dto_ne (p + c) { cls := .none, data := .fields #[.none, .str q 0] } (Nat.le_add_right _ _) (by simp) (by simp) ⟨_, _, 0, heapOf_get (Nat.le_add_left _ _) (by simp), rfl, rfl⟩
section
variable (g : G) (H : Hp) (m : List Addr)
noncomputable def KVR (kvs : List (D × D)) (ks : List (Key × V)) : Prop := Paired (fun p q => toKey p.1 = some q.1 ∧ DV g H m p.2 q.2) kvs ks
noncomputable def KTR (kvs : List (D × D)) (ks : List (List Key × Addr × V)) : Prop := Paired (fun p q => toKeyT p.1 = some q.1 ∧ DV g H m p.1 (.ref q.2.1) ∧ DV g H m p.2 q.2.2) kvs ks
noncomputable def FVR (fs : List (Str × D)) (us : List (Str × V)) : Prop := Paired (fun p q => p.1 = q.1 ∧ DV g H m p.2 q.2) fs us
noncomputable def AOR : AO → Addr → Prop
  | .lst ds, p => ∃ vs, H p = some (.lst vs) ∧ DVs g H m ds vs
  | .dct false kvs, p => ∃ ks, H p = some (.dK ks) ∧ KVR g H m kvs ks
  | .dct true kvs, p => ∃ o ks, H p = some (.frz o (.dK ks)) ∧ KVR g H m kvs ks
  | .dtt false kvs, p => ∃ ks, H p = some (DTO g.prog g.w p ks) ∧ KTR g H m kvs ks
  | .dtt true kvs, p => ∃ o ks, H p = some (.frz o (DTO g.prog g.w p ks)) ∧ KTR g H m kvs ks
  | .ins c fs, p => ∃ dx us, H p = some (.ins (g.ca c) dx us) ∧ FVR g H m fs us
structure RH (A : HA) : Prop where
  nd : m.Nodup
  at_ : Paired (fun p o => AOR g H m o p) m A
  tb : LamX.Tabs g.tabs H
  tbm : ∀ p ∈ g.tabs, p.1 ∉ m
structure RS (E : SA) (σ : St) : Prop where
  len : E.length = σ.length
  at_ : ∀ (i : Nat) (d : D), E[i]? = some (some d) → ∃ v, σ[i]? = some (some v) ∧ DV g H m d v
end
section
variable {g : G} {H H' : Hp} {m m' : List Addr} {A : HA} {E : SA} {σ : St}
theorem Paired.mapR {α β : Type} {F F' : α → β → Prop} : ∀ {l₁ : List α} {l₂ : List β}, Paired F l₁ l₂ → (∀ a b, F a b → F' a b) → Paired F' l₁ l₂
  | _, _, .nil, _ => .nil
  | _, _, .cons r t, f => .cons (f _ _ r) (Paired.mapR t f)
theorem Paired.getR {α β : Type} {F : α → β → Prop} : ∀ {l₁ : List α} {l₂ : List β} {i : Nat} {b : β}, Paired F l₁ l₂ → l₂[i]? = some b → ∃ a, l₁[i]? = some a ∧ F a b
  | _, _, _, _, .nil, e => by simp at e
  | _, _, 0, _, .cons r _, e => by simp at e; subst e; exact ⟨_, rfl, r⟩
  | _, _, i + 1, _, .cons _ t, e => by
    obtain ⟨a, h1, h2⟩ := Paired.getR (i := i) t (by simpa using e)
    exact ⟨a, by simpa using h1, h2⟩
theorem Paired.memL {α β : Type} {F : α → β → Prop} : ∀ {l₁ : List α} {l₂ : List β} {a : α}, Paired F l₁ l₂ → a ∈ l₁ → ∃ b, F a b
  | _, _, _, .cons r t, e => by
    rcases List.mem_cons.mp e with rfl | e
    · exact ⟨_, r⟩
    · exact Paired.memL t e
theorem RS.mono (a : Gr m m' H H') (h : RS g H m E σ) : RS g H' m' E σ := ⟨h.len, fun i d e => let ⟨v, h1, h2⟩ := h.at_ i d e; ⟨v, h1, h2.mono a⟩⟩
theorem RS.set {d : D} {v : V} (h : RS g H m E σ) (i : Nat) (r : DV g H m d v) : RS g H m (E.set i (some d)) (σ.set i (some v)) := by
  refine ⟨by simp [h.len], fun j e hj => ?_⟩
  by_cases hij : i = j
  · subst hij
    by_cases hl : i < E.length
    · rw [List.getElem?_set_self hl] at hj
      simp at hj; subst hj
      exact ⟨v, by rw [List.getElem?_set_self (by rw [← h.len]; exact hl)], r⟩
    · rw [List.getElem?_eq_none (by simp; omega)] at hj; cases hj
  · rw [List.getElem?_set_ne hij] at hj
    obtain ⟨w, h1, h2⟩ := h.at_ j e hj
    exact ⟨w, by rw [List.getElem?_set_ne hij]; exact h1, h2⟩
theorem AOR.there {o : AO} {p : Addr} (h : AOR g H m o p) : ∃ u, H p = some u := by
  cases o with
  | lst ds => obtain ⟨_, h, _⟩ := h; exact ⟨_, h⟩
  | dct lk kvs =>
    cases lk with
    | false => obtain ⟨_, h, _⟩ := h; exact ⟨_, h⟩
    | true => obtain ⟨_, _, h, _⟩ := h; exact ⟨_, h⟩
  | dtt lk kvs =>
    cases lk with
    | false => obtain ⟨_, h, _⟩ := h; exact ⟨_, h⟩
    | true => obtain ⟨_, _, h, _⟩ := h; exact ⟨_, h⟩
  | ins c fs => obtain ⟨_, _, h, _⟩ := h; exact ⟨_, h⟩
theorem RH.there (h : RH g H m A) {p : Addr} (hp : p ∈ m) : ∃ u, H p = some u := by
  obtain ⟨o, h⟩ := Paired.memL h.at_ hp
  exact AOR.there h
theorem RH.new (h : RH g H m A) {p : Addr} (hp : H p = none) : p ∉ m := fun e => by
  obtain ⟨u, h⟩ := h.there e
  rw [hp] at h; cases h
/-- the object's own description stays, its values may be carried over -/
theorem AOR.monoW {o : AO} {p : Addr} (a : GrW m m' H H') (e : H' p = H p) (h : AOR g H m o p) : AOR g H' m' o p := by
  cases o with
  | lst ds => obtain ⟨vs, h1, h2⟩ := h; exact ⟨vs, e.trans h1, h2.monoW a⟩
  | dct lk kvs =>
    have k1 : ∀ ks, KVR g H m kvs ks → KVR g H' m' kvs ks := fun ks r => Paired.mapR r fun _ _ z => ⟨z.1, z.2.monoW a⟩
    cases lk with
    | false => obtain ⟨ks, h1, h2⟩ := h; exact ⟨ks, e.trans h1, k1 _ h2⟩
    | true => obtain ⟨o, ks, h1, h2⟩ := h; exact ⟨o, ks, e.trans h1, k1 _ h2⟩
  | dtt lk kvs =>
    have k2 : ∀ ks, KTR g H m kvs ks → KTR g H' m' kvs ks := fun ks r => Paired.mapR r fun _ _ z => ⟨z.1, z.2.1.monoW a, z.2.2.monoW a⟩
    cases lk with
    | false => obtain ⟨ks, h1, h2⟩ := h; exact ⟨ks, e.trans h1, k2 _ h2⟩
    | true => obtain ⟨o, ks, h1, h2⟩ := h; exact ⟨o, ks, e.trans h1, k2 _ h2⟩
  | ins c fs => obtain ⟨dx, us, h1, h2⟩ := h; exact ⟨dx, us, e.trans h1, Paired.mapR h2 fun _ _ z => ⟨z.1, z.2.monoW a⟩⟩
theorem AOR.mono {o : AO} {p : Addr} (a : Gr m m' H H') (e : H' p = H p) (h : AOR g H m o p) : AOR g H' m' o p := h.monoW a.w e
/-- all that is tracked stays -/
theorem RH.grow (h : RH g H m A) (a : Gr m m H H') (k : ∀ p o, H p = some o → H' p = some o) : RH g H' m A :=
  ⟨h.nd, Paired.mapR h.at_ fun p o r => r.mono a (by obtain ⟨u, hu⟩ := r.there; rw [k p u hu, hu]), h.tb.ext k, h.tbm⟩
theorem RH.upd (h : RH g H m A) {p : Addr} {o : HO} (hp : H p = none) : RH g (upd H p o) m A :=
  h.grow (Gr.new hp) fun q u hq => by rw [upd_ne (fun e => by rw [e, hp] at hq; cases hq)]; exact hq
/-- a change of what is no table and no code object -/
theorem tabs_chg {T : List (Addr × Str)} {p : Addr} {u o : HO} (t : LamX.Tabs T H) (hp : H p = some u) (h1 : ∀ ps, u ≠ .tbl ps) (h2 : ¬ SmX u) : LamX.Tabs T (L2.upd H p o) := fun q hq => by
  obtain ⟨ps, e1, e2, e3⟩ := t q hq
  refine ⟨ps, by rw [upd_ne (fun z => by rw [z, hp] at e1; cases e1; exact h1 _ rfl)]; exact e1, e2, fun pos cv hc => ?_⟩
  obtain ⟨c, k1, k2⟩ := e3 pos cv hc
  refine ⟨c, k1, ?_⟩
  rw [upd_ne (fun z => by rw [z, hp] at k2; cases k2; exact h2 (.code _ _))]
  exact k2
theorem AOR.kinds {o : AO} {p : Addr} (h : AOR g H m o p) : ∃ u, H p = some u ∧ (∀ ps, u ≠ .tbl ps) ∧ ¬ SmX u := by
  cases o with
  | lst ds => obtain ⟨_, h, _⟩ := h; exact ⟨_, h, by simp, fun z => by obtain ⟨_, z⟩ := z.ext; cases z⟩
  | dct lk kvs =>
    cases lk with
    | false => obtain ⟨_, h, _⟩ := h; exact ⟨_, h, by simp, fun z => by obtain ⟨_, z⟩ := z.ext; cases z⟩
    | true => obtain ⟨_, _, h, _⟩ := h; exact ⟨_, h, by simp, fun z => by obtain ⟨_, z⟩ := z.ext; cases z⟩
  | dtt lk kvs =>
    cases lk with
    | false => obtain ⟨_, h, _⟩ := h; exact ⟨_, h, by unfold DTO; simp, fun z => z.ne rfl⟩
    | true => obtain ⟨_, _, h, _⟩ := h; exact ⟨_, h, by simp, fun z => by obtain ⟨_, z⟩ := z.ext; cases z⟩
  | ins c fs => obtain ⟨_, _, h, _⟩ := h; exact ⟨_, h, by simp, fun z => by obtain ⟨_, z⟩ := z.ext; cases z⟩
theorem RH.kinds (h : RH g H m A) {p : Addr} (hp : p ∈ m) : ∃ u, H p = some u ∧ (∀ ps, u ≠ .tbl ps) ∧ ¬ SmX u := by
  obtain ⟨o, r⟩ := Paired.memL h.at_ hp
  exact r.kinds
theorem RH.get (h : RH g H m A) {i : Nat} {o : AO} (e : A[i]? = some o) : ∃ p, m[i]? = some p ∧ AOR g H m o p := Paired.getR (F := fun p o => AOR g H m o p) h.at_ e
/-- a change at the i-th object -/
theorem Gr.chg {i : Nat} {p : Addr} {u : HO} (hi : m[i]? = some p) (hp : ∃ o, H p = some o ∧ (∀ ps, o ≠ .tbl ps) ∧ ∀ ob u, o ≠ .frz ob u) : Gr m m H (L2.upd H p u) := by
  refine Gr.mk' ⟨[], by simp, by simp⟩ (fun q o hq hm => ?_) fun q hq => ?_
  · rw [upd_ne (fun e => hm.elim (fun hm => hm (by rw [e]; exact List.mem_of_getElem? hi)) fun z => by
      obtain ⟨o', h1, h2, h3⟩ := hp
      rw [e, h1] at hq
      cases hq
      rcases z with ⟨ps, z⟩ | ⟨ob, u', z⟩
      · exact h2 ps z
      · exact h3 ob u' z)]
    exact hq
  · by_cases e : q = p
    · subst e; rw [upd_same] at hq; cases hq
    · rw [upd_ne e] at hq; exact hq
theorem GrW.chg {i : Nat} {p : Addr} {u : HO} (hi : m[i]? = some p) (hp : ∃ o, H p = some o) : GrW m m H (L2.upd H p u) := by
  refine ⟨⟨[], by simp, by simp⟩, fun q o hq hm ht _ _ => ?_, fun q hq => ?_⟩
  · rw [upd_ne (fun e => hm (by rw [e]; exact List.mem_of_getElem? hi))]
    exact hq
  · by_cases e : q = p
    · subst e; rw [upd_same] at hq; cases hq
    · rw [upd_ne e] at hq; exact hq
theorem Paired.setR {α β : Type} {F F' : α → β → Prop} : ∀ {l₁ : List α} {l₂ : List β} {i : Nat} {a : α} {b : β}, Paired F l₁ l₂ → l₁[i]? = some a → l₁.Nodup → F' a b → (∀ x y, x ≠ a → F x y → F' x y) → Paired F' l₁ (l₂.set i b)
  | _, _, _, _, _, .nil, e, _, _, _ => by simp at e
  | x :: l₁, y :: l₂, 0, a, b, .cons r t, e, nd, n, k => by
    simp at e; subst e
    rw [List.nodup_cons] at nd
    refine .cons n ?_
    have q : ∀ {u₁ : List α} {u₂ : List β}, x ∉ u₁ → Paired F u₁ u₂ → Paired F' u₁ u₂ := by
      intro u₁ u₂ hu h
      induction h with
      | nil => exact .nil
      | cons r _ ih =>
        rw [List.mem_cons, not_or] at hu
        exact .cons (k _ _ (Ne.symm hu.1) r) (ih hu.2)
    exact q nd.1 t
  | x :: l₁, y :: l₂, i + 1, a, b, .cons r t, e, nd, n, k => by
    rw [List.nodup_cons] at nd
    have e' : l₁[i]? = some a := by simpa using e
    refine .cons (k _ _ (fun z => nd.1 (z ▸ List.mem_of_getElem? e')) r) ?_
    exact Paired.setR t e' nd.2 n k
theorem RH.set (h : RH g H m A) {i : Nat} {p : Addr} {u : HO} {o : AO} (hi : m[i]? = some p) (hp : ∃ o, H p = some o) (n : AOR g (L2.upd H p u) m o p) : RH g (L2.upd H p u) m (A.set i o) := by
  obtain ⟨w, k1, k2, k3⟩ := h.kinds (List.mem_of_getElem? hi)
  refine ⟨h.nd, Paired.setR h.at_ hi h.nd n fun q o' hq r => ?_, tabs_chg h.tb k1 k2 k3, h.tbm⟩
  exact r.monoW (GrW.chg hi ⟨w, k1⟩) (upd_ne hq)
theorem Paired.snocR {α β : Type} {F : α → β → Prop} {a : α} {b : β} : ∀ {l₁ : List α} {l₂ : List β}, Paired F l₁ l₂ → F a b → Paired F (l₁ ++ [a]) (l₂ ++ [b])
  | _, _, .nil, h => .cons h .nil
  | _, _, .cons h t, k => .cons h (Paired.snocR t k)
/-- a new object -/
theorem Gr.push {p : Addr} {u : HO} (hp : H p = none) : Gr m (m ++ [p]) H (L2.upd H p u) := by
  refine Gr.mk' ⟨[p], rfl, fun q hq => by simp at hq; subst hq; exact hp⟩ (fun q o hq _ => ?_) fun q hq => ?_
  · rw [upd_ne (fun e => by rw [e, hp] at hq; cases hq)]; exact hq
  · by_cases e : q = p
    · subst e; exact hp
    · rw [upd_ne e] at hq; exact hq
theorem RH.push (h : RH g H m A) {p : Addr} {u : HO} {o : AO} (hp : H p = none) (n : AOR g (L2.upd H p u) (m ++ [p]) o p) : RH g (L2.upd H p u) (m ++ [p]) (A ++ [o]) := by
  refine ⟨?_, Paired.snocR (Paired.mapR h.at_ fun q o' r => ?_) n, h.tb.ext (fun q w hq => by rw [upd_ne (fun e => by rw [e, hp] at hq; cases hq)]; exact hq), fun q hq => ?_⟩
  · rw [List.nodup_append]
    refine ⟨h.nd, by simp, fun a ha b hb e => ?_⟩
    simp at hb
    exact h.new hp (by rw [← hb, ← e]; exact ha)
  · refine r.mono (Gr.push hp) (upd_ne fun e => ?_)
    obtain ⟨w, hw⟩ := r.there
    rw [e, hp] at hw; cases hw
  · rw [List.mem_append, not_or]
    refine ⟨h.tbm q hq, fun z => ?_⟩
    simp at z
    obtain ⟨ps, e1, _⟩ := h.tb q hq
    rw [z, hp] at e1; cases e1
end
inductive R (α : Type) where
  | ok (a : α) (h : HA)
  | exc (c : Nat) (ds : List D) (h : HA)
  | no
  deriving Inhabited
inductive RSt where
  | nx (E : SA) (h : HA)
  | rt (d : D) (h : HA)
  | bk (E : SA) (h : HA)
  | ct (E : SA) (h : HA)
  | exc (c : Nat) (ds : List D) (E : SA) (h : HA)
  | no
  deriving Inhabited
noncomputable abbrev CE := SA → HA → R D
noncomputable abbrev CA := SA → HA → R (List D)
noncomputable abbrev CB := SA → HA → R Bool
noncomputable abbrev CS := SA → HA → RSt
noncomputable def R.bind {α β : Type} (r : R α) (f : α → HA → R β) : R β := match r with
  | .ok a h => f a h
  | .exc c ds h => .exc c ds h
  | .no => .no
/-- how an exception lies: class, dict -/
noncomputable def EXR (g : G) (H : Hp) (m : List Addr) (c : Nat) (ds : List D) (cls : Value) (d : Option Addr) : Prop :=
  cls = .ref (g.ca c) ∧ ∃ q vs, d = some q ∧ H q = some (.xd ((g.ef c).zip vs)) ∧ q ∉ m ∧ (g.ef c).length = ds.length ∧ DVs g H m ds vs
/-- a def's (or block's) fixed data -/
structure F where
  g : G
  N : List Str
  scope : Scope
  k : Nat
  cl : List Str := []
  deep : Bool := false
  ltb : List (Addr × Str) := []
/-- the contexts that a derivation serves -/
structure Ok (F : F) (W : WX) (X : Cx) : Prop where
  prog : X.prog = F.g.prog
  w : X.w = F.g.w
  K : X.K = F.g.K
  mg : X.mg = F.g.mg
  base : X.base = F.g.base
  N : X.N = F.N
  sc : X.env.scope = F.scope
  nd : F.N.Nodup
  room : Room F.k X.A
  calm : X.calm = true
  gd : X.A.guards = some []
  tk : Takes X W
  fnb : F.deep = false → ∀ x, X.fn x = true
  tabB : ∀ t ∈ F.ltb, ∃ c, X.env.code = .ref c ∧ LamX.TabB X.base X.mg c t.1 ∧ X.env.qual ++ "<lambda>" = t.2
/-- how what is told lies to what is -/
noncomputable abbrev Rl (α β : Type) := Hp → List Addr → α → β → Prop
noncomputable abbrev rE (g : G) : Rl D V := fun H m d v => DV g H m d v
noncomputable abbrev rA (g : G) : Rl (List D) (List V) := fun H m d v => DVs g H m d v
noncomputable abbrev rB : Rl Bool Bool := fun _ _ a b => a = b
noncomputable def Po {α β : Type} (ρ : Rl α β) (g : G) (m : List Addr) (H : Hp) (W : WX) (σ : St) (r : R α) (Q : β → Hp → Prop) : Prop := match r with
  | .ok a h => ∀ m' b H', Gr m m' H H' → RH g H' m' h → ρ H' m' a b → Q b H'
  | .exc c ds h => ∀ m' H' cls d, Gr m m' H H' → RH g H' m' h → EXR g H' m' c ds cls d → W cls d σ H'
  | .no => False
noncomputable def Tx {α β : Type} (ρ : Rl α β) (g : G) (W : WX) (c : SA → HA → R α) : St → Hp → (β → Hp → Prop) → Prop := fun σ H Q => ∃ m E A, RH g H m A ∧ RS g H m E σ ∧ Po ρ g m H W σ (c E A) Q
noncomputable abbrev TEx (g : G) (W : WX) (c : CE) : TE := Tx (rE g) g W c
noncomputable abbrev TAx (g : G) (W : WX) (c : CA) : TA := Tx (rA g) g W c
noncomputable abbrev TBx (g : G) (W : WX) (c : CB) : TT := Tx rB g W c
noncomputable def PoS (g : G) (m : List Addr) (H : Hp) (W : WX) (r : RSt) (D : Ends) : Prop := match r with
  | .nx E h => ∀ m' σ' H', Gr m m' H H' → RH g H' m' h → RS g H' m' E σ' → D.nx σ' H'
  | .rt d h => ∀ m' v H', Gr m m' H H' → RH g H' m' h → DV g H' m' d v → D.rt v H'
  | .bk E h => ∀ m' σ' H', Gr m m' H H' → RH g H' m' h → RS g H' m' E σ' → D.bk σ' H'
  | .ct E h => ∀ m' σ' H', Gr m m' H H' → RH g H' m' h → RS g H' m' E σ' → D.ct σ' H'
  | .exc c ds E h => ∀ m' σ' H' cls d, Gr m m' H H' → RH g H' m' h → RS g H' m' E σ' → EXR g H' m' c ds cls d → W cls d σ' H'
  | .no => False
noncomputable def TSx (g : G) (W : WX) (c : CS) : TS := fun D σ H => ∃ m E A, RH g H m A ∧ RS g H m E σ ∧ PoS g m H W (c E A) D
noncomputable def JE (F : F) (e : Expr) (c : CE) : Prop := ∀ W X, Ok F W X → PE X e (TEx F.g W c)
noncomputable def JA (F : F) (es : List Expr) (c : CA) : Prop := ∀ W X, Ok F W X → PA X es (TAx F.g W c)
noncomputable def JB (F : F) (e : Expr) (c : CB) : Prop := ∀ W X, Ok F W X → PT X e (TBx F.g W c)
theorem PE.imp {X : Cx} {e : Expr} {t t' : TE} (h : PE X e t) (k : ∀ σ H Q, t' σ H Q → t σ H Q) : PE X e t' := ⟨fun pins s σ H Q I q => h.run pins s σ H Q I (k σ H Q q)⟩
theorem PA.imp {X : Cx} {e : List Expr} {t t' : TA} (h : PA X e t) (k : ∀ σ H Q, t' σ H Q → t σ H Q) : PA X e t' := ⟨fun pos pins s σ H Q I q => h.run pos pins s σ H Q I (k σ H Q q)⟩
theorem PT.imp {X : Cx} {e : Expr} {t t' : TT} (h : PT X e t) (k : ∀ σ H Q, t' σ H Q → t σ H Q) : PT X e t' := ⟨fun pins s σ H Q I q => h.run pins s σ H Q I (k σ H Q q)⟩
theorem PS.imp {X : Cx} {e : Stmt} {t t' : TS} (h : PS X e t) (k : ∀ D σ H, t' D σ H → t D σ H) : PS X e t' := ⟨fun pins s σ H D I q => h.run pins s σ H D I (k D σ H q)⟩
theorem PSs.imp {X : Cx} {e : List Stmt} {t t' : TS} (h : PSs X e t) (k : ∀ D σ H, t' D σ H → t D σ H) : PSs X e t' := ⟨fun pins s σ H D I q => h.run pins s σ H D I (k D σ H q)⟩
section
variable {g : G} {W : WX} {σ : St} {H H1 : Hp} {m m1 : List Addr} {E : SA}
theorem Po.from {α β : Type} {ρ : Rl α β} {r : R α} {Q : β → Hp → Prop} (a : Gr m m1 H H1) (h : Po ρ g m H W σ r Q) : Po ρ g m1 H1 W σ r Q := by
  cases r with
  | ok d h' => exact fun m' v H' b => h m' v H' (a.trans b)
  | exc c ds h' => exact fun m' H' cls d b => h m' H' cls d (a.trans b)
  | no => exact h
theorem PoS.from {r : RSt} {D : Ends} (a : Gr m m1 H H1) (h : PoS g m H W r D) : PoS g m1 H1 W r D := by
  cases r with
  | nx => exact fun m' σ' H' b => h m' σ' H' (a.trans b)
  | rt => exact fun m' σ' H' b => h m' σ' H' (a.trans b)
  | bk => exact fun m' σ' H' b => h m' σ' H' (a.trans b)
  | ct => exact fun m' σ' H' b => h m' σ' H' (a.trans b)
  | exc => exact fun m' σ' H' cls d b => h m' σ' H' cls d (a.trans b)
  | no => exact h
/-- .. into a statement -/
noncomputable def RSt.of {α : Type} (r : R α) (E : SA) (f : α → HA → RSt) : RSt := match r with
  | .ok a h => f a h
  | .exc c ds h => .exc c ds E h
  | .no => .no
end
end Sm
namespace Sm
open PySem PySem.Spec PyProof.Rows L2
theorem Po.bind {α β α' β' : Type} {ρ : Rl α β} {ρ' : Rl α' β'} {g : G} {m : List Addr} {H : Hp} {W : WX} {σ : St} {r : R α} {k : α → HA → R α'} {Q : β' → Hp → Prop} {P : β → Hp → Prop} (h : Po ρ' g m H W σ (r.bind k) Q)
    (n : ∀ m1 H1 a b A1, Gr m m1 H H1 → RH g H1 m1 A1 → ρ H1 m1 a b → Po ρ' g m1 H1 W σ (k a A1) Q → P b H1) : Po ρ g m H W σ r P := by
  cases r with
  | ok d A1 => exact fun m' v H' a r x => n m' H' d v A1 a r x (Po.from a h)
  | exc c' ds A1 => exact h
  | no => exact h
theorem PoS.bind {α β : Type} {ρ : Rl α β} {g : G} {m : List Addr} {H : Hp} {W : WX} {σ : St} {E : SA} {r : R α} {k : α → HA → RSt} {D : Ends} {P : β → Hp → Prop} (rs : RS g H m E σ) (h : PoS g m H W (RSt.of r E k) D)
    (n : ∀ m1 H1 a b A1, Gr m m1 H H1 → RH g H1 m1 A1 → ρ H1 m1 a b → PoS g m1 H1 W (k a A1) D → P b H1) : Po ρ g m H W σ r P := by
  cases r with
  | ok d A1 => exact fun m' v H' a r x => n m' H' d v A1 a r x (PoS.from a h)
  | exc c' ds A1 => exact fun m' H' cls d a r x => h m' σ H' cls d a r (rs.mono a) x
  | no => exact h
/-- the end of a part: a value at the heap as it is -/
theorem Po.ok {α β : Type} {ρ : Rl α β} {g : G} {m : List Addr} {H : Hp} {W : WX} {σ : St} {a : α} {b : β} {A : HA} {Q : β → Hp → Prop} (h : Po ρ g m H W σ (.ok a A) Q) (rh : RH g H m A) (r : ρ H m a b) : Q b H := h m b H (Gr.refl _ _) rh r
/-- .. at a grown heap -/
theorem Po.ok' {α β : Type} {ρ : Rl α β} {g : G} {m m' : List Addr} {H H' : Hp} {W : WX} {σ : St} {a : α} {b : β} {A : HA} {Q : β → Hp → Prop} (h : Po ρ g m H W σ (.ok a A) Q) (gr : Gr m m' H H') (rh : RH g H' m' A) (r : ρ H' m' a b) : Q b H' := h m' b H' gr rh r
variable {F : F} {pos : Pos}
noncomputable def cVar (i : Nat) : CE := fun E A => match E[i]? with
  | some (some d) => .ok d A
  | _ => .no
noncomputable def cC (d : D) : CE := fun _ A => .ok d A
theorem je_var {i : Nat} {x : Str} (hN : F.N[i]? = some x) (hv : Vis F.scope x) (hd : (x == ("__debug__" : Str)) = false := by decide) (hcd : (x == ("__classdict__" : Str)) = false := by decide) : JE F (.Name x pos) (cVar i) := by
  intro W X ok
  refine PE.imp (pe_var (i := i) (by rw [ok.N]; exact hN) (by rw [ok.sc]; exact hv) hd hcd) ?_
  rintro σ H Q ⟨m, E, A, rh, rs, q⟩
  unfold cVar at q
  split at q
  · rename_i d e
    obtain ⟨v, h1, h2⟩ := rs.at_ i d e
    exact ⟨v, h1, q.ok rh h2⟩
  · exact q.elim
theorem je_c {e : Expr} {v : V} {d : D} (h : ∀ X : Cx, PE X e (tC v)) (r : ∀ H m, DV F.g H m d v) : JE F e (cC d) := by
  intro W X ok
  refine PE.imp (h X) ?_
  rintro σ H Q ⟨m, E, A, rh, rs, q⟩
  exact Po.ok q rh (r H m)
theorem je_int {i : Int} {j : Nat} : JE F (.Constant (.int i) j pos) (cC (.int i)) := je_c (fun _ => pe_int) fun _ _ => .int i
theorem je_str {x : Str} {j : Nat} : JE F (.Constant (.str x) j pos) (cC (.str x)) := je_c (fun _ => pe_str) fun _ _ => .str x
theorem je_bl {b : Bool} {j : Nat} : JE F (.Constant (.bool b) j pos) (cC (.bl b)) := je_c (fun _ => pe_bl) fun _ _ => .bl b
theorem je_non {j : Nat} : JE F (.Constant .none j pos) (cC .non) := je_c (fun _ => pe_non) fun _ _ => .non
noncomputable def Gls (sc : Scope) (x : Str) : Prop := sc.names.lookup x = some .globalImplicit
theorem Ok.gl {W : WX} {X : Cx} (ok : Ok F W X) {x : Str} (h : Gls F.scope x) : Gl X x := by
  show X.env.scope.names.lookup x = _
  rw [ok.sc]; exact h
/-- a module's constant, a class, a def -/
theorem je_glob {x : Str} {v : V} {u : Value} {d : D} (hg : Gls F.scope x) (hm : F.g.mg x = some u) (r : RelV v u) (dv : ∀ H m, DV F.g H m d v) (hd : (x == ("__debug__" : Str)) = false := by decide) : JE F (.Name x pos) (cC d) := by
  intro W X ok
  refine PE.imp (pe_glob (ok.gl hg) (by rw [ok.mg]; exact hm) r hd) ?_
  rintro σ H Q ⟨m, E, A, rh, rs, q⟩
  exact Po.ok q rh (dv H m)
/-- a built-in type as a value -/
theorem je_bty {x : Str} {n : String} (hg : Gls F.scope x) (hm : F.g.mg x = none) (hv : bootBuiltins x = some (.type n)) (hn : x ≠ "__name__" := by decide) (hd : (x == ("__debug__" : Str)) = false := by decide) : JE F (.Name x pos) (cC (.ty n)) := by
  intro W X ok
  refine PE.imp (pe_bltn (v := .ty n) (ok.gl hg) (by rw [ok.mg]; exact hm) hv rfl hn hd) ?_
  rintro σ H Q ⟨m, E, A, rh, rs, q⟩
  exact Po.ok q rh (.ty n)
noncomputable abbrev P2 := D → D → HA → R D
noncomputable def Op2 (g : G) (r : R2) (p : P2) : Prop := ∀ (W : WX) (σ : St) (m : List Addr) (H : Hp) (A : HA) (d e : D) (x y : V) (Q : VK), RH g H m A → DV g H m d x → DV g H m e y → Po (rE g) g m H W σ (p d e A) Q → r x y H Q
noncomputable def c2 (p : P2) (ca cb : CE) : CE := fun E A => (ca E A).bind fun d A1 => (cb E A1).bind fun e A2 => p d e A2
section
variable {a b c : Expr} {ca cb cc : CE} {p p' : P2} {r r' : R2}
theorem two {g : G} {W : WX} {σ : St} {H : Hp} {Q : VK} (hp : Op2 g r p) (h : TEx g W (c2 p ca cb) σ H Q) : TEx g W ca σ H fun x H1 => TEx g W cb σ H1 fun y H2 => r x y H2 Q := by
  obtain ⟨m, E, A, rh, rs, q⟩ := h
  refine ⟨m, E, A, rh, rs, Po.bind q fun m1 H1 d x A1 g1 rh1 dx q1 => ⟨m1, E, A1, rh1, rs.mono g1, Po.bind q1 fun m2 H2 e y A2 g2 rh2 dy q2 => hp W σ m2 H2 A2 d e x y Q rh2 (dx.mono g2) dy q2⟩⟩
theorem DV.bl_inv {g : G} {H : Hp} {m : List Addr} {b : Bool} {v : V} (h : DV g H m (.bl b) v) : v = .bl b := by cases h; rfl
theorem DV.int_inv {g : G} {H : Hp} {m : List Addr} {i : Int} {v : V} (h : DV g H m (.int i) v) : v = .int i := by cases h; rfl
theorem DV.str_inv {g : G} {H : Hp} {m : List Addr} {x : Str} {v : V} (h : DV g H m (.str x) v) : v = .str x := by cases h; rfl
end
noncomputable def cB (c : CE) : CB := fun E A => (c E A).bind fun d A1 => match d with
  | .bl b => .ok b A1
  | _ => .no
section
variable {a b c e : Expr} {ca cb : CE} {ta tb tc : CB} {rest : List Expr}
theorem jb_val (h : JE F e ca) (he : ∀ (X : Cx) whole, isTrue e X.env whole = (do let v ← whole; standAt e.pos; holding [v] (truthy v)) := by intro _ _; rfl) : JB F e (cB ca) := by
  intro W X ok
  refine PT.imp (pt_val (h W X ok) (he X)) ?_
  rintro σ H Q ⟨m, E, A, rh, rs, q⟩
  refine ⟨m, E, A, rh, rs, Po.bind q fun m1 H1 d x A1 g1 rh1 dx q1 => ?_⟩
  split at q1
  · have e3 := DV.bl_inv dx
    subst e3
    exact ⟨_, rfl, Po.ok q1 rh1 rfl⟩
  · exact q1.elim
noncomputable def JW (F : Sm.F) (e : Expr) (c : CB) : Prop := ∀ W X, Ok F W X → PW X e (TBx F.g W c)
theorem PW.imp {X : Cx} {e : Expr} {t t' : TT} (h : PW X e t) (k : ∀ σ H Q, t' σ H Q → t σ H Q) : PW X e t' := ⟨fun wh pins s σ H Q I q => h.run wh pins s σ H Q I (k σ H Q q)⟩
theorem jw_and1 (h : JB F a ta) : JW F (.BoolOp .And [a] pos) ta := fun W X ok => pw_and1 (h W X ok)
theorem jw_or1 (h : JB F a ta) : JW F (.BoolOp .Or [a] pos) ta := fun W X ok => pw_or1 (h W X ok)
noncomputable def cAnd (ta tb : CB) : CB := fun E A => (ta E A).bind fun b A1 => if b = true then tb E A1 else .ok false A1
noncomputable def cOr (ta tb : CB) : CB := fun E A => (ta E A).bind fun b A1 => if b = true then .ok true A1 else tb E A1
noncomputable def cNot (ta : CB) : CB := fun E A => (ta E A).bind fun b A1 => .ok (!b) A1
theorem jw_and (ha : JB F a ta) (hb : JW F (.BoolOp .And (b :: rest) pos) tb) : JW F (.BoolOp .And (a :: b :: rest) pos) (cAnd ta tb) := by
  intro W X ok
  refine PW.imp (pw_and (ha W X ok) (hb W X ok)) ?_
  rintro σ H Q ⟨m, E, A, rh, rs, q⟩
  refine ⟨m, E, A, rh, rs, Po.bind q fun m1 H1 d x A1 g1 rh1 dx q1 => ?_⟩
  cases dx
  cases d
  · exact iteF (Po.ok q1 rh1 rfl)
  · exact iteT ⟨m1, E, A1, rh1, rs.mono g1, q1⟩
theorem jw_or (ha : JB F a ta) (hb : JW F (.BoolOp .Or (b :: rest) pos) tb) : JW F (.BoolOp .Or (a :: b :: rest) pos) (cOr ta tb) := by
  intro W X ok
  refine PW.imp (pw_or (ha W X ok) (hb W X ok)) ?_
  rintro σ H Q ⟨m, E, A, rh, rs, q⟩
  refine ⟨m, E, A, rh, rs, Po.bind q fun m1 H1 d x A1 g1 rh1 dx q1 => ?_⟩
  cases dx
  cases d
  · exact iteF ⟨m1, E, A1, rh1, rs.mono g1, q1⟩
  · exact iteT (Po.ok q1 rh1 rfl)
theorem jb_w (h : JW F e ta) : JB F e ta := fun W X ok => (h W X ok).pt
theorem jb_not (ha : JB F a ta) : JB F (.UnaryOp .Not a pos) (cNot ta) := by
  intro W X ok
  refine PT.imp (pt_not (ha W X ok)) ?_
  rintro σ H Q ⟨m, E, A, rh, rs, q⟩
  refine ⟨m, E, A, rh, rs, Po.bind q fun m1 H1 d x A1 g1 rh1 dx q1 => ?_⟩
  cases dx
  exact Po.ok q1 rh1 rfl
/-- .. as values: all but the last True or False -/
noncomputable def cAndV (ca cb : CE) : CE := fun E A => (ca E A).bind fun d A1 => match d with
  | .bl true => cb E A1
  | .bl false => .ok (.bl false) A1
  | _ => .no
noncomputable def cOrV (ca cb : CE) : CE := fun E A => (ca E A).bind fun d A1 => match d with
  | .bl true => .ok (.bl true) A1
  | .bl false => cb E A1
  | _ => .no
noncomputable def cNotV (ca : CE) : CE := fun E A => (ca E A).bind fun d A1 => match d with
  | .bl b => .ok (.bl (!b)) A1
  | _ => .no
theorem je_one {op : BoolOp} (h : JE F a ca) : JE F (.BoolOp op [a] pos) ca := fun W X ok => pe_one (h W X ok)
theorem je_and (ha : JE F a ca) (hb : JE F (.BoolOp .And (b :: rest) pos) cb) : JE F (.BoolOp .And (a :: b :: rest) pos) (cAndV ca cb) := by
  intro W X ok
  refine PE.imp (pe_and (ha W X ok) (hb W X ok)) ?_
  rintro σ H Q ⟨m, E, A, rh, rs, q⟩
  refine ⟨m, E, A, rh, rs, Po.bind q fun m1 H1 d x A1 g1 rh1 dx q1 => ?_⟩
  split at q1
  · have e3 := DV.bl_inv dx
    subst e3
    exact ⟨_, rfl, iteT ⟨m1, E, A1, rh1, rs.mono g1, q1⟩⟩
  · have e3 := DV.bl_inv dx
    subst e3
    exact ⟨_, rfl, iteF (Po.ok q1 rh1 (.bl false))⟩
  · exact q1.elim
theorem je_or (ha : JE F a ca) (hb : JE F (.BoolOp .Or (b :: rest) pos) cb) : JE F (.BoolOp .Or (a :: b :: rest) pos) (cOrV ca cb) := by
  intro W X ok
  refine PE.imp (pe_or (ha W X ok) (hb W X ok)) ?_
  rintro σ H Q ⟨m, E, A, rh, rs, q⟩
  refine ⟨m, E, A, rh, rs, Po.bind q fun m1 H1 d x A1 g1 rh1 dx q1 => ?_⟩
  split at q1
  · have e3 := DV.bl_inv dx
    subst e3
    exact ⟨_, rfl, iteT (Po.ok q1 rh1 (.bl true))⟩
  · have e3 := DV.bl_inv dx
    subst e3
    exact ⟨_, rfl, iteF ⟨m1, E, A1, rh1, rs.mono g1, q1⟩⟩
  · exact q1.elim
theorem je_not (ha : JE F a ca) : JE F (.UnaryOp .Not a pos) (cNotV ca) := by
  intro W X ok
  refine PE.imp (pe_not (ha W X ok)) ?_
  rintro σ H Q ⟨m, E, A, rh, rs, q⟩
  refine ⟨m, E, A, rh, rs, Po.bind q fun m1 H1 d x A1 g1 rh1 dx q1 => ?_⟩
  split at q1
  · have e3 := DV.bl_inv dx
    subst e3
    exact ⟨_, rfl, Po.ok q1 rh1 (.bl _)⟩
  · exact q1.elim
noncomputable def cIf (tc : CB) (ca cb : CE) : CE := fun E A => (tc E A).bind fun b A1 => if b = true then ca E A1 else cb E A1
theorem je_if (hc : JB F c tc) (ha : JE F a ca) (hb : JE F b cb) : JE F (.IfExp c a b pos) (cIf tc ca cb) := by
  intro W X ok
  refine PE.imp (pe_ifExp (hc W X ok) (ha W X ok) (hb W X ok)) ?_
  rintro σ H Q ⟨m, E, A, rh, rs, q⟩
  refine ⟨m, E, A, rh, rs, Po.bind q fun m1 H1 d x A1 g1 rh1 dx q1 => ?_⟩
  cases dx
  cases d
  · exact iteF ⟨m1, E, A1, rh1, rs.mono g1, q1⟩
  · exact iteT ⟨m1, E, A1, rh1, rs.mono g1, q1⟩
end
noncomputable def cNil : CA := fun _ A => .ok [] A
noncomputable def cCons (ca : CE) (cr : CA) : CA := fun E A => (ca E A).bind fun d A1 => (cr E A1).bind fun ds A2 => .ok (d :: ds) A2
section
variable {e : Expr} {es : List Expr} {ca : CE} {cr : CA}
theorem ja_nil : JA F [] cNil := by
  intro W X ok
  refine PA.imp pa_nil ?_
  rintro σ H Q ⟨m, E, A, rh, rs, q⟩
  exact Po.ok q rh .nil
theorem ja_cons (ha : JE F e ca) (hr : JA F es cr) (hs : ∀ X : Cx, starEach (e :: es) X.env = (false, eval e X.env) :: starEach es X.env := by intro _; rfl) : JA F (e :: es) (cCons ca cr) := by
  intro W X ok
  refine PA.imp (pa_cons (ha W X ok) (hr W X ok) (hs X)) ?_
  rintro σ H Q ⟨m, E, A, rh, rs, q⟩
  refine ⟨m, E, A, rh, rs, Po.bind q fun m1 H1 d x A1 g1 rh1 dx q1 => ⟨m1, E, A1, rh1, rs.mono g1, Po.bind q1 fun m2 H2 ds xs A2 g2 rh2 dxs q2 => Po.ok q2 rh2 (.cons (dx.mono g2) dxs)⟩⟩
/-- the written length -/
noncomputable def Len (cr : CA) (n : Nat) : Prop := ∀ E A ds h, cr E A = .ok ds h → ds.length = n
theorem len_nil : Len cNil 0 := by
  intro E A ds h e
  cases e; rfl
theorem len_cons {n : Nat} (h : Len cr n) : Len (cCons ca cr) (n + 1) := by
  intro E A ds h' e
  unfold cCons at e
  cases h1 : ca E A with
  | ok d A1 =>
    rw [h1] at e
    simp only [R.bind] at e
    cases h2 : cr E A1 with
    | ok ds' A2 =>
      rw [h2] at e
      simp only [R.ok.injEq] at e
      rw [← e.1, List.length_cons, h E A1 ds' A2 h2]
    | exc => rw [h2] at e; cases e
    | no => rw [h2] at e; cases e
  | exc => rw [h1] at e; cases e
  | no => rw [h1] at e; cases e
noncomputable def cTup (cr : CA) : CE := fun E A => (cr E A).bind fun ds A1 => .ok (.tup ds) A1
noncomputable def cLst (cr : CA) : CE := fun E A => (cr E A).bind fun ds A1 => .ok (.lst ds) A1
/-- a new list in the abstract heap -/
noncomputable def cNewL (cr : CA) : CE := fun E A => (cr E A).bind fun ds A1 => .ok (.ref A1.length) (A1 ++ [.lst ds])
theorem Po.bindL {α' β' : Type} {ρ' : Rl α' β'} {g : G} {m : List Addr} {H : Hp} {W : WX} {σ : St} {E : SA} {A : HA} {n : Nat} {k : List D → HA → R α'} {Q : β' → Hp → Prop} {P : List V → Hp → Prop} (hn : Len cr n) (h : Po ρ' g m H W σ ((cr E A).bind k) Q)
    (nn : ∀ m1 H1 a b A1, Gr m m1 H H1 → RH g H1 m1 A1 → DVs g H1 m1 a b → b.length = n → Po ρ' g m1 H1 W σ (k a A1) Q → P b H1) : Po (rA g) g m H W σ (cr E A) P := by
  cases hc : cr E A with
  | ok d A1 =>
    rw [hc] at h
    exact fun m' v H' a r x => nn m' H' d v A1 a r x (by rw [← DVs.length x]; exact hn E A d A1 hc) (Po.from a h)
  | exc c' ds A1 => rw [hc] at h; exact h
  | no => rw [hc] at h; exact h
/-- a tuple is made: its object is known -/
noncomputable def tTupF (t : TA) : TE := fun σ H Q => t σ H fun xs H1 => xs.length ≤ sizeLine ∧ ∀ p o, H1 p = none → o.dict = none → Q (.ref p) (upd H1 p (.frz o (.tup xs)))
theorem tup_laid {X : Cx} {pins : List (Addr × Obj)} {σ : St} {H : Hp} {s : Shared} {h' : Heap} {t' : Nat} {xs : List V} {us : List Value} {p : Addr} (I : Inv X pins σ H s) (k : ∀ b u, s.heap.get? b = some u → h'.get? b = some u) (hp : s.heap.objs.size ≤ p) (r : Vals xs us) (hz : xs.length ≤ sizeLine) (e : h'.get? p = some { cls := .type "tuple", data := .seq us.toArray }) :
    Inv X pins σ (upd H p (.frz { cls := .type "tuple", data := .seq us.toArray } (.tup xs))) { s with heap := h', toks := t' } := I.laid k hp ⟨e, hz, us, r, ⟨_, e, rfl, _, rfl⟩⟩
theorem pe_tupF {X : Cx} {es : List Expr} {t : TA} {x1 : Nat} (h : PA X es t) : PE X (.Tuple es x1 pos) (tTupF t) := by
  refine ⟨fun pins s σ H Q I hq => wpAny_Tuple_spliced (thn (h.run pos pins s σ H _ I hq) ?_)⟩
  rintro us s1 ⟨xs, H1, I1, r, z, q⟩
  exact ⟨by rw [← r.length]; exact z, .ref s1.heap.objs.size, _, tup_laid (t' := s1.toks) I1 (fun b u e => Heap.get?_push_of_some _ e) (Nat.le_refl _) r z (Heap.get?_push_size _ rfl), rfl, q _ _ (I1.hok.fresh (Nat.le_refl _)) rfl⟩
theorem je_tup {n : Nat} {x1 : Nat} (ha : JA F es cr) (hn : Len cr n) (hz : n ≤ sizeLine := by decide) : JE F (.Tuple es x1 pos) (cTup cr) := by
  intro W X ok
  refine PE.imp (pe_tupF (ha W X ok)) ?_
  rintro σ H Q ⟨m, E, A, rh, rs, q⟩
  refine ⟨m, E, A, rh, rs, Po.bindL hn q fun m1 H1 ds xs A1 g1 rh1 dxs hl q1 => ⟨by rw [hl]; exact hz, fun p o hp ho => ?_⟩⟩
  exact Po.ok' q1 (Gr.new hp) (rh1.upd hp) (.tup (.inl ⟨o, upd_same, ho, rh1.new hp⟩) (dxs.mono (Gr.new hp)))
/-- a list is let stand as it is -/
theorem PE.frz {X : Cx} {t : TE} (h : PE X e t) : PE X e (fun σ H Q => t σ H fun v H' => ∃ p xs, v = .ref p ∧ H' p = some (.lst xs) ∧ ∀ o, Q v (upd H' p (.frz o (.lst xs)))) := by
  refine ⟨fun pins s σ H Q I q => thn (h.run pins s σ H _ I q) fun u s' ⟨v, H', I', r, p, xs, e1, e2, k⟩ => ?_⟩
  obtain ⟨od, I2⟩ := I'.lock e2 trivial
  exact ⟨v, _, I2, r, k od⟩
theorem Gr.frz {m : List Addr} {H : Hp} {p : Addr} {o : Obj} {u u' : HO} (h : H p = none) : upd (upd H p u) p u' = upd H p u' := upd_upd
theorem je_lst {n : Nat} (ha : JA F es cr) (hn : Len cr n) (hz : n ≤ sizeLine := by decide) : JE F (.List es pos) (cLst cr) := by
  intro W X ok
  refine PE.imp (PE.frz (pe_lst (ha W X ok))) ?_
  rintro σ H Q ⟨m, E, A, rh, rs, q⟩
  refine ⟨m, E, A, rh, rs, Po.bindL hn q fun m1 H1 ds xs A1 g1 rh1 dxs hl q1 => ⟨by rw [hl]; exact hz, fun p hp => ⟨p, xs, rfl, upd_same, fun o => ?_⟩⟩⟩
  rw [upd_upd]
  exact Po.ok' q1 (Gr.new hp) (rh1.upd hp) (.lst (.inl ⟨o, upd_same, rh1.new hp⟩) (dxs.mono (Gr.new hp)))
theorem RH.len {g : G} {H : Hp} {m : List Addr} {A : HA} (h : RH g H m A) : m.length = A.length := PySem.Paired.length h.at_
theorem je_newL {n : Nat} (ha : JA F es cr) (hn : Len cr n) (hz : n ≤ sizeLine := by decide) : JE F (.List es pos) (cNewL cr) := by
  intro W X ok
  refine PE.imp (pe_lst (ha W X ok)) ?_
  rintro σ H Q ⟨m, E, A, rh, rs, q⟩
  refine ⟨m, E, A, rh, rs, Po.bindL hn q fun m1 H1 ds xs A1 g1 rh1 dxs hl q1 => ⟨by rw [hl]; exact hz, fun p hp => ?_⟩⟩
  refine Po.ok' q1 (Gr.push hp) (rh1.push hp ⟨xs, upd_same, dxs.mono (Gr.push hp)⟩) (.ref ?_)
  rw [← rh1.len]; simp
end
noncomputable def seqOf (A : HA) : D → Option (List D)
  | .tup ds => some ds
  | .lst ds => some ds
  | .ref a => match A[a]? with
    | some (.lst ds) => some ds
    | _ => none
  | _ => none
theorem KTup.sq {K : PySem.W.Frag} {H : Hp} {p : Addr} {vs : List V} (h : KTup K p vs) : SqT K H p vs := let ⟨o, its, n, h1, h2, h3, h4⟩ := h; .inr ⟨o, its, n, h1, h2, h4⟩
theorem KLst.sq {K : PySem.W.Frag} {H : Hp} {p : Addr} {vs : List V} (h : KLst K p vs) : SqL K H p vs := .inr h
theorem DV.tup_inv {g : G} {H : Hp} {m : List Addr} {ds : List D} {v : V} (h : DV g H m (.tup ds) v) : ∃ p vs, v = .ref p ∧ SqT g.K H p vs ∧ DVs g H m ds vs := by
  cases h with
  | tup h hs => exact ⟨_, _, rfl, h.elim (fun ⟨o, h, _⟩ => .inl (.inr ⟨o, h⟩)) (fun h => h.sq), hs⟩
theorem DV.lst_inv {g : G} {H : Hp} {m : List Addr} {ds : List D} {v : V} (h : DV g H m (.lst ds) v) : ∃ p vs, v = .ref p ∧ SqL g.K H p vs ∧ DVs g H m ds vs := by
  cases h with
  | lst h hs => exact ⟨_, _, rfl, h.elim (fun ⟨o, h, _⟩ => .inl (.inr ⟨o, h⟩)) (fun h => h.sq), hs⟩
theorem DV.ref_inv {g : G} {H : Hp} {m : List Addr} {a : Nat} {v : V} (h : DV g H m (.ref a) v) : ∃ p, v = .ref p ∧ m[a]? = some p := by
  cases h with
  | ref h => exact ⟨_, rfl, h⟩
theorem seq_rel {g : G} {H : Hp} {m : List Addr} {A : HA} {d : D} {x : V} {ds : List D} (rh : RH g H m A) (dx : DV g H m d x) (h : seqOf A d = some ds) :
    ∃ p vs, x = .ref p ∧ (SqL g.K H p vs ∨ SqT g.K H p vs) ∧ DVs g H m ds vs := by
  cases d with
  | tup es => cases h; obtain ⟨p, vs, e, s, r⟩ := dx.tup_inv; exact ⟨p, vs, e, .inr s, r⟩
  | lst es => cases h; obtain ⟨p, vs, e, s, r⟩ := dx.lst_inv; exact ⟨p, vs, e, .inl s, r⟩
  | ref a =>
    obtain ⟨p, e, hp⟩ := dx.ref_inv
    have h : (match A[a]? with | some (.lst ds) => some ds | _ => none : Option (List D)) = some ds := h
    split at h
    · rename_i es he
      cases h
      obtain ⟨q, hq, vs, h1, h2⟩ := rh.get he
      rw [hp] at hq; cases hq
      exact ⟨p, vs, e, .inl (SqL.of h1), h2⟩
    · cases h
  | _ => cases h
theorem DVs.atI {g : G} {H : Hp} {m : List Addr} {ds : List D} {vs : List V} {i : Int} {d : D} (r : DVs g H m ds vs) (h : atI ds i = some d) : ∃ v, atI vs i = some v ∧ DV g H m d v := by
  unfold L2.atI at h ⊢
  rw [← r.length]
  cases e : ixN ds.length i with
  | none => rw [e] at h; cases h
  | some j =>
    rw [e] at h
    exact r.get h
/-- xs[i] of a list or tuple -/
noncomputable def pIx : P2 := fun d e A => match seqOf A d, e with
  | some ds, .int i => match atI ds i with
    | some x => .ok x A
    | none => .no
  | _, _ => .no
theorem op2_ix {g : G} : Op2 g (rIx g.K) pIx := by
  intro W σ m H A d e x y Q rh dx dy q
  unfold pIx at q
  split at q
  · rename_i ds i hs
    split at q
    · rename_i z hz
      obtain ⟨p, vs, rfl, s, r⟩ := seq_rel rh dx hs
      obtain ⟨v, hv, rv⟩ := r.atI hz
      have ey := dy.int_inv
      subst ey
      rcases s with s | s
      · exact .inl ⟨p, vs, i, v, rfl, rfl, s, hv, Po.ok q rh rv⟩
      · exact .inr (.inl ⟨p, vs, i, v, rfl, rfl, s, hv, Po.ok q rh rv⟩)
    · exact q.elim
  · exact q.elim
noncomputable def pI (f : Int → Int → Int) (ok : Int → Int → Bool) : P2 := fun d e A => match d, e with
  | .int i, .int j => if ok i j = true then .ok (.int (f i j)) A else .no
  | _, _ => .no
noncomputable def pIB (f : Int → Int → Bool) : P2 := fun d e A => match d, e with
  | .int i, .int j => .ok (.bl (f i j)) A
  | _, _ => .no
theorem op2_I {g : G} {C : Int → Int → Prop} {f : Int → Int → Int} {ok : Int → Int → Bool} (h : ∀ i j, ok i j = true → C i j) : Op2 g (rI C fun i j => .int (f i j)) (pI f ok) := by
  intro W σ m H A d e x y Q rh dx dy q
  unfold pI at q
  split at q
  · rename_i i j
    split at q
    · rename_i hk
      exact ⟨i, j, dx.int_inv, dy.int_inv, h i j hk, Po.ok q rh (.int _)⟩
    · exact q.elim
  · exact q.elim
theorem op2_I0 {g : G} {f : Int → Int → Int} : Op2 g (rI0 fun i j => .int (f i j)) (pI f fun _ _ => true) := by
  intro W σ m H A d e x y Q rh dx dy q
  unfold pI at q
  split at q
  · rename_i i j
    exact ⟨i, j, dx.int_inv, dy.int_inv, Po.ok q rh (.int _)⟩
  · exact q.elim
theorem op2_IB {g : G} {f : Int → Int → Bool} : Op2 g (rI0 fun i j => .bl (f i j)) (pIB f) := by
  intro W σ m H A d e x y Q rh dx dy q
  unfold pIB at q
  split at q
  · rename_i i j
    exact ⟨i, j, dx.int_inv, dy.int_inv, Po.ok q rh (.bl _)⟩
  · exact q.elim
end Sm
namespace Sm
open PySem PySem.Spec PyProof.Rows L2
/-- a context of a def's own statements -/
structure OkS (F : F) (W : WX) (X : Cx) : Prop extends Ok F W X where
  fn : X.fn = fun _ => true
  hs : X.stack = X.env :: X.outer
  hf : X.env.frame = some X.env.locals
  ex : X.ex = []
  pass : PassesOwn (model X.prog X.w) X.A X.env X.xe
noncomputable abbrev JS' (F : F) (s : Stmt) (c : CS) : Prop := ∀ W X, OkS F W X → PS X s (TSx F.g W c)
noncomputable abbrev JL (F : F) (s : List Stmt) (c : CS) : Prop := ∀ W X, OkS F W X → PSs X s (TSx F.g W c)
variable {F : F} {pos : Pos}
theorem PoS.nx {g : G} {m : List Addr} {H : Hp} {W : WX} {E : SA} {A : HA} {D : Ends} {σ : St} (h : PoS g m H W (.nx E A) D) (rh : RH g H m A) (rs : RS g H m E σ) : D.nx σ H := h m σ H (Gr.refl _ _) rh rs
theorem PoS.rt {g : G} {m : List Addr} {H : Hp} {W : WX} {d : D} {A : HA} {D : Ends} {v : V} (h : PoS g m H W (.rt d A) D) (rh : RH g H m A) (rd : DV g H m d v) : D.rt v H := h m v H (Gr.refl _ _) rh rd
noncomputable def cSkip : CS := fun E A => .nx E A
noncomputable def cSeq (c c' : CS) : CS := fun E A => match c E A with
  | .nx E' A' => c' E' A'
  | r => r
noncomputable def cExpr (ce : CE) : CS := fun E A => RSt.of (ce E A) E fun _ A1 => .nx E A1
noncomputable def cRet (ce : CE) : CS := fun E A => RSt.of (ce E A) E fun d A1 => .rt d A1
noncomputable def cIfS (tb : CB) (c c' : CS) : CS := fun E A => RSt.of (tb E A) E fun b A1 => if b = true then c E A1 else c' E A1
noncomputable def cSet (i : Nat) (ce : CE) : CS := fun E A => RSt.of (ce E A) E fun d A1 => .nx (E.set i (some d)) A1
section
variable {st : Stmt} {rest : List Stmt} {c c' : CS} {e : Expr} {ce : CE}
theorem jl_nil : JL F [] cSkip := by
  intro W X ok
  refine PSs.imp pss_nil ?_
  rintro D σ H ⟨m, E, A, rh, rs, q⟩
  exact q.nx rh rs
theorem jl_one (h : JS' F st c) : JL F [st] c := fun W X ok => pss_one (h W X ok)
theorem jl_cons (h : JS' F st c) (hr : JL F rest c') : JL F (st :: rest) (cSeq c c') := by
  intro W X ok
  refine PSs.imp (pss_cons (h W X ok) (hr W X ok)) ?_
  rintro D σ H ⟨m, E, A, rh, rs, q⟩
  refine ⟨m, E, A, rh, rs, ?_⟩
  unfold cSeq at q
  cases hc : c E A with
  | nx E' A' =>
    rw [hc] at q
    exact fun m' σ' H' a r r' => ⟨m', E', A', r, r', PoS.from a q⟩
  | rt => rw [hc] at q; exact q
  | bk => rw [hc] at q; exact q
  | ct => rw [hc] at q; exact q
  | exc => rw [hc] at q; exact q
  | no => rw [hc] at q; exact q
theorem js_expr (he : JE F e ce) (hs : ∀ X : Cx, swapsWith e none pos.line X.env = pure false := by intro _; rfl) : JS' F (.Expr e pos) (cExpr ce) := by
  intro W X ok
  refine PS.imp (ps_expr (he W X ok.toOk) (hs X)) ?_
  rintro D σ H ⟨m, E, A, rh, rs, q⟩
  exact ⟨m, E, A, rh, rs, PoS.bind rs q fun m1 H1 d x A1 g1 rh1 dx q1 => q1.nx rh1 (rs.mono g1)⟩
theorem js_ret (he : JE F e ce) : JS' F (.Return (some e) pos) (cRet ce) := by
  intro W X ok
  refine PS.imp (ps_ret (he W X ok.toOk)) ?_
  rintro D σ H ⟨m, E, A, rh, rs, q⟩
  exact ⟨m, E, A, rh, rs, PoS.bind rs q fun m1 H1 d x A1 g1 rh1 dx q1 => q1.rt rh1 dx⟩
theorem js_if {a b : List Stmt} {tb : CB} (hc : JB F e tb) (ha : JL F a c) (hb : JL F b c') : JS' F (.If e a b pos) (cIfS tb c c') := by
  intro W X ok
  refine PS.imp (ps_if (hc W X ok.toOk) (ha W X ok) (hb W X ok)) ?_
  rintro D σ H ⟨m, E, A, rh, rs, q⟩
  refine ⟨m, E, A, rh, rs, PoS.bind rs q fun m1 H1 d x A1 g1 rh1 dx q1 => ?_⟩
  cases dx
  cases d
  · exact iteF ⟨m1, E, A1, rh1, rs.mono g1, q1⟩
  · exact iteT ⟨m1, E, A1, rh1, rs.mono g1, q1⟩
theorem js_set {i : Nat} {x : Str} {pos' : Pos} (hi : F.N[i]? = some x) (hx : Loc F.scope x) (he : JE F e ce) (hs : ∀ X : Cx, swapsWith e (some (.Name x pos')) pos.line X.env = pure false := by intro _; rfl) : JS' F (.Assign [.Name x pos'] e pos) (cSet i ce) := by
  intro W X ok
  refine PS.imp (ps_set (i := i) (by rw [ok.N]; exact ok.nd) (by rw [ok.N]; exact hi) (by rw [ok.sc]; exact hx) (he W X ok.toOk) (hs X) (.inl (by rw [ok.fn]))) ?_
  rintro D σ H ⟨m, E, A, rh, rs, q⟩
  exact ⟨m, E, A, rh, rs, PoS.bind rs q fun m1 H1 d x A1 g1 rh1 dx q1 => q1.nx rh1 ((rs.mono g1).set i dx)⟩
end
noncomputable abbrev CG := D → SA → HA → RSt
noncomputable abbrev CGs := List D → SA → HA → RSt
/-- vs: the slots that it may store -/
noncomputable def PoG (g : G) (m : List Addr) (H : Hp) (vs : List Nat) (σ : St) (r : RSt) (Q : St → Hp → Prop) : Prop := match r with
  | .nx E h => ∀ m' σ' H', Gr m m' H H' → RH g H' m' h → RS g H' m' E σ' → wipe σ' vs = wipe σ vs → Q σ' H'
  | _ => False
noncomputable def TGx (g : G) (vs : List Nat) (c : CG) : TG := fun v σ H Q => ∃ m E A d, RH g H m A ∧ RS g H m E σ ∧ DV g H m d v ∧ PoG g m H vs σ (c d E A) Q
noncomputable def TGsx (g : G) (vs : List Nat) (c : CGs) : TGs := fun us σ H Q => ∃ m E A ds, RH g H m A ∧ RS g H m E σ ∧ DVs g H m ds us ∧ PoG g m H vs σ (c ds E A) Q
/-- names that are cells may be stored -/
noncomputable def FnC (F : Sm.F) (X : Cx) : Prop := (∀ x, X.fn x = true) ∨ ∀ x ∈ F.cl, X.fn x = true
noncomputable def JG (F : Sm.F) (vs : List Nat) (tg : Expr) (c : CG) : Prop := ∀ W X, Ok F W X → FnC F X → PG X tg (TGx F.g vs c)
noncomputable def JGs (F : Sm.F) (vs : List Nat) (tg : List Expr) (c : CGs) : Prop := ∀ W X, Ok F W X → FnC F X → PGs X tg (TGsx F.g vs c)
theorem PG.imp {X : Cx} {e : Expr} {t t' : TG} (h : PG X e t) (k : ∀ v σ H Q, t' v σ H Q → t v σ H Q) : PG X e t' := ⟨fun pins s σ H v u Q I r q => h.run pins s σ H v u Q I r (k v σ H Q q)⟩
theorem PGs.imp {X : Cx} {e : List Expr} {t t' : TGs} (h : PGs X e t) (k : ∀ v σ H Q, t' v σ H Q → t v σ H Q) : PGs X e t' := ⟨fun pins s σ H v u Q I r q => h.run pins s σ H v u Q I r (k v σ H Q q)⟩
theorem wipe_set : ∀ {vs : List Nat} {σ : St} {i : Nat} {o : Option V}, i ∈ vs → wipe (σ.set i o) vs = wipe σ vs
  | v :: vs, σ, i, o, h => by
    show (wipe (σ.set i o) vs).set v none = (wipe σ vs).set v none
    by_cases hi : i ∈ vs
    · rw [wipe_set hi]
    · have e : i = v := (List.mem_cons.mp h).resolve_right hi
      subst e
      have q : ∀ (us : List Nat) (τ : St), i ∉ us → wipe (τ.set i o) us = (wipe τ us).set i o := by
        intro us
        induction us with
        | nil => intro τ _; rfl
        | cons u us ih =>
          intro τ hu
          rw [List.mem_cons, not_or] at hu
          show (wipe (τ.set i o) us).set u none = ((wipe τ us).set u none).set i o
          rw [ih τ hu.2, List.set_comm _ _ hu.1]
      rw [q vs σ hi, List.set_set]
noncomputable def gSetN (i : Nat) : CG := fun d E A => .nx (E.set i (some d)) A
theorem jg_name {i : Nat} {x : Str} {vs : List Nat} (hi : F.N[i]? = some x) (hx : F.scope.names.lookup x = some .local ∨ (F.scope.names.lookup x = some .cell ∧ x ∈ F.cl)) (hv : i ∈ vs := by decide) : JG F vs (.Name x pos) (gSetN i) := by
  intro W X ok fc
  refine PG.imp (pg_name (i := i) (by rw [ok.N]; exact ok.nd) (by rw [ok.N]; exact hi) (by rw [ok.sc]; exact hx.imp id (·.1)) ?_) ?_
  · rcases hx with h | h
    · exact .inr (by rw [ok.sc]; exact h)
    · exact .inl (fc.elim (fun f => f x) fun f => f x h.2)
  · rintro v σ H Q ⟨m, E, A, d, rh, rs, dx, q⟩
    exact q m _ H (Gr.refl _ _) rh (rs.set i dx) (wipe_set hv)
noncomputable def gsNil : CGs := fun ds E A => match ds with
  | [] => .nx E A
  | _ => .no
noncomputable def gsCons (c : CG) (cs : CGs) : CGs := fun ds E A => match ds with
  | d :: r => match c d E A with
    | .nx E1 A1 => cs r E1 A1
    | _ => .no
  | _ => .no
theorem jgs_nil {vs : List Nat} : JGs F vs [] gsNil := by
  intro W X ok fc
  refine PGs.imp pgs_nil ?_
  rintro us σ H Q ⟨m, E, A, ds, rh, rs, dx, q⟩
  cases dx with
  | nil => exact ⟨rfl, q m σ H (Gr.refl _ _) rh rs rfl⟩
  | cons => exact q.elim
theorem jgs_cons {e : Expr} {es : List Expr} {c : CG} {cs : CGs} {vs : List Nat} (h : JG F vs e c) (hr : JGs F vs es cs)
    (hs : ∀ X : Cx, (assignEach (e :: es) X.env).map (·.2) = assign e X.env :: (assignEach es X.env).map (·.2) := by intro _; rfl) : JGs F vs (e :: es) (gsCons c cs) := by
  intro W X ok fc
  refine PGs.imp (pgs_cons (h W X ok fc) (hr W X ok fc) (hs X)) ?_
  rintro us σ H Q ⟨m, E, A, ds, rh, rs, dx, q⟩
  cases dx with
  | nil => exact q.elim
  | cons d1 d2 =>
    rename_i d v ds' us'
    refine ⟨v, us', rfl, m, E, A, d, rh, rs, d1, ?_⟩
    have q : PoG F.g m H vs σ (match c d E A with | .nx E1 A1 => cs ds' E1 A1 | _ => .no) Q := q
    cases hc : c d E A with
    | nx E1 A1 =>
      rw [hc] at q
      refine fun m1 σ1 H1 a r r' hw => ⟨m1, E1, A1, ds', r, r', d2.mono a, ?_⟩
      have q : PoG F.g m H vs σ (cs ds' E1 A1) Q := q
      cases hq : cs ds' E1 A1 with
      | nx E2 A2 =>
        rw [hq] at q
        exact fun m2 σ2 H2 a' r2 r2' hw' => q m2 σ2 H2 (a.trans a') r2 r2' (hw'.trans hw)
      | _ => rw [hq] at q; exact q.elim
    | _ => rw [hc] at q; exact q.elim
/-- (a, b, ..) = a tuple of that length -/
noncomputable def gTupN (n : Nat) (cs : CGs) : CG := fun d E A => match d with
  | .tup ds => if ds.length = n then cs ds E A else .no
  | .wtp ds => if ds.length = n then cs ds E A else .no
  | _ => .no
theorem jg_tup {es : List Expr} {k n : Nat} {cs : CGs} {vs : List Nat} (h : JGs F vs es cs)
    (hn : ∀ X : Cx, (assignEach es X.env).length = n := by intro _; rfl) (hst : ∀ X : Cx, (assignEach es X.env).findIdx? (·.1) = none := by intro _; rfl) : JG F vs (.Tuple es k pos) (gTupN n cs) := by
  intro W X ok fc
  have h0 := pg_tup (pos := pos) (k := k) ok.calm (h W X ok fc) (hn X) (hst X)
  rw [ok.K] at h0
  refine PG.imp h0 ?_
  rintro v σ H Q ⟨m, E, A, d, rh, rs, dx, q⟩
  unfold gTupN at q
  split at q
  · split at q
    · rename_i ds hl
      obtain ⟨p, us, rfl, s, r⟩ := dx.tup_inv
      exact ⟨p, us, rfl, s, by rw [← r.length]; exact hl, m, E, A, ds, rh, rs, r, q⟩
    · exact q.elim
  · split at q
    · rename_i ds hl
      cases dx with
      | wtp h1 h2 r => exact ⟨_, _, rfl, SqT.of h1, by rw [← r.length]; exact hl, m, E, A, ds, rh, rs, r, q⟩
    · exact q.elim
  · exact q.elim
/-- target = value -/
noncomputable def RSt.nxOnly (r : RSt) : RSt := match r with
  | .nx E A => .nx E A
  | _ => .no
noncomputable def cAsg (ce : CE) (cg : CG) : CS := fun E A => RSt.of (ce E A) E fun d A1 => (cg d E A1).nxOnly
theorem OkS.fc {W : WX} {X : Cx} (ok : OkS F W X) : FnC F X := .inl fun x => by rw [ok.fn]
theorem js_asg {tg e : Expr} {ce : CE} {cg : CG} {vs : List Nat} (he : JE F e ce) (hg : JG F vs tg cg) (hs : ∀ X : Cx, swapsWithSole [tg] e pos.line X.env = pure false := by intro _; rfl) (hw : ∀ X : Cx, swappedStores [tg] e X.env = pure none := by intro _; rfl)
    (h1 : ∀ X : Cx, (assignEach [tg] X.env).map (·.2) = [assign tg X.env] := by intro _; rfl) : JS' F (.Assign [tg] e pos) (cAsg ce cg) := by
  intro W X ok
  refine PS.imp (ps_asg (he W X ok.toOk) (hg W X ok.toOk ok.fc) (hs X) (hw X) (h1 X)) ?_
  rintro D σ H ⟨m, E, A, rh, rs, q⟩
  refine ⟨m, E, A, rh, rs, PoS.bind rs q fun m1 H1 d x A1 g1 rh1 dx q1 => ⟨m1, E, A1, d, rh1, rs.mono g1, dx, ?_⟩⟩
  cases hc : cg d E A1 with
  | nx E2 A2 =>
    rw [hc] at q1
    exact fun m2 σ2 H2 a r r' _ => q1 m2 σ2 H2 a r r'
  | _ => rw [hc] at q1; exact q1.elim
end Sm
namespace Sm
open PySem PySem.Spec PyProof.Rows L2
variable {F : F} {pos : Pos}
/-- what is walked: items, or a list of the abstract heap that keeps its length -/
inductive IT where
  | fix (ds : List D)
  | live (a n : Nat)
  deriving Inhabited
noncomputable def itemAt (it : IT) (i : Nat) (A : HA) : Option (Option D) := match it with
  | .fix ds => some ds[i]?
  | .live a n => match A[a]? with
    | some (.lst ds) => if ds.length = n then some ds[i]? else none
    | _ => none
noncomputable def IT.size : IT → Nat
  | .fix ds => ds.length
  | .live _ n => n
noncomputable abbrev CI := SA → HA → R IT
noncomputable def WkR (g : G) : Rl IT It := fun H0 m0 it J => ∀ i m H A, GrX m0 m H0 H → RH g H m A → ∀ o, itemAt it i A = some o → match o with
  | some d => J.go i H ∧ ∀ x H', J.yld i H x H' → (∀ p u, H p = some u → H' p = some u) ∧ Gr m m H H' ∧ DV g H' m d x
  | none => J.stop i H
noncomputable def SzOk (K : PySem.W.Frag) (H : Hp) : Prop := ∀ a xs, (SqT K H a xs ∨ SqL K H a xs) → xs.length ≤ sizeLine
noncomputable abbrev rI (g : G) : Rl IT It := fun H m it J => WkR g H m it J ∧ (SzOk g.K H → it.size ≤ sizeLine)
noncomputable abbrev TIx (g : G) (W : WX) (c : CI) : TI := Tx (rI g) g W c
noncomputable def JI (F : Sm.F) (tg e : Expr) (c : CI) : Prop := ∀ W X, Ok F W X → PI X tg e (TIx F.g W c)
theorem PI.imp {X : Cx} {tg e : Expr} {t t' : TI} (h : PI X tg e t) (k : ∀ σ H Q, t' σ H Q → t σ H Q) : PI X tg e t' := ⟨fun pins s σ H Q I q => h.run pins s σ H Q I (k σ H Q q)⟩
theorem PI.or {X : Cx} {tg e : Expr} {t t' : TI} (h : PI X tg e t) (h' : PI X tg e t') : PI X tg e (fun σ H R => t σ H R ∨ t' σ H R) :=
  ⟨fun pins s σ H Q I q => q.elim (fun q => h.run pins s σ H Q I q) (fun q => h'.run pins s σ H Q I q)⟩
/-- what is read as a list or tuple has its largest length -/
theorem Inv.szOk {X : Cx} {pins : List (Addr × Obj)} {σ : St} {H : Hp} {s : Shared} (I : Inv X pins σ H s) : SzOk X.K H := fun a xs h => h.elim (fun h => (I.tuple h).choose_spec.2.2) (fun h => (I.list h).choose_spec.2.2)
theorem PI.sz {X : Cx} {tg e : Expr} {t : TI} (h : PI X tg e t) : PI X tg e (fun σ H R => t σ H fun J H' => SzOk X.K H' → R J H') :=
  ⟨fun pins s σ H Q I q => thn (h.run pins s σ H _ I q) fun v s1 h1 => thn h1 fun itv s2 ⟨it, fp, tn, J, H', e, I', T, t0, f, r⟩ => ⟨it, fp, tn, J, H', e, I', T, t0, f, r (Inv.szOk I')⟩⟩
theorem SqT.gr {g : G} {H H' : Hp} {m m' : List Addr} {p : Addr} {vs : List V} (a : GrW m m' H H') (h : PTu H m p vs ∨ KTup g.K p vs) : SqT g.K H' p vs := h.elim (fun ⟨o, h1, _, h3⟩ => .inl (.inr ⟨o, a.keep _ _ h1 h3⟩)) fun h => h.sq
theorem SqL.gr {g : G} {H H' : Hp} {m m' : List Addr} {p : Addr} {vs : List V} (a : GrW m m' H H') (h : (∃ o, H p = some (.frz o (.lst vs)) ∧ p ∉ m) ∨ KLst g.K p vs) : SqL g.K H' p vs := h.elim (fun ⟨o, h1, h2⟩ => .inl (.inr ⟨o, a.keep _ _ h1 h2⟩)) fun h => h.sq
theorem wk_tup {g : G} {H : Hp} {m : List Addr} {ds : List D} {vs : List V} {p : Addr} (h : PTu H m p vs ∨ KTup g.K p vs) (r : DVs g H m ds vs) : rI g H m (.fix ds) (Itt g.K p) := by
  refine ⟨?_, fun z => by rw [show (IT.fix ds).size = ds.length from rfl, r.length]; exact z p vs (.inl (SqT.gr (Gr.refl _ _).w h))⟩
  intro i m1 H1 A a rh o e
  have e : some ds[i]? = some o := e
  cases e
  have s := SqT.gr a.w h
  have r1 := r.monoW a.w
  cases hd : ds[i]? with
  | none => exact ⟨vs, s, by rw [← r.length]; exact List.getElem?_eq_none_iff.mp hd⟩
  | some d =>
    obtain ⟨v, hv, dv⟩ := r1.get hd
    refine ⟨⟨vs, v, s, hv⟩, fun x H' y => ?_⟩
    obtain ⟨rfl, y⟩ := y
    have := y vs s
    rw [hv] at this; cases this
    exact ⟨fun _ _ h => h, Gr.refl _ _, dv⟩
theorem wk_lst {g : G} {H : Hp} {m : List Addr} {ds : List D} {vs : List V} {p : Addr} (h : (∃ o, H p = some (.frz o (.lst vs)) ∧ p ∉ m) ∨ KLst g.K p vs) (r : DVs g H m ds vs) : rI g H m (.fix ds) (Itl g.K p) := by
  refine ⟨?_, fun z => by rw [show (IT.fix ds).size = ds.length from rfl, r.length]; exact z p vs (.inr (SqL.gr (Gr.refl _ _).w h))⟩
  intro i m1 H1 A a rh o e
  have e : some ds[i]? = some o := e
  cases e
  have s := SqL.gr a.w h
  have r1 := r.monoW a.w
  cases hd : ds[i]? with
  | none => exact ⟨vs, s, by rw [← r.length]; exact List.getElem?_eq_none_iff.mp hd⟩
  | some d =>
    obtain ⟨v, hv, dv⟩ := r1.get hd
    refine ⟨⟨vs, v, s, hv⟩, fun x H' y => ?_⟩
    obtain ⟨rfl, y⟩ := y
    have := y vs s
    rw [hv] at this; cases this
    exact ⟨fun _ _ h => h, Gr.refl _ _, dv⟩
theorem wk_ref {g : G} {H : Hp} {m : List Addr} {a n : Nat} {p : Addr} (h : m[a]? = some p) (hz : SzOk g.K H → n ≤ sizeLine) : rI g H m (.live a n) (Itl g.K p) := by
  refine ⟨?_, hz⟩
  intro i m1 H1 A gr rh o e
  unfold itemAt at e
  split at e
  · cases ‹IT.live a n = _›
  · rename_i a' n' ei
    cases ei
    split at e
    · rename_i ds hd
      split at e
      · cases e
        obtain ⟨q, hq, vs, h1, h2⟩ := rh.get hd
        rw [gr.w.get h] at hq; cases hq
        have s : SqL g.K H1 p vs := SqL.of h1
        cases hi : ds[i]? with
        | none => exact ⟨vs, s, by rw [← h2.length]; exact List.getElem?_eq_none_iff.mp hi⟩
        | some d =>
          obtain ⟨v, hv, dv⟩ := h2.get hi
          refine ⟨⟨vs, v, s, hv⟩, fun x H' y => ?_⟩
          obtain ⟨rfl, y⟩ := y
          have := y vs s
          rw [hv] at this; cases this
          exact ⟨fun _ _ h => h, Gr.refl _ _, dv⟩
      · cases e
    · cases e
noncomputable def iSeq (ce : CE) : CI := fun E A => (ce E A).bind fun d A1 => match d with
  | .tup ds => .ok (.fix ds) A1
  | .lst ds => .ok (.fix ds) A1
  | .ref a => match A1[a]? with
    | some (.lst ds) => .ok (.live a ds.length) A1
    | _ => .no
  | _ => .no
theorem ji_seq {tg e : Expr} {ce : CE} (he : JE F e ce) : JI F tg e (iSeq ce) := by
  intro W X ok
  have h := PI.or (pi_list (tg := tg) (he W X ok)) (pi_tup (tg := tg) (he W X ok))
  rw [ok.K] at h
  refine PI.imp h ?_
  rintro σ H Q ⟨m, E, A, rh, rs, q⟩
  unfold iSeq at q
  cases hc : ce E A with
  | ok d A1 =>
    simp only [hc, R.bind] at q
    split at q
    · refine .inr ⟨m, E, A, rh, rs, ?_⟩
      rw [hc]
      intro m1 v H1 a r dv
      cases dv with
      | tup h hs => exact ⟨_, rfl, ⟨_, SqT.gr (Gr.refl _ _).w h⟩, q m1 _ H1 a r (wk_tup h hs)⟩
    · refine .inl ⟨m, E, A, rh, rs, ?_⟩
      rw [hc]
      intro m1 v H1 a r dv
      cases dv with
      | lst h hs => exact ⟨_, rfl, ⟨_, SqL.gr (Gr.refl _ _).w h⟩, q m1 _ H1 a r (wk_lst h hs)⟩
    · split at q
      · rename_i a ds hd
        refine .inl ⟨m, E, A, rh, rs, ?_⟩
        rw [hc]
        intro m1 v H1 gr r dv
        obtain ⟨p, rfl, hp⟩ := dv.ref_inv
        obtain ⟨p', hp', vs, h1, h2⟩ := r.get hd
        rw [hp] at hp'; cases hp'
        exact ⟨p, rfl, ⟨vs, SqL.of h1⟩, q m1 _ H1 gr r (wk_ref hp fun z => by rw [h2.length]; exact z p vs (.inr (SqL.of h1)))⟩
      · exact q.elim
    · exact q.elim
  | exc => rw [hc] at q; exact .inl ⟨m, E, A, rh, rs, by rw [hc]; exact q⟩
  | no => rw [hc] at q; exact q.elim
noncomputable def intsD (lo : Int) (n : Nat) : List D := (List.range n).map fun i => .int (lo + (i : Nat))
theorem wk_rng {g : G} {H : Hp} {m : List Addr} {lo : Int} {n : Nat} (hn : n ≤ sizeLine) : rI g H m (.fix (intsD lo n)) (Itr lo n) := by
  refine ⟨?_, fun _ => by show (intsD lo n).length ≤ sizeLine; unfold intsD; simpa using hn⟩
  intro i m1 H1 A a rh o e
  have e : some (intsD lo n)[i]? = some o := e
  cases e
  unfold intsD
  rw [List.getElem?_map]
  by_cases hi : i < n
  · rw [List.getElem?_range hi]
    refine ⟨hi, fun x H' y => ?_⟩
    obtain ⟨rfl, rfl⟩ := y
    exact ⟨fun _ _ h => h, Gr.refl _ _, .int _⟩
  · rw [List.getElem?_eq_none (by simpa using hi)]
    exact Nat.le_of_not_lt hi
noncomputable def iRng1 (ca : CA) : CI := fun E A => (ca E A).bind fun ds A1 => match ds with
  | [.int j] => if -(2 ^ 62) ≤ j ∧ j < 2 ^ 62 ∧ j.toNat ≤ sizeLine then .ok (.fix (intsD 0 j.toNat)) A1 else .no
  | _ => .no
noncomputable def iRng2 (ca : CA) : CI := fun E A => (ca E A).bind fun ds A1 => match ds with
  | [.int i, .int j] => if -(2 ^ 62) ≤ i ∧ i < 2 ^ 62 ∧ -(2 ^ 62) ≤ j ∧ j < 2 ^ 62 ∧ (j - i).toNat ≤ sizeLine then .ok (.fix (intsD i (j - i).toNat)) A1 else .no
  | _ => .no
theorem DVs.one {g : G} {H : Hp} {m : List Addr} {d : D} {vs : List V} (h : DVs g H m [d] vs) : ∃ v, vs = [v] ∧ DV g H m d v := by
  cases h with
  | cons h hs => cases hs; exact ⟨_, rfl, h⟩
theorem DVs.two {g : G} {H : Hp} {m : List Addr} {d e : D} {vs : List V} (h : DVs g H m [d, e] vs) : ∃ v w, vs = [v, w] ∧ DV g H m d v ∧ DV g H m e w := by
  cases h with
  | cons h hs =>
    obtain ⟨w, rfl, k⟩ := hs.one
    exact ⟨_, w, rfl, h, k⟩
theorem ji_rng1 {tg a : Expr} {ca : CA} {p : Pos} (hg : Gls F.scope "range") (hm : F.g.mg "range" = none) (ha : JA F [a] ca) (hs : ∀ X : Cx, starEach [a] X.env = [(false, eval a X.env)] := by intro _; rfl) : JI F tg (.Call (.Name "range" p) [a] [] pos) (iRng1 ca) := by
  intro W X ok
  refine PI.imp (pi_range1 (ok.gl hg) (by rw [ok.mg]; exact hm) (ha W X ok) (hs X)) ?_
  rintro σ H Q ⟨m, E, A, rh, rs, q⟩
  refine ⟨m, E, A, rh, rs, Po.bind q fun m1 H1 ds vs A1 g1 rh1 dx q1 => ?_⟩
  split at q1
  · split at q1
    · rename_i j hj
      obtain ⟨v, rfl, dv⟩ := DVs.one dx
      have := dv.int_inv
      subst this
      exact ⟨j, rfl, hj.1, hj.2.1, Po.ok q1 rh1 (wk_rng hj.2.2)⟩
    · exact q1.elim
  · exact q1.elim
theorem ji_rng2 {tg a b : Expr} {ca : CA} {p : Pos} (hg : Gls F.scope "range") (hm : F.g.mg "range" = none) (ha : JA F [a, b] ca) (hs : ∀ X : Cx, starEach [a, b] X.env = [(false, eval a X.env), (false, eval b X.env)] := by intro _; rfl)
    (hs2 : ∀ X : Cx, starEach [b] X.env = [(false, eval b X.env)] := by intro _; rfl) : JI F tg (.Call (.Name "range" p) [a, b] [] pos) (iRng2 ca) := by
  intro W X ok
  refine PI.imp (pi_range2 (ok.gl hg) (by rw [ok.mg]; exact hm) (ha W X ok) (hs X) (hs2 X)) ?_
  rintro σ H Q ⟨m, E, A, rh, rs, q⟩
  refine ⟨m, E, A, rh, rs, Po.bind q fun m1 H1 ds vs A1 g1 rh1 dx q1 => ?_⟩
  split at q1
  · split at q1
    · rename_i i j hj
      obtain ⟨v, w, rfl, dv, dw⟩ := DVs.two dx
      have := dv.int_inv
      subst this
      have := dw.int_inv
      subst this
      exact ⟨i, j, rfl, ⟨hj.1, hj.2.1, hj.2.2.1, hj.2.2.2.1⟩, Po.ok q1 rh1 (wk_rng hj.2.2.2.2)⟩
    · exact q1.elim
  · exact q1.elim
noncomputable def forN (it : IT) (cg : CG) (body : CS) : Nat → Nat → SA → HA → RSt
  | 0, _, _, _ => .no
  | k + 1, i, E, A => match itemAt it i A with
    | none => .no
    | some none => .nx E A
    | some (some d) => match cg d E A with
      | .nx E1 A1 => match body E1 A1 with
        | .nx E2 A2 => forN it cg body k (i + 1) E2 A2
        | .ct E2 A2 => forN it cg body k (i + 1) E2 A2
        | .bk E2 A2 => .nx E2 A2
        | r => r
      | _ => .no
noncomputable def forL (cg : CG) (body : CS) : List D → SA → HA → RSt
  | [], E, A => .nx E A
  | d :: ds, E, A => match cg d E A with
      | .nx E1 A1 => match body E1 A1 with
        | .nx E2 A2 => forL cg body ds E2 A2
        | .ct E2 A2 => forL cg body ds E2 A2
        | .bk E2 A2 => .nx E2 A2
        | r => r
      | _ => .no
theorem forN_fix {cg : CG} {body : CS} {ds : List D} : ∀ (k i : Nat) (E : SA) (A : HA), k + i = ds.length → forN (.fix ds) cg body (k + 1) i E A = forL cg body (ds.drop i) E A
  | 0, i, E, A, h => by
    have e : ds[i]? = none := List.getElem?_eq_none (by omega)
    rw [List.drop_eq_nil_of_le (by omega)]
    unfold forN forL itemAt
    simp only [e]
  | k + 1, i, E, A, h => by
    have hi : i < ds.length := by omega
    have e : ds[i]? = some ds[i] := List.getElem?_eq_getElem hi
    rw [List.drop_eq_getElem_cons hi]
    have ih := fun E A => forN_fix (cg := cg) (body := body) (ds := ds) k (i + 1) E A (by omega)
    rw [show forN (.fix ds) cg body (k + 1 + 1) i E A = (match cg ds[i] E A with
      | .nx E1 A1 => match body E1 A1 with
        | .nx E2 A2 => forN (.fix ds) cg body (k + 1) (i + 1) E2 A2
        | .ct E2 A2 => forN (.fix ds) cg body (k + 1) (i + 1) E2 A2
        | .bk E2 A2 => .nx E2 A2
        | r => r
      | _ => .no) from by rw [forN]; unfold itemAt; simp only [e]]
    simp only [ih]
    rfl
noncomputable def cFor (ci : CI) (cg : CG) (body : CS) : CS := fun E A => RSt.of (ci E A) E fun it A1 => match it with
  | .fix ds => forL cg body ds E A1
  | it => forN it cg body (it.size + 1) 0 E A1
theorem cFor_eq (ci : CI) (cg : CG) (body : CS) (E : SA) (A : HA) : cFor ci cg body E A = RSt.of (ci E A) E fun it A1 => forN it cg body (it.size + 1) 0 E A1 := by
  unfold cFor
  congr 1
  funext it A1
  cases it with
  | fix ds => exact (forN_fix ds.length 0 E A1 (by omega)).symm
  | live a n => rfl
theorem js_for {tg iter : Expr} {body : List Stmt} {ci : CI} {cg : CG} {cb : CS} {vs : List Nat} (hi : JI F tg iter ci) (hg : JG F vs tg cg) (hb : JL F body cb) (hs : ∀ (X : Cx) x, foldedSetIterable iter X.env x = pure x := by intro _ _; rfl) :
    JS' F (.For tg iter body [] pos) (cFor ci cg cb) := by
  intro W X ok
  refine PS.imp (ps_for ok.pass ok.calm (hi W X ok.toOk) (hg W X ok.toOk ok.fc) (hb W X ok) (hs X)) ?_
  rintro D σ H ⟨m, E, A, rh, rs, q⟩
  rw [cFor_eq] at q
  refine ⟨m, E, A, rh, rs, PoS.bind rs q fun m1 H1 it J A1 g1 rh1 wk q1 => ?_⟩
  refine ⟨fun i k σ H => ∃ m E A, Gr m1 m H1 H ∧ RH F.g H m A ∧ RS F.g H m E σ ∧ PoS F.g m H W (forN it cg cb k i E A) D, ⟨it.size + 1, m1, E, A1, Gr.refl _ _, rh1, rs.mono g1, q1⟩, ?_⟩
  rintro i k σ2 H2 ⟨m2, E2, A2, g2, rh2, rs2, q2⟩
  cases k with
  | zero => exact q2.elim
  | succ k =>
    unfold forN at q2
    cases hit : itemAt it i A2 with
    | none => simp only [hit] at q2; exact q2.elim
    | some o =>
      have wk2 := wk.1 i m2 H2 A2 g2.x rh2 o hit
      cases o with
      | none =>
        simp only [hit] at q2
        exact .inl ⟨wk2, q2.nx rh2 rs2⟩
      | some d =>
        simp only [hit] at q2
        obtain ⟨go, yl⟩ := wk2
        refine .inr ⟨go, fun σ' H' => ∃ m E A, Gr m1 m H1 H' ∧ RH F.g H' m A ∧ RS F.g H' m E σ' ∧ PoS F.g m H' W (forN it cg cb k (i + 1) E A) D, fun σ' H' n => ⟨k, Nat.lt_succ_self _, n⟩, fun x H3 y => ?_⟩
        obtain ⟨k3, g3, dv⟩ := yl x H3 y
        refine ⟨m2, E2, A2, d, rh2.grow g3 k3, rs2.mono g3, dv, ?_⟩
        cases hcg : cg d E2 A2 with
        | nx E4 A4 =>
          simp only [hcg] at q2
          refine fun m4 σ4 H4 g4 rh4 rs4 _ => ⟨m4, E4, A4, rh4, rs4, ?_⟩
          have q4 := PoS.from (g3.trans g4) q2
          cases hb4 : cb E4 A4 with
          | nx E5 A5 =>
            simp only [hb4] at q4
            exact fun m5 σ5 H5 g5 rh5 rs5 => ⟨m5, E5, A5, g2.trans (g3.trans (g4.trans g5)), rh5, rs5, PoS.from g5 q4⟩
          | ct E5 A5 =>
            simp only [hb4] at q4
            exact fun m5 σ5 H5 g5 rh5 rs5 => ⟨m5, E5, A5, g2.trans (g3.trans (g4.trans g5)), rh5, rs5, PoS.from g5 q4⟩
          | bk E5 A5 =>
            simp only [hb4] at q4
            exact fun m5 σ5 H5 g5 rh5 rs5 => q4 m5 σ5 H5 g5 rh5 rs5
          | rt => simp only [hb4] at q4; exact q4
          | exc => simp only [hb4] at q4; exact q4
          | no => simp only [hb4] at q4; exact q4
        | _ => simp only [hcg] at q2; exact q2.elim
noncomputable def wipeA (E : SA) : List Nat → SA
  | [] => E
  | v :: vs => (wipeA E vs).set v none
theorem RS.unset {g : G} {H : Hp} {m : List Addr} {E : SA} {σ : St} (h : RS g H m E σ) (i : Nat) : RS g H m (E.set i none) (σ.set i none) := by
  refine ⟨by simp [h.len], fun j e hj => ?_⟩
  by_cases hij : i = j
  · subst hij
    by_cases hl : i < E.length
    · rw [List.getElem?_set_self hl] at hj; cases hj
    · rw [List.getElem?_eq_none (by simp; omega)] at hj; cases hj
  · rw [List.getElem?_set_ne hij] at hj
    obtain ⟨w, h1, h2⟩ := h.at_ j e hj
    exact ⟨w, by rw [List.getElem?_set_ne hij]; exact h1, h2⟩
theorem RS.wipe {g : G} {H : Hp} {m : List Addr} {E : SA} {σ : St} (h : RS g H m E σ) : ∀ vs : List Nat, RS g H m (wipeA E vs) (wipe σ vs)
  | [] => h
  | v :: vs => (RS.wipe h vs).unset v
/-- within a comprehension nothing may be raised -/
noncomputable def R.nox {α : Type} (r : R α) : R α := match r with
  | .ok a h => .ok a h
  | _ => .no
noncomputable def lcN (it : IT) (cg : CG) (ct : CB) (ce : CE) (E : SA) : Nat → Nat → HA → R (List D)
  | 0, _, _ => .no
  | k + 1, i, A => match itemAt it i A with
    | none => .no
    | some none => .ok [] A
    | some (some d) => match cg d E A with
      | .nx E1 A1 => (ct E1 A1).nox.bind fun b A2 => if b = true then (ce E1 A2).nox.bind fun x A3 => (lcN it cg ct ce E k (i + 1) A3).bind fun xs A4 => .ok (x :: xs) A4 else lcN it cg ct ce E k (i + 1) A2
      | _ => .no
noncomputable def lcL (cg : CG) (ct : CB) (ce : CE) (E : SA) : List D → HA → R (List D)
  | [], A => .ok [] A
  | d :: ds, A => match cg d E A with
      | .nx E1 A1 => (ct E1 A1).nox.bind fun b A2 => if b = true then (ce E1 A2).nox.bind fun x A3 => (lcL cg ct ce E ds A3).bind fun xs A4 => .ok (x :: xs) A4 else lcL cg ct ce E ds A2
      | _ => .no
theorem lcN_fix {cg : CG} {ct : CB} {ce : CE} {E : SA} {ds : List D} : ∀ (k i : Nat) (A : HA), k + i = ds.length → lcN (.fix ds) cg ct ce E (k + 1) i A = lcL cg ct ce E (ds.drop i) A
  | 0, i, A, h => by
    have e : ds[i]? = none := List.getElem?_eq_none (by omega)
    rw [List.drop_eq_nil_of_le (by omega)]
    unfold lcN lcL itemAt
    simp only [e]
  | k + 1, i, A, h => by
    have hi : i < ds.length := by omega
    have e : ds[i]? = some ds[i] := List.getElem?_eq_getElem hi
    rw [List.drop_eq_getElem_cons hi]
    have ih := fun A => lcN_fix (cg := cg) (ct := ct) (ce := ce) (E := E) (ds := ds) k (i + 1) A (by omega)
    rw [show lcN (.fix ds) cg ct ce E (k + 1 + 1) i A = (match cg ds[i] E A with
      | .nx E1 A1 => (ct E1 A1).nox.bind fun b A2 => if b = true then (ce E1 A2).nox.bind fun x A3 => (lcN (.fix ds) cg ct ce E (k + 1) (i + 1) A3).bind fun xs A4 => .ok (x :: xs) A4 else lcN (.fix ds) cg ct ce E (k + 1) (i + 1) A2
      | _ => .no) from by rw [lcN]; unfold itemAt; simp only [e]]
    simp only [ih]
    rfl
/-- the items as a plain list -/
noncomputable def cLcI (vs : List Nat) (ci : CI) (cg : CG) (ct : CB) (ce : CE) : CA := fun E A => (ci E A).bind fun it A1 => match it with
  | .fix ds => (lcL cg ct ce (wipeA E vs) ds A1).nox
  | it => (lcN it cg ct ce (wipeA E vs) (it.size + 1) 0 A1).nox
theorem cLcI_eq (vs : List Nat) (ci : CI) (cg : CG) (ct : CB) (ce : CE) (E : SA) (A : HA) : cLcI vs ci cg ct ce E A = (ci E A).bind fun it A1 => (lcN it cg ct ce (wipeA E vs) (it.size + 1) 0 A1).nox := by
  unfold cLcI
  congr 1
  funext it A1
  cases it with
  | fix ds => exact (congrArg R.nox (lcN_fix ds.length 0 A1 (by omega))).symm
  | live a n => rfl
end Sm
namespace Sm
open PySem PySem.Spec PyProof.Rows L2
variable {F : F} {pos : Pos}
section
variable {g : G} {H H' : Hp} {m m' : List Addr} {p : Addr} {o : HO}
theorem CellsV.chg (h0 : ∃ xs, H p = some (.lst xs)) {cl : List (Str × Addr)} : ∀ {xs : List Str} {vs : List V}, CellsV H m cl xs vs → CellsV (upd H p o) m cl xs vs
  | _, _, .nil => .nil
  | _, _, .cons h1 h2 h3 h4 h5 h6 => .cons h1 (by rw [upd_ne (fun e => by obtain ⟨xs, h0⟩ := h0; rw [← e, h2] at h0; cases h0)]; exact h2) h3 h4 h5 (CellsV.chg h0 h6)
theorem CellsQ.chg (h0 : ∃ xs, H p = some (.lst xs)) {cl : List (Str × Addr)} {xs : List Str} {vs : List V} {df : Option Int} {T : Addr} (h : CellsQ H m cl xs vs df T) : CellsQ (upd H p o) m cl xs vs df T := ⟨h.ok, h.v.chg h0, fun i e => by
  obtain ⟨q, k1, k2, k3⟩ := h.d i e
  exact ⟨q, by rw [upd_ne (fun e => by obtain ⟨xs, h0⟩ := h0; rw [← e, k1] at h0; cases h0)]; exact k1, k2, k3⟩⟩
mutual
theorem DV.chg (h0 : ∃ xs, H p = some (.lst xs)) : ∀ {d : D} {v : V}, DV g H m d v → DV g (upd H p o) m d v
  | _, _, .non => .non
  | _, _, .bl b => .bl b
  | _, _, .int i => .int i
  | _, _, .str x => .str x
  | _, _, .ty n => .ty n
  | _, _, .tup h hs => .tup (h.imp (fun ⟨o, h1, h2, h3⟩ => ⟨o, by rw [upd_ne (fun e => by obtain ⟨xs, h0⟩ := h0; rw [← e, h1] at h0; cases h0)]; exact h1, h2, h3⟩) id) (DVs.chg h0 hs)
  | _, _, .wtp h1 h2 hs => .wtp (by rw [upd_ne (fun e => by obtain ⟨xs, h0⟩ := h0; rw [← e, h1] at h0; cases h0)]; exact h1) h2 (DVs.chg h0 hs)
  | _, _, .lst h hs => .lst (h.imp (fun h => let ⟨o', h1, h2⟩ := h; ⟨o', by rw [upd_ne (fun e => by obtain ⟨xs, h0⟩ := h0; rw [← e, h1] at h0; cases h0)]; exact h1, h2⟩) id) (DVs.chg h0 hs)
  | _, _, .dct h hl hs => .dct (let ⟨o', h1, h2⟩ := h; ⟨o', by rw [upd_ne (fun e => by obtain ⟨xs, h0⟩ := h0; rw [← e, h1] at h0; cases h0)]; exact h1, h2⟩) hl (DVs.chg h0 hs)
  | _, _, .ref h => .ref h
  | _, _, .cls c => .cls c
  | _, _, .fn f => .fn f
  | _, _, .exc h1 h2 h3 h4 h6 h5 => .exc (by rw [upd_ne (fun e => by obtain ⟨xs, h0⟩ := h0; rw [← e, h1] at h0; cases h0)]; exact h1) h2 (by rw [upd_ne (fun e => by obtain ⟨xs, h0⟩ := h0; rw [← e, h3] at h0; cases h0)]; exact h3) h4 h6 (DVs.chg h0 h5)
  | _, _, .lam h1 h2 h3 h4 h5 h6 => .lam (by rw [upd_ne (fun e => by obtain ⟨xs, h0⟩ := h0; rw [← e, h1] at h0; cases h0)]; exact h1) h2 (by rw [upd_ne (fun e => by obtain ⟨xs, h0⟩ := h0; rw [← e, h3] at h0; cases h0)]; exact h3) h4 (h5.chg h0) (DVs.chg h0 h6)
theorem DVs.chg (h0 : ∃ xs, H p = some (.lst xs)) : ∀ {ds : List D} {vs : List V}, DVs g H m ds vs → DVs g (upd H p o) m ds vs
  | _, _, .nil => .nil
  | _, _, .cons h hs => .cons (DV.chg h0 h) (DVs.chg h0 hs)
end
theorem AOR.chg (h0 : ∃ xs, H p = some (.lst xs)) {a : AO} {q : Addr} (hq : q ≠ p) (h : AOR g H m a q) : AOR g (upd H p o) m a q := by
  have e : upd H p o q = H q := upd_ne hq
  cases a with
  | lst ds => obtain ⟨vs, h1, h2⟩ := h; exact ⟨vs, e.trans h1, h2.chg h0⟩
  | dct lk kvs =>
    have k1 : ∀ ks, KVR g H m kvs ks → KVR g (upd H p o) m kvs ks := fun ks r => Paired.mapR r fun _ _ z => ⟨z.1, z.2.chg h0⟩
    cases lk with
    | false => obtain ⟨ks, h1, h2⟩ := h; exact ⟨ks, e.trans h1, k1 _ h2⟩
    | true => obtain ⟨o, ks, h1, h2⟩ := h; exact ⟨o, ks, e.trans h1, k1 _ h2⟩
  | dtt lk kvs =>
    have k2 : ∀ ks, KTR g H m kvs ks → KTR g (upd H p o) m kvs ks := fun ks r => Paired.mapR r fun _ _ z => ⟨z.1, z.2.1.chg h0, z.2.2.chg h0⟩
    cases lk with
    | false => obtain ⟨ks, h1, h2⟩ := h; exact ⟨ks, e.trans h1, k2 _ h2⟩
    | true => obtain ⟨o, ks, h1, h2⟩ := h; exact ⟨o, ks, e.trans h1, k2 _ h2⟩
  | ins c fs => obtain ⟨dx, us, h1, h2⟩ := h; exact ⟨dx, us, e.trans h1, Paired.mapR h2 fun _ _ z => ⟨z.1, z.2.chg h0⟩⟩
theorem Paired.mapM {α β : Type} {R R' : α → β → Prop} : ∀ {l₁ : List α} {l₂ : List β}, Paired R l₁ l₂ → (∀ a b, a ∈ l₁ → R a b → R' a b) → Paired R' l₁ l₂
  | _, _, .nil, _ => .nil
  | _, _, .cons r t, f => .cons (f _ _ List.mem_cons_self r) (Paired.mapM t fun a b h => f a b (List.mem_cons_of_mem _ h))
theorem RH.chgOut (h0 : ∃ xs, H p = some (.lst xs)) (hp : p ∉ m) {A : HA} (h : RH g H m A) : RH g (L2.upd H p o) m A :=
  ⟨h.nd, Paired.mapM h.at_ fun q a hq r => r.chg h0 fun e => hp (e ▸ hq), (h0.elim fun xs e => tabs_chg h.tb e (by simp) (fun z => by obtain ⟨_, z⟩ := z.ext; cases z)), h.tbm⟩
theorem Gr.chgOut (a : Gr m m' H H') (hp : H p = none) : Gr m m' H (upd H' p o) := by
  refine ⟨a.ext, fun q u hq hm ht => ?_, fun q ps hq => ?_, fun q hq => ?_, fun q ob u hq => by rw [upd_ne (fun e => by rw [e, hp] at hq; cases hq)]; exact a.lk q ob u hq⟩
  · rw [upd_ne (fun e => by rw [e, hp] at hq; cases hq)]; exact a.keep q u hq hm ht
  · rw [upd_ne (fun e => by rw [e, hp] at hq; cases hq)]; exact a.tbl q ps hq
  · by_cases e : q = p
    · subst e; exact hp
    · rw [upd_ne e] at hq; exact a.non q hq
theorem Gr.out (a : Gr m m' H H') {q : Addr} (hq : H q = none) (hq' : ∀ n, m' = m ++ n → q ∉ n) (hm : q ∉ m) : q ∉ m' := by
  obtain ⟨n, rfl, _⟩ := a.ext
  exact fun h => (List.mem_append.mp h).elim hm (hq' n rfl)
end
noncomputable def JTs (F : Sm.F) (es : List Expr) (c : CB) : Prop := ∀ W X, Ok F W X → PTs X es (TBx F.g W c)
theorem PTs.imp {X : Cx} {es : List Expr} {t t' : TT} (h : PTs X es t) (k : ∀ σ H Q, t' σ H Q → t σ H Q) : PTs X es t' := ⟨fun pins s σ H Q I q => h.run pins s σ H Q I (k σ H Q q)⟩
noncomputable def cYes : CB := fun _ A => .ok true A
theorem jt_nil : JTs F [] cYes := by
  intro W X ok
  refine PTs.imp pts_nil ?_
  rintro σ H Q ⟨m, E, A, rh, rs, q⟩
  exact Po.ok q rh rfl
theorem jt_one {e : Expr} {c : CB} (h : JB F e c) : JTs F [e] c := fun W X ok => pts_one (h W X ok)
/-- the fixed data within a comprehension's block -/
noncomputable abbrev F.blk (f : Sm.F) (scope : Scope) (cl : List Str) : Sm.F := { f with scope := relS scope f.scope, cl := cl, deep := true, ltb := [] }
noncomputable abbrev W0 : WX := fun _ _ _ _ => False
theorem Ok.blk {W : WX} {X : Cx} (ok : Ok F W X) {scope : Scope} {cl : List Str} {s : Shared} {H : Hp} {C : Addr} {cs : List (Str × Addr)} {fp : List Addr} : Ok (F.blk scope cl) W0 (X.blk s H scope (compEnvC scope cs C X.env) fp) where
  prog := ok.prog
  w := ok.w
  K := ok.K
  mg := ok.mg
  base := ok.base
  N := ok.N
  sc := by
    show relS scope X.env.scope = relS scope F.scope
    rw [ok.sc]
  nd := ok.nd
  room := ok.room
  calm := ok.calm
  gd := ok.gd
  tk := takes0
  fnb := fun z => by cases z
  tabB := fun t z => by cases z
theorem item_lt {it : IT} {i : Nat} {A : HA} {d : D} (h : itemAt it i A = some (some d)) : i < it.size := by
  unfold itemAt at h
  cases it with
  | fix ds =>
    have h : ds[i]? = some d := by simpa using h
    exact (List.getElem?_eq_some_iff.mp h).1
  | live a n =>
    simp only at h
    split at h
    · split at h
      · rename_i ds _ hl
        have h : ds[i]? = some d := by simpa using h
        rw [← hl]
        exact (List.getElem?_eq_some_iff.mp h).1
      · cases h
    · cases h
theorem R.nox_ok {α : Type} {r : R α} {a : α} {h : HA} (e : r.nox = .ok a h) : r = .ok a h := by
  cases r with
  | ok => exact e
  | exc => cases e
  | no => cases e
noncomputable def cLc (vs : List Nat) (ci : CI) (cg : CG) (ct : CB) (ce : CE) : CE := fun E A => (cLcI vs ci cg ct ce E A).bind fun ds A1 => .ok (.lst ds) A1
/-- what a comprehension's reading comes to, whatever is done with the new list -/
theorem lc_read {W : WX} {σ : St} {H : Hp} {ci : CI} {cg : CG} {ct : CB} {ce : CE} {vs : List Nat} {Q : VK} {α β : Type} {ρ : Rl α β} {k : List D → HA → R α} {Q' : β → Hp → Prop} {K : PySem.W.Frag} (hK : K = F.g.K)
    (h : Tx ρ F.g W (fun E A => (cLcI vs ci cg ct ce E A).bind k) σ H Q')
    (hQ : ∀ (m m1 : List Addr) (H H1 : Hp) (ds : List D) (A1 : HA) (D : Addr) (acc : List V), Gr m m1 H H1 → H D = none → RH F.g H1 m1 A1 → H1 D = some (.lst acc) → D ∉ m1 → DVs F.g H1 m1 ds acc → Po ρ F.g m H W σ (k ds A1) Q' → Q (.ref D) H1) :
    (fun σ H R => TIx F.g W ci σ H fun J H' => SzOk K H' → R J H') σ H fun J H1 => ∀ D, H1 D = none → ∃ W' : Nat → Nat → Hp → Prop, (∃ m, W' 0 m (upd H1 D (.lst []))) ∧ ∀ i m H, W' i m H →
      (J.stop i H ∧ Q (.ref D) H) ∨ (J.go i H ∧ ∃ Nx : Hp → Prop, (∀ H', Nx H' → ∃ m', m' < m ∧ W' (i + 1) m' H') ∧ ∀ x H', J.yld i H x H' → TGx F.g vs cg x (wipe σ vs) H' fun σ2 H2 => wipe σ2 vs = wipe σ vs ∧ TBx F.g W0 ct σ2 H2 fun b H3 =>
        if b = true then TEx F.g W0 ce σ2 H3 fun y H4 => ∃ acc, H4 D = some (.lst acc) ∧ acc.length < sizeLine ∧ Nx (upd H4 D (.lst (acc ++ [y]))) else Nx H3) := by
  obtain ⟨m, E, A, rh, rs, q⟩ := h
  have q : Po ρ F.g m H W σ ((cLcI vs ci cg ct ce E A).bind k) Q' := q
  rw [cLcI_eq] at q
  have hb : ∀ (r : R IT) (f : IT → HA → R (List D)), (r.bind f).bind k = r.bind fun it A1 => (f it A1).bind k := by
    intro r f; cases r <;> rfl
  rw [hb] at q
  refine ⟨m, E, A, rh, rs, Po.bind q fun m1 H1 it J A1 g1 rh1 wk q1 => fun sz D hD => ?_⟩
  have hsz : it.size ≤ sizeLine := wk.2 (by rw [← hK]; exact sz)
  have wk := wk.1
  cases hlc : (lcN it cg ct ce (wipeA E vs) (it.size + 1) 0 A1).nox with
  | exc => rw [hlc] at q1; cases h9 : lcN it cg ct ce (wipeA E vs) (it.size + 1) 0 A1 <;> rw [h9] at hlc <;> cases hlc
  | no => rw [hlc] at q1; exact q1.elim
  | ok total Af =>
  rw [hlc] at q1
  have q1 : Po ρ F.g m1 H1 W σ (k total Af) Q' := q1
  have hD1 : D ∉ m1 := rh1.new hD
  have rs1 : ∀ m H, Gr m1 m H1 H → RS F.g H m (wipeA E vs) (wipe σ vs) := fun m H a => ((rs.mono g1).mono a).wipe vs
  refine ⟨fun i kk H => ∃ m A dn acc xs, Gr m1 m H1 H ∧ RH F.g H m A ∧ H D = some (.lst acc) ∧ D ∉ m ∧ DVs F.g H m dn acc ∧ dn.length ≤ i ∧ kk + i = it.size + 1 ∧ lcN it cg ct ce (wipeA E vs) kk i A = .ok xs Af ∧ dn ++ xs = total,
    ⟨it.size + 1, m1, A1, [], [], total, Gr.new hD, rh1.upd hD, upd_same, hD1, .nil, Nat.le_refl _, rfl, R.nox_ok hlc, rfl⟩, ?_⟩
  rintro i kk H2 ⟨m2, A2, dn, acc, xs, g2, rh2, hD2, hm2, dv2, hl2, hk2, e2, et⟩
  cases kk with
  | zero => cases e2
  | succ kk =>
    unfold lcN at e2
    cases hit : itemAt it i A2 with
    | none => simp only [hit] at e2; cases e2
    | some o =>
      have wk2 := wk i m2 H2 A2 g2.x rh2 o hit
      cases o with
      | none =>
        simp only [hit] at e2
        cases e2
        rw [List.append_nil] at et
        subst et
        exact .inl ⟨wk2, hQ m1 m2 H1 H2 dn Af D acc g2 hD rh2 hD2 hm2 dv2 q1⟩
      | some d =>
        simp only [hit] at e2
        obtain ⟨go, yl⟩ := wk2
        have hlen : acc.length < sizeLine := by
          have := item_lt hit
          rw [← dv2.length]; omega
        refine .inr ⟨go, fun H => ∃ m A dn acc xs, Gr m1 m H1 H ∧ RH F.g H m A ∧ H D = some (.lst acc) ∧ D ∉ m ∧ DVs F.g H m dn acc ∧ dn.length ≤ i + 1 ∧ kk + (i + 1) = it.size + 1 ∧ lcN it cg ct ce (wipeA E vs) kk (i + 1) A = .ok xs Af ∧ dn ++ xs = total,
          fun H' n => ⟨kk, Nat.lt_succ_self _, n⟩, fun x H3 y => ?_⟩
        obtain ⟨k3, g3, dvx⟩ := yl x H3 y
        have hD3 : H3 D = some (.lst acc) := k3 D _ hD2
        refine ⟨m2, wipeA E vs, A2, d, rh2.grow g3 k3, rs1 m2 H3 (g2.trans g3), dvx, ?_⟩
        cases hcg : cg d (wipeA E vs) A2 with
        | nx E4 A4 =>
          simp only [hcg] at e2
          refine fun m4 σ4 H4 g4 rh4 rs4 hw => ⟨hw.trans ?_, m4, E4, A4, rh4, rs4, ?_⟩
          · have ww : ∀ (us : List Nat) (τ : St), (∀ u ∈ us, u ∈ vs) → wipe (wipe τ us) vs = wipe τ vs := by
              intro us
              induction us with
              | nil => intro τ _; rfl
              | cons u us ih =>
                intro τ hu
                show wipe ((wipe τ us).set u none) vs = wipe τ vs
                rw [wipe_set (hu u List.mem_cons_self)]
                exact ih τ fun w hw => hu w (List.mem_cons_of_mem _ hw)
            exact ww vs σ fun _ h => h
          · have hD4 : H4 D = some (.lst acc) := g4.keep D _ hD3 hm2
            have hm4 : D ∉ m4 := g4.notin hD3 hm2
            cases hct : ct E4 A4 with
            | exc => simp only [hct, R.nox, R.bind] at e2; cases e2
            | no => simp only [hct, R.nox, R.bind] at e2; cases e2
            | ok b A5 =>
              simp only [hct, R.nox, R.bind] at e2
              intro m5 b' H5 g5 rh5 eb
              cases eb
              have hD5 : H5 D = some (.lst acc) := g5.keep D _ hD4 hm4
              have hm5 : D ∉ m5 := g5.notin hD4 hm4
              have g25 := g3.trans (g4.trans g5)
              cases b with
              | false =>
                simp only [Bool.false_eq_true, if_false] at e2 ⊢
                exact ⟨m5, A5, dn, acc, xs, g2.trans g25, rh5, hD5, hm5, dv2.mono g25, by omega, by omega, e2, et⟩
              | true =>
                simp only [if_true] at e2 ⊢
                refine ⟨m5, E4, A5, rh5, rs4.mono g5, ?_⟩
                cases hce : ce E4 A5 with
                | exc => simp only [hce, R.nox, R.bind] at e2; cases e2
                | no => simp only [hce, R.nox, R.bind] at e2; cases e2
                | ok z A6 =>
                  simp only [hce, R.nox, R.bind] at e2
                  intro m6 w H6 g6 rh6 dvz
                  have hD6 : H6 D = some (.lst acc) := g6.keep D _ hD5 hm5
                  have hm6 : D ∉ m6 := g6.notin hD5 hm5
                  have g26 := g25.trans g6
                  cases hr : lcN it cg ct ce (wipeA E vs) kk (i + 1) A6 with
                  | exc => simp only [hr] at e2; cases e2
                  | no => simp only [hr] at e2; cases e2
                  | ok ys A7 =>
                    simp only [hr] at e2
                    cases e2
                    refine ⟨acc, hD6, hlen, m6, A6, dn ++ [z], acc ++ [w], ys, Gr.chgOut (g2.trans g26) hD, rh6.chgOut ⟨_, hD6⟩ hm6, upd_same, hm6, ?_, by simp; omega, by omega, hr, by simpa using et⟩
                    exact DVs.append ((dv2.mono g26).chg ⟨_, hD6⟩) (.cons (dvz.chg ⟨_, hD6⟩) .nil)
        | _ => simp only [hcg] at e2; cases e2
theorem je_lc {elt tg iter : Expr} {ifs : List Expr} {scope : Scope} {own : List (Str × Nat)} {cl : List Str} {ci : CI} {cg : CG} {ct : CB} {ce : CE} (hi : JI F tg iter ci) (hok : blkC F.N F.scope scope own = true) (hcl : (cl.all fun x => scope.names.lookup x == some .cell) = true)
    (hg : JG (F.blk scope cl) (own.map (·.2)) tg cg) (ht : JTs (F.blk scope cl) ifs ct) (he : JE (F.blk scope cl) elt ce) (hs : ∀ (X : Cx) x, foldedSetIterable iter X.env x = pure x := by intro _ _; rfl) :
    JE F (.ListComp elt [⟨tg, iter, ifs, 0⟩] scope pos) (cLc (own.map (·.2)) ci cg ct ce) := by
  intro W X ok
  have fc : ∀ (s : Shared) (H : Hp) (C : Addr) (cs : List (Str × Addr)) (fp : List Addr), FnC (F.blk scope cl) (X.blk s H scope (compEnvC scope cs C X.env) fp) := fun _ _ _ _ _ => .inr fun x hx => List.all_eq_true.mp hcl x hx
  refine PE.imp (PE.frz (pe_lc ok.calm (by rw [ok.N]; exact ok.nd) (PI.sz (hi W X ok)) (blkOk_by (by rw [ok.N, ok.sc]; exact hok)) (fun s H C cs fp => hg W0 _ ok.blk (fc s H C cs fp)) (fun s H C cs fp => ht W0 _ ok.blk) (fun s H C cs fp => he W0 _ ok.blk) (hs X))) ?_
  intro σ H Q h
  refine lc_read (Q := fun v H' => ∃ p xs, v = .ref p ∧ H' p = some (.lst xs) ∧ ∀ o, Q v (L2.upd H' p (.frz o (.lst xs)))) ok.K h fun m m1 H H1 ds A1 D acc g1 hD rh1 hD1 hm1 dv q => ⟨D, acc, rfl, hD1, fun o => ?_⟩
  exact Po.ok' q (Gr.chgOut g1 hD) (rh1.chgOut ⟨_, hD1⟩ hm1) (.lst (.inl ⟨o, upd_same, hm1⟩) (dv.chg ⟨_, hD1⟩))
noncomputable abbrev CF := List D → HA → R D
noncomputable def SpC (g : G) (c : CF) (n : Nat) : Sp := fun vs H Q E => ∃ m ds A, RH g H m A ∧ DVs g H m ds vs ∧ ds.length = n ∧ match c ds A with
  | .ok d h => ∀ m' v H', Gr m m' H H' → RH g H' m' h → DV g H' m' d v → Q v H'
  | .exc c ds h => ∀ m' H' cls d, Gr m m' H H' → RH g H' m' h → EXR g H' m' c ds cls d → E cls d H'
  | .no => False
/-- a def's promise, where no object is being shown -/
structure FnG (g : G) (k : Nat) (f : Addr) (fd : FuncData) (ps : List Str) (sp : Sp) : Prop where
  len : ∀ vs H Q E, sp vs H Q E → vs.length = ps.length
  run : ∀ (A : Around) (outer : List Env) (s : Shared) (H : Hp) (args : Args) (us : List Value) (vs : List V) (Q : VK) (E : XK), Room k A → A.guards = some [] → Env0 g.prog g.w g.K g.mg g.base A outer s H → BindsTo s fd args (ps.zip us) → Vals vs us → sp vs H Q E →
    codeAny (model g.prog g.w) A (.call (.ref f) args) (CR (L2.CX g.prog g.w) outer g.prog g.w H s Q E) s
theorem FnG.mono {g : G} {j k : Nat} {f : Addr} {fd : FuncData} {ps : List Str} {sp : Sp} (F : FnG g j f fd ps sp) (h : j ≤ k) : FnG g k f fd ps sp :=
  ⟨F.len, fun A outer s H args us vs Q E hr => F.run A outer s H args us vs Q E (hr.mono h)⟩
/-- the def f may be called at level k -/
structure CallOk (g : G) (k : Nat) (a : Addr) (ps : List Str) (c : CF) : Prop where
  ex : ∃ fd : FuncData, FnG g k a fd ps (SpC g c ps.length) ∧ Binds g.K fd ps []
  kp : PySem.W.keepIn g.K (.ref a) = true
theorem CallOk.mono {g : G} {j k : Nat} {a : Addr} {ps : List Str} {c : CF} (F : CallOk g j a ps c) (h : j ≤ k) : CallOk g k a ps c := ⟨F.ex.imp fun _ z => ⟨z.1.mono h, z.2⟩, F.kp⟩
noncomputable def cCall (c : CF) (ca : CA) : CE := fun E A => (ca E A).bind fun ds A1 => c ds A1
/-- a def is run from a body -/
theorem run_g {W : WX} {X : Cx} (ok : Ok F W X) {a : Addr} {fd : FuncData} {ps : List Str} {sp : Sp} {E : St → XK} {pins : List (Addr × Obj)} {σ : St} {H : Hp} {s : Shared} {Q : VK} {us : List Value} {vs : List V} (fn : FnG F.g F.k a fd ps sp) (hb : Binds F.g.K fd ps [])
    (hx : PassesAt (L2.CX X.prog X.w) X σ (E σ)) (I : Inv X pins σ H s) (r : Vals vs us) (h : sp vs H Q (E σ)) : wpAny (model X.prog X.w) X.A (call (.ref a) us) (EP X pins σ Q) X.xe s := by
  have e0 : Env0 F.g.prog F.g.w F.g.K F.g.mg F.g.base X.A X.stack s H := by
    have := I.env0
    rw [ok.prog, ok.w, ok.K, ok.mg, ok.base] at this
    exact this
  have kin : F.g.K.In s.heap := ok.K ▸ I.kIn
  have hl : us.length = ps.length := by rw [← r.length]; exact fn.len _ _ _ _ h
  have b := hb s us kin (by rw [List.append_nil]; exact hl)
  rw [List.append_nil] at b
  have run := fn.run X.A X.stack s H ⟨us, []⟩ us vs Q (E σ) ok.room ok.gd e0 b r h
  rw [← ok.prog, ← ok.w] at run
  refine wpAny_call (codeAny_mono run fun r s' hq => ?_)
  cases r with
  | error e => exact hx pins H s e s' I hq
  | ok fl =>
    cases fl with
    | ret u => exact I.after hq
    | next => exact False.elim hq
    | brk => exact False.elim hq
    | cont => exact False.elim hq
theorem je_call {x : Str} {a : Addr} {ps : List Str} {c : CF} {e : Expr} {es : List Expr} {ca : CA} {p : Pos} {n : Nat} (h : CallOk F.g F.k a ps c) (hg : Gls F.scope x) (hm : F.g.mg x = some (.ref a)) (ha : JA F (e :: es) ca) (hn : Len ca n) (hl : n = ps.length := by rfl) (hdb : (x == ("__debug__" : Str)) = false := by decide)
    (he : ∀ X : Cx, starEach (e :: es) X.env = (false, eval e X.env) :: starEach es X.env := by intro _; rfl) (hpl : ∀ X : Cx, (backTo pos (starEach es X.env)).any (·.1) = false := by intro _; rfl) :
    JE F (.Call (.Name x p) (e :: es) [] pos) (cCall c ca) := by
  intro W X ok
  obtain ⟨fd, f, b⟩ := h.ex
  refine ⟨fun pins s σ H Q I hq => ?_⟩
  obtain ⟨m, E, A, rh, rs, q⟩ := hq
  refine wpAny_Call_Name_kw (ld_glob I (ok.gl hg) (by rw [ok.mg]; exact hm) ?_ hdb)
  refine PySem.W.callWith_K (h₀ := X.base) I.ok.mod.kin (by rw [ok.K]; exact h.kp) (thn ((ha W X ok).run pos pins s σ H (fun vs H1 => SpC F.g c ps.length vs H1 Q fun cls d H2 => W cls d σ H2) I ⟨m, E, A, rh, rs, Po.bindL hn q fun m1 H1 ds xs A1 g1 rh1 dxs hl1 q1 => ?_⟩) fun us s1 ⟨vs, H1, I1, r1, q1⟩ => ⟨I1.kIn, ?_⟩) (he X) (hpl X)
  · refine ⟨m1, ds, A1, rh1, dxs, by rw [dxs.length, hl1, hl], ?_⟩
    cases hc : c ds A1 with
    | ok d h => rw [hc] at q1; exact q1
    | exc => rw [hc] at q1; exact q1
    | no => rw [hc] at q1; exact q1.elim
  · exact run_g (E := fun σ cls d H2 => W cls d σ H2) ok f b (passAt ok.tk σ) I1 r1 q1
end Sm
namespace Sm
open PySem PySem.Spec PyProof.Rows PySem.W PySem.Calls
noncomputable abbrev excO := PySem.HandSPX.excO
section
variable {prog : Program} {w : World} {A : Around} {E : Value → Shared → Prop} {K : Frag} {hp : Heap} {g : Array GenState} {d : Drawn} {t : Nat} {os : OsState}
abbrev veT : List Value := PySem.HandSPX.veTail
/-- ValueError.__init__ bound to x, called -/
theorem x_callmw {u x C t0 : Addr} {rest : List Value} {Q : Value → Shared → Prop} (X : K.In hp) (q : excInitIn K C veT "ValueError.__new__" = true) (hu : hp.get? u = some (kxs_mw "ValueError.__init__" x)) (he : hp.get? x = some (excO C t0)) (hz : rest.length ≤ sizeLine)
    (h : ∀ h' t1, (∀ b o, b ≠ x → hp.get? b = some o → h'.get? b = some o) → h'.get? x = some (excO C t1) → Q .none ⟨h', g, d, t, os⟩) : wpAny (model prog w) A (call (.ref u) rest) Q E ⟨hp, g, d, t, os⟩ := by
  obtain ⟨nm, N', qn, bs, bm, hdct, sn, sub, ab, col, dd, k0, k1, k2, k3, k5, hC, hT⟩ := excInit_of X q
  have FB := F.excBase_ValueError
  refine wpAny_call (codeAny_of_tree ?_)
  show wpAny _ A.in1 (callAny (.ref u) ⟨rest, []⟩) _ _ _
  simp only [callAny]
  refine wpAny_bind (wpAny_load hu ?_)
  simp only [kxs_mw, show (Value.type "method-wrapper" == Value.type "method" || Value.type "method-wrapper" == Value.type "builtin_function_or_method" || Value.type "method-wrapper" == Value.type "method-wrapper") = true by decide, if_true]
  refine KFB.if_so (by decide) ?_
  refine wpAny_bind (check_bound_init FB.toExcCallFacts hC he rfl ?_)
  refine wpAny_bind (wpAny_pure (wpAny_pure ?_))
  refine ⟨plainId_quiet FB.init.plain _, codeAny_builtin FB.initEntry ?_⟩
  exact exc_init_tree (cls := .ref C) (t0 := t0) (dv := none) (c2 := .none) (c3 := .none) (b4 := .bool false) he hz fun h' k e _ => h h' _ k e
/-- what is known of the class C, its __init__ at f, the cell cc that holds C -/
structure XK (prog : Program) (K : Frag) (C f : Addr) (name qual : Str) (params : Arguments) (body : List Stmt) (scope : Scope) (ar : Arg) : Prop where
  q : excInitIn K C veT "ValueError.__new__" = true
  fn : ∃ (oc : Value) (od an : Option Addr) (osl : Array (Option Value)) (kV doc pm ct : Value) (cda cc : Addr) (ccl cl : Value) (cdd cld : Option Addr) (ccs csl : Array (Option Value)) (vs : Array Value) (file : Str) (tf : Tok),
    K.lookup f = some ⟨oc, od, .func (ksFn name qual params body scope .none kV doc pm an (.ref cda) ct cc), osl⟩ ∧ codeIn K (.ref cda) qual = true ∧ K.lookup cda = some ⟨ccl, cdd, .fields vs, ccs⟩ ∧ vs[2]? = some (.str file tf) ∧
      ((prog.main.file : Str) == file) = true ∧ K.lookup cc = some ⟨cl, cld, .cell (some (.ref C)), csl⟩
  hd : (params.posonlyargs ++ params.args).head? = some ar
  cl : ∃ cd, clsIn K C = some cd ∧ PySem.HandSPX.refsVE cd.mro = true ∧ cd.hasDict = true
  sub : mroIn K C (.ref C) = some true
  no : nsIn K cStatics "thirdparty.any" = some none
  sup : ks_superIn K C C "__init__" = some (some (.builtin "ValueError.__init__"))
  ve : subIn K (.ref C) (.type "ValueError") = some true
  sa : findIn K (.ref C) "__setattr__" = some (some (.builtin "object.__setattr__"))
  init : findIn K (.ref C) "__init__" = some (some (.ref f))
  ty : typeIn K (.ref f) = some (.type "function")
  ks : scope.names.lookup ("super" : Str) = some .globalImplicit
  kc : scope.names.lookup ("__class__" : Str) = some .free
  ka : scope.names.lookup ar.arg = some .local
  kd : scope.kind = .function
  co : scope.isCoroutine = false
  gen : scope.isGenerator = false
  cell : ∀ x ∈ scope.names, x.2 ≠ .cell
  top : (prog.main.scope.names.lookup ("super" : Str)).isSome = false
theorem x_super {body rest : List Stmt} {p0 p1 p2 p3 p4 p5 : Pos} {msg : Str} {j : Nat} {qual : Str} {scope : Scope} {L f cda cc x C t0 : Addr} {mg mb m : Str → Option Value} {fd : FuncData} {ar : Arg} {vs : Array Value} {file : Str} {tf : Tok} {oc ccl cl : Value} {od cdd cld : Option Addr} {osl ccs csl : Array (Option Value)} {cdD : ClassData} {Q : Flow → Shared → Prop}
    (X : K.In hp) (hG : hp.Ns mainGlobals mg) (hB : hp.Ns builtinsNs mb) (hbb : mb "super" = some (.type "super")) (hsup : mg "super" = none)
    (hf : K.lookup f = some ⟨oc, od, .func fd, osl⟩) (hpar : (fd.params.posonlyargs ++ fd.params.args).head? = some ar) (hns : hp.Ns L m) (hv : m ar.arg = some (.ref x)) (hx : hp.get? x = some (excO C t0))
    (hcode : K.lookup cda = some ⟨ccl, cdd, .fields vs, ccs⟩) (hvs : vs[2]? = some (.str file tf)) (hfile : ((prog.main.file : Str) == file) = true)
    (hcell : K.lookup cc = some ⟨cl, cld, .cell (some (.ref C)), csl⟩) (hD : clsIn K C = some cdD) (hsub : mroIn K C (.ref C) = some true)
    (hks : scope.names.lookup ("super" : Str) = some .globalImplicit) (hkc : scope.names.lookup ("__class__" : Str) = some .free) (hka : scope.names.lookup ar.arg = some .local) (hk : scope.kind = .function)
    (htop : (prog.main.scope.names.lookup ("super" : Str)).isSome = false) (ho : nsIn K cStatics "thirdparty.any" = some none)
    (hm : ks_superIn K C C "__init__" = some (some (.builtin "ValueError.__init__"))) (hVE : subIn K (.ref C) (.type "ValueError") = some true) (q : excInitIn K C veT "ValueError.__new__" = true) {pl : Sem Bool}
    (he : ∀ env : Env, eval (.Call (.Attribute (.Call (.Name "super" p0) [] [] p1) "__init__" p2) [.Constant (.str msg) j p3] [] p4) env = (do
      let ov ← attributeBase (.Call (.Name "super" p0) [] [] p1) "__init__" env (eval (.Call (.Name "super" p0) [] [] p1) env)
      standAt p2.atName
      let (f, first) ← holding [ov] (getMethod ov "__init__" pl)
      callWith p4 f first (backTo p4 (starEach [.Constant (.str msg) j p3] env)) []))
    (h : ∀ h' t' t1, (∀ b o, b ≠ x → hp.get? b = some o → h'.get? b = some o) → h'.get? x = some (excO C t1) → wpAny (model prog w) A (execs rest (ksEnv qual scope L f (.ref cda) cc)) Q E ⟨h', g, d, t', os⟩) :
    _root_.PySem.wpAt (model prog w) A (.func body (ksEnv qual scope L f (.ref cda) cc))
      (execs (.Expr (.Call (.Attribute (.Call (.Name "super" p0) [] [] p1) "__init__" p2) [.Constant (.str msg) j p3] [] p4) p5 :: rest) (ksEnv qual scope L f (.ref cda) cc)) Q E ⟨hp, g, d, t, os⟩ := by
  have I : InstAt hp x (excO C t0) C none := ⟨hx, rfl, rfl, trivial⟩
  obtain ⟨oD, hD1, hD2⟩ : ∃ oD, hp.get? C = some oD ∧ oD.data = .cls cdD := by
    unfold clsIn at hD
    split at hD
    · rename_i c d cd' sl ho
      cases hD
      exact ⟨_, X _ _ ho, rfl⟩
    · cases hD
  refine ks_wpAt_execs_cons (ks_wpAt_Expr_any (ks_wpAt_MethodCall ?_ (he _)) (by show interactive (ksEnv qual scope L f (.ref cda) cc) = false; simp [interactive, PySem.W.envX, hk]) rfl)
  refine ks_wpAt_super_base (env := ksEnv qual scope L f (.ref cda) cc) hks hkc (by decide) rfl (X _ _ hf) rfl hpar rfl (X _ _ hcode) rfl hvs hfile htop ?_
  refine ks_loadName_global hk hks (loadGlobal_builtin (env := ksEnv qual scope L f (.ref cda) cc) hG hsup hB hbb ⟨rfl, ?_⟩)
  refine wpAny_loadName_free hk hkc rfl ⟨_, X _ _ hcell, rfl⟩ ?_
  refine wpAny_loadName_local hk hka hns hv ?_
  refine ks_wpAny_isType_cls hD1 hD2 ⟨rfl, ?_⟩
  refine ks_wpAny_call_super hD1 hD2 I.at_ I.cls (fun c e => by cases e) (looks_mroIn X hsub) (fun h1 e1 k1 => ?_)
  have X1 : K.In h1 := fun b o e => k1 _ _ (X b o e)
  have hx1 := k1 _ _ hx
  have I1 : InstAt h1 x (excO C t0) C none := ⟨hx1, rfl, rfl, trivial⟩
  have hm' : alongIn K "__init__" ((cdD.mro.dropWhile (· != .ref C)).drop 1) = some (some (.builtin "ValueError.__init__")) := by
    unfold ks_superIn at hm
    rw [hD] at hm
    exact hm
  refine kxs_getMethod kxs_ValueError e1 (looks_opaque X1 ho) (l₀ := cdD.mro) (fun A Q E s k q => wpAny_bind ((looks_clsIn X1 hD) A _ E s k (wpAny_pure q))) rfl X1 hm' (I1.type.andThen (looks_subIn X1 hVE)) (ks_ne X I hD) (by decide) ?_
  have k2 : ∀ b o, hp.get? b = some o → (h1.push (kxs_mw "ValueError.__init__" x)).get? b = some o := fun b o e => Heap.get?_push_of_some _ (k1 b o e)
  refine kxs_callWith (i := "ValueError.__init__") (x := x) rfl ?_
  refine evalArgs_plain ?_
  refine Calls.spliced_cons (Calls.Constant_str (pos := p3) (k := j) (Calls.spliced_nil ⟨Heap.get?_push_at rfl rfl, ?_⟩))
  have X2 : K.In (h1.push (kxs_mw "ValueError.__init__" x)) := fun b o e => k2 _ _ (X b o e)
  refine x_callmw X2 q (Heap.get?_push_at rfl rfl) (k2 _ _ hx) (by show 1 ≤ sizeLine; rw [sizeLine_eq]; omega) (fun h3 t1 k3 e3 => ?_)
  exact _root_.PySem.wpAt_of_wpAny (h h3 _ t1 (fun b o hb e => k3 b o hb (k2 b o e)) e3)
/-- self.n = n, the first one -/
theorem x_store1 {rest : List Stmt} {p6 p7 p8 p9 : Pos} {qual : Str} {scope : Scope} {L f cda cc x C t1 : Addr} {m : Str → Option Value} {s n : Str} {u : Value} {cd : ClassData} {Q : Flow → Shared → Prop}
    (X : K.In hp) (hcd : clsIn K C = some cd) (hm : PySem.HandSPX.refsVE cd.mro = true) (hh : cd.hasDict = true) (sa : findIn K (.ref C) "__setattr__" = some (some (.builtin "object.__setattr__"))) (hno : findIn K (.ref C) n = some none)
    (hns : hp.Ns L m) (hv : m s = some (.ref x)) (hu : m n = some u) (hx : hp.get? x = some (excO C t1)) (hk : scope.kind = .function) (hks : scope.names.lookup s = some .local) (hkn : scope.names.lookup n = some .local)
    (hsd : (s == ("__debug__" : Str)) = false) (hnd : (n == ("__debug__" : Str)) = false)
    (h : ∀ h' t' dx, (∀ b o, b ≠ x → hp.get? b = some o → h'.get? b = some o) → hp.objs.size ≤ dx → dx ≠ x → h'.get? x = some ({ cls := .ref C, dict := some dx, data := .fields #[.ref t1, .none, .none, .none, .bool false, .none] } : Obj) →
      h'.Ns1 dx (fun y => if y = n then some u else none) → wpAny (model prog w) A (execs rest (ksEnv qual scope L f (.ref cda) cc)) Q E ⟨h', g, d, t', os⟩) :
    wpAny (model prog w) A (execs (.Assign [.Attribute (.Name s p6) n p7] (.Name n p8) p9 :: rest) (ksEnv qual scope L f (.ref cda) cc)) Q E ⟨hp, g, d, t, os⟩ := by
  refine wpAny_execs_cons (plainObj_wpAny_Assign_Attribute ?_)
  refine wpAny_Name (wpAny_loadName_local hk hkn hns hu ?_) hnd
  refine wpAny_Name (wpAny_loadName_local hk hks hns hv ?_) hsd
  refine set_plain X (ox := excO C t1) (od := none) ⟨hx, rfl, rfl, trivial⟩ sa ?_
  exact PySem.HandSPX.exc_osa X hx hcd hm hh hno fun h' tk' dx k dn dne hx' hn => h h' tk' dx k dn dne hx' hn
/-- the body's two statements -/
noncomputable abbrev xSuper (p0 p1 p2 p3 p4 p5 : Pos) (msg : Str) (j : Nat) : Stmt := .Expr (.Call (.Attribute (.Call (.Name "super" p0) [] [] p1) "__init__" p2) [.Constant (.str msg) j p3] [] p4) p5
noncomputable abbrev xStore (p6 p7 p8 p9 : Pos) (n : Str) : Stmt := .Assign [.Attribute (.Name "self" p6) n p7] (.Name n p8) p9
noncomputable abbrev XPl (p0 p1 p2 p3 p4 : Pos) (msg : Str) (j : Nat) (pl : Sem Bool) : Prop := ∀ env : Env, eval (.Call (.Attribute (.Call (.Name "super" p0) [] [] p1) "__init__" p2) [.Constant (.str msg) j p3] [] p4) env = (do
      let ov ← attributeBase (.Call (.Name "super" p0) [] [] p1) "__init__" env (eval (.Call (.Name "super" p0) [] [] p1) env)
      standAt p2.atName
      let (f, first) ← holding [ov] (getMethod ov "__init__" pl)
      callWith p4 f first (backTo p4 (starEach [.Constant (.str msg) j p3] env)) [])
/-- __init__(self, n) runs -/
theorem x_init1 {C f x t0 : Addr} {name qual : Str} {params : Arguments} {scope : Scope} {ar : Arg} {p0 p1 p2 p3 p4 p5 p6 p7 p8 p9 : Pos} {msg n : Str} {j : Nat} {pl : Sem Bool} {mg mb : Str → Option Value} {args : Args} {u : Value} {R : Result → Shared → Prop}
    (T : XK prog K C f name qual params [xSuper p0 p1 p2 p3 p4 p5 msg j, xStore p6 p7 p8 p9 n] scope ar) (har : ar.arg = "self") (hpl : XPl p0 p1 p2 p3 p4 msg j pl) (hno : findIn K (.ref C) n = some none) (hn : scope.names.lookup n = some .local) (hsn : (n == ("self" : Str)) = false) (hnd : (n == ("__debug__" : Str)) = false)
    (X : K.In hp) (hG : hp.Ns mainGlobals mg) (hB : hp.Ns builtinsNs mb) (hbb : mb "super" = some (.type "super")) (hsup : mg "super" = none) (hlim : hp.NoLimit) (hroom : A.depth < recursionLimit)
    (hbind : ∀ fd : FuncData, fd.params = params → fd.defaults = .none → BindsTo ⟨hp, g, d, t, os⟩ fd args [("self", .ref x), (n, u)]) (hx : hp.get? x = some (excO C t0)) (hxK : K.lookup x = none)
    (h : ∀ h' t' t1 dx, (∀ b o, b ≠ x → hp.get? b = some o → h'.get? b = some o) → hp.objs.size ≤ dx → dx ≠ x → h'.get? x = some ({ cls := .ref C, dict := some dx, data := .fields #[.ref t1, .none, .none, .none, .bool false, .none] } : Obj) →
      h'.Ns1 dx (fun y => if y = n then some u else none) → R (.ok (.ret .none)) ⟨h', g, d, t', os⟩) :
    codeAny (model prog w) A (.call (.ref f) args) R ⟨hp, g, d, t, os⟩ := by
  obtain ⟨oc, od, an, osl, kV, doc, pm, ct, cda, cc, ccl, cl, cdd, cld, ccs, csl, vs, file, tf, hf, hcd, hcode, hvs, hfile, hcell⟩ := T.fn
  obtain ⟨cd, hcl, hm, hh⟩ := T.cl
  have hself : scope.names.lookup ("self" : Str) = some .local := har ▸ T.ka
  have l1 : ([(("self" : Str), Value.ref x), (n, u)].reverse).lookup ("self" : Str) = some (Value.ref x) := by
    show ([(n, u), (("self" : Str), Value.ref x)] : List (Str × Value)).lookup ("self" : Str) = _
    have e : (("self" : Str) == n) = false := by
      cases z : (("self" : Str) == n) with
      | false => rfl
      | true => rw [beq_iff_eq] at z; rw [← z] at hsn; simp at hsn
    simp [List.lookup, e]
  have l2 : ([(("self" : Str), Value.ref x), (n, u)].reverse).lookup n = some u := by
    show ([(n, u), (("self" : Str), Value.ref x)] : List (Str × Value)).lookup n = _
    simp [List.lookup]
  refine ks_codeAny_call_defAt (s := ⟨hp, g, d, t, os⟩) (fd := ksFn name qual params _ scope .none kV doc pm an (.ref cda) ct cc) hroom (X _ _ hf) rfl hlim (codeRec_of X hcd) rfl (hbind _ rfl rfl) T.cell (fun y hy => ?_) (fun h₁ hns hk₁ => ?_) T.co T.gen T.kd
  · simp at hy
    rcases hy with rfl | rfl
    · exact hself
    · exact hn
  have X1 : K.In h₁ := fun b o e => hk₁ _ _ (X b o e)
  have xl : x ≠ hp.objs.size := Nat.ne_of_lt (Heap.lt_size hx)
  refine x_super (mg := mg) (mb := mb) X1 (hG.keeps hk₁) (hB.keeps hk₁) hbb hsup hf T.hd hns (by rw [har]; exact l1) (hk₁ _ _ hx) hcode hvs hfile hcell hcl T.sub T.ks T.kc (har ▸ T.ka) T.kd T.top T.no T.sup T.ve T.q hpl (fun h2 t2 t1 k2 e2 => ?_)
  have nK : ∀ b o, K.lookup b = some o → b ≠ x := fun b o e z => by rw [z, hxK] at e; cases e
  have X2 : K.In h2 := fun b o e => k2 b o (nK b o e) (X1 b o e)
  have xl' : hp.objs.size ≠ x := Ne.symm xl
  have hns2 : h2.Ns hp.objs.size (fun y => ([(("self" : Str), Value.ref x), (n, u)].reverse).lookup y) := by
    obtain ⟨oL, es, ep, hL, r⟩ := hns
    exact ⟨oL, es, ep, k2 _ _ xl' hL, r⟩
  refine x_store1 (s := "self") (n := n) (x := x) (C := C) (t1 := t1) X2 hcl hm hh T.sa hno hns2 l1 l2 e2 T.kd hself hn (by decide) hnd (fun h3 t3 dx k3 l3 n3 e3 ns3 => ?_)
  refine wpAny_execs_nil ?_
  refine h h3 _ t1 dx (fun b o hb e => k3 b o hb (k2 b o hb (hk₁ b o e))) ?_ n3 e3 ns3
  obtain ⟨oL, _, _, hL, _⟩ := hns2
  exact Nat.le_trans (Nat.le_of_lt (Heap.lt_size hL)) l3
end
end Sm
namespace Sm
open PySem PySem.Spec PyProof.Rows PySem.W PySem.Calls PySem.HandSPX
section
variable {M : Model} {A : Around} {E : Value → Shared → Prop} {h : Heap} {g : Array GenState} {d : Drawn} {t : Nat} {os : OsState}
variable {nm q : Str} {C N : Addr} {bs bm : List Value} {hdct : Bool} {sn : List Str} {sub : List Value} {ab : Bool} {col : Option Bool} {dd : Option Addr} {k0 k1 k2 k3 k5 : Option Value}
noncomputable abbrev veNew : String := "ValueError.__new__"
theorem x_chk (hT : ∀ X : String, bm.contains (.type X) = veT.contains (.type X)) {rest : List Value} {kw : List (Str × Value)} {Q : Unit → Shared → Prop}
    (hC : h.get? C = some (excClassObj nm q C N bs bm hdct sn sub ab col dd k0 k1 k2 k3 k5 veNew)) (hq : Q () ⟨h, g, d, t, os⟩) : wpAny M A (checkBuiltinCall veNew ⟨.ref C :: rest, kw⟩) Q E ⟨h, g, d, t, os⟩ := by
  have FB := F.excBase_ValueError
  have c1 : (Value.ref C :: bm).contains (.type "ValueError") = true := by rw [List.contains_cons, hT, FB.hasB, Bool.or_true]
  have c2 := FB.noStar
  simp only [checkBuiltinCall, FB.newKind, FB.newSplit, FB.newRow]
  repeat (first | refine wpAny_loadPart_at hC ?_ | (refine wpAny_isSubtype_exc hC ?_; rw [c1]) | refine wpAny_staticBase_exc hC ?_ | refine wpAny_madeBy_exc hC ?_ | simp only [bne_self_eq_false, Bool.false_eq_true, if_false] | wp_step)
  exact hq
end
section
variable {prog : Program} {w : World} {A : Around} {E : Value → Shared → Prop} {R : Result → Shared → Prop} {h : Heap} {g : Array GenState} {d : Drawn} {t : Nat} {os : OsState}
variable {nm q : Str} {C N : Addr} {bs bm : List Value} {hdct : Bool} {sn : List Str} {sub : List Value} {ab : Bool} {col : Option Bool} {dd : Option Addr} {k0 k1 k2 k3 k5 : Option Value}
theorem x_new (hT : ∀ X : String, bm.contains (.type X) = veT.contains (.type X)) {rest : List Value} {kw : List (Str × Value)} (hC : h.get? C = some (excClassObj nm q C N bs bm hdct sn sub ab col dd k0 k1 k2 k3 k5 veNew))
    (hq : R (.ok (.ret (.ref (h.objs.size + 1)))) ⟨(h.push (W.kdv_tup rest)).push (Sm.excO C h.objs.size), g, d, t, os⟩) (hrest : rest.length ≤ sizeLine) :
    codeAny (model prog w) A (.builtin veNew ⟨.ref C :: rest, kw⟩) R ⟨h, g, d, t, os⟩ := by
  have FB := F.excBase_ValueError
  have c0 := FB.ends
  have c1 : (Value.ref C :: bm).contains (.type "ValueError") = true := by rw [List.contains_cons, hT, FB.hasB, Bool.or_true]
  have c2 : (Value.ref C :: bm).contains (.type "AttributeError") = false := by rw [List.contains_cons, hT, FB.noAttr]; rfl
  have c3 : (Value.ref C :: bm).contains (.type "NameError") = false := by rw [List.contains_cons, hT, FB.noName]; rfl
  refine codeAny_builtinAt FB.entry ?_
  unfold Builtin.«BaseException.__new__»
  refine PySem.wpAt_bind ?_
  show PySem.wpAt _ _ _ (stack >>= _) _ _ _
  refine PySem.wpAt_bind (PySem.wpAt_stack fun p below => PySem.wpAt_of_wpAny ?_)
  wp_walk
  refine PySem.wpAt_of_wpAny ?_
  rw [FB.owner]
  repeat (first | with_reducible refine wpAny_madeHere_exc FB.canon hC ?_ | with_reducible refine wpAny_loadPart_at hC ?_ | (with_reducible refine wpAny_isSubtype_exc hC ?_; first | rw [c1] | rw [c2] | rw [c3]) | wp_step)
  show R _ _
  rw [Heap.size_push]
  exact hq
theorem x_tcall (hT : ∀ X : String, bm.contains (.type X) = veT.contains (.type X)) {rest : List Value} {kw : List (Str × Value)} {fI : Addr} {Q : Fin → Shared → Prop}
    (hC : h.get? C = some (excClassObj nm q C N bs bm hdct sn sub ab col dd k0 k1 k2 k3 k5 veNew))
    (hi : W.Looks (model prog w) h (typeLookup (.ref C) "__init__") (some (.ref fI))) (hb : ∀ self, W.Looks (model prog w) h (bindSpecial (.ref fI) self) (.ref fI, [self])) (hrest : rest.length ≤ sizeLine)
    (hq : codeAny (model prog w) A (.call (.ref fI) ⟨.ref (h.objs.size + 1) :: rest, kw⟩)
      (fun r s' => match r with | .ok (.ret v) => v = .none ∧ Q (.done (.ret (.ref (h.objs.size + 1)))) s' | .ok _ => False | .error e => E e s')
      ⟨(h.push (W.kdv_tup rest)).push (Sm.excO C h.objs.size), g, d, t, os⟩) :
    wpAny (model prog w) A (Builtin.«type.__call__» ⟨.ref C :: rest, kw⟩) Q E ⟨h, g, d, t, os⟩ := by
  have FB := F.excBase_ValueError
  repeat (first | with_reducible refine wpAny_loadPart_at hC ?_ | with_reducible refine wpAny_madeBy_exc hC ?_ | wp_step)
  refine codeAny_call_builtin_code (Code.quiet_builtin _ FB.quiet) (x_chk hT hC ?_)
  refine x_new hT hC ?_ hrest
  show wpAny _ _ _ _ _ _
  have k : ∀ b o, h.get? b = some o → ((h.push (W.kdv_tup rest)).push (Sm.excO C h.objs.size)).get? b = some o := fun b o e => Heap.get?_push_of_some _ (Heap.get?_push_of_some _ e)
  have hC₁ := k _ _ hC
  have hg : ((h.push (W.kdv_tup rest)).push (Sm.excO C h.objs.size)).get? (h.objs.size + 1) = some (Sm.excO C h.objs.size) := by heap_get
  have hcC : (Value.ref C :: bm).contains (.ref C) = true := by simp
  have i1 := hi.keeps k
  have b1 := (hb (.ref (h.objs.size + 1))).keeps k
  unfold isInstance
  repeat (first | with_reducible refine wpAny_loadPart_at hg ?_ | (with_reducible refine wpAny_isSubtype_exc hC₁ ?_; rw [hcC]) | wp_step)
  show wpAny _ _ (typeLookup (.ref C) _) _ _ _
  refine i1.at ?_
  refine wpAny_holding (wpAny_bind (b1.at ?_))
  refine wpAny_bind (wpAny_call (codeAny_mono hq fun r s' z => ?_))
  rcases r with e | (v | _ | _ | _) <;> first | exact z | exact z.elim | skip
  obtain ⟨rfl, z⟩ := z
  first
    | exact wpAny_pure (wpAny_pure z)
    | (wp_walk; exact z)
theorem x_call (hT : ∀ X : String, bm.contains (.type X) = veT.contains (.type X)) {rest : List Value} {kw : List (Str × Value)} {fI : Addr}
    (hC : h.get? C = some (excClassObj nm q C N bs bm hdct sn sub ab col dd k0 k1 k2 k3 k5 veNew))
    (hi : W.Looks (model prog w) h (typeLookup (.ref C) "__init__") (some (.ref fI))) (hb : ∀ self, W.Looks (model prog w) h (bindSpecial (.ref fI) self) (.ref fI, [self])) (hrest : rest.length ≤ sizeLine)
    (hq : codeAny (model prog w) (A.under (.builtin "type.__call__" ⟨.ref C :: rest, kw⟩)) (.call (.ref fI) ⟨.ref (h.objs.size + 1) :: rest, kw⟩) (W.InitBack (h.objs.size + 1) R)
      ⟨(h.push (W.kdv_tup rest)).push (Sm.excO C h.objs.size), g, d, t, os⟩) :
    codeAny (model prog w) A (.call (.ref C) ⟨rest, kw⟩) R ⟨h, g, d, t, os⟩ := by
  have f1 := tc_lookup
  have f2 := tc_bind (.ref C)
  have hTy : (⟨h, g, d, t, os⟩ : Shared).TypeIs (.ref C) "type" := ⟨_, hC, rfl⟩
  refine codeAny_of_tree ?_
  show wpAny _ _ (callAny (.ref C) _) _ _ _
  repeat (any_goals (first | assumption | with_reducible refine wpAny_loadPart_at hC ?_ | wp_step))
  refine ⟨rfl, ?_⟩
  refine codeAny_call_builtin_at (Code.quiet_builtin _ (by decide +kernel)) entry_typeCall (wpAny_check_type_call_sub hC (x_tcall hT hC hi hb hrest ?_))
  exact codeAny_mono hq fun r s' z => by
    rcases r with e | (v | _ | _ | _) <;> exact z
end
end Sm
namespace Sm
open PySem PySem.Spec PyProof.Rows L2
variable {F : F} {pos : Pos}
/-- what the text says of the class c whose __init__ stores the one argument n -/
structure XCls (g : G) (c : Nat) (n : Str) : Prop where
  ex : ∃ (f : Addr) (name qual : Str) (params : Arguments) (scope : Scope) (ar : Arg) (p0 p1 p2 p3 p4 p5 p6 p7 p8 p9 : Pos) (msg : Str) (j : Nat) (pl : Sem Bool), XK g.prog g.K (g.ca c) f name qual params [xSuper p0 p1 p2 p3 p4 p5 msg j, xStore p6 p7 p8 p9 n] scope ar ∧
    ar.arg = "self" ∧ XPl p0 p1 p2 p3 p4 msg j pl ∧ scope.names.lookup n = some .local ∧
    (∀ fd : FuncData, fd.params = params → fd.defaults = .none → ∀ (s : Shared) (x u : Value), BindsTo s fd ⟨[x, u], []⟩ [("self", x), (n, u)] ∧ BindsTo s fd ⟨[x], [(n, u)]⟩ [("self", x), (n, u)])
  no : PySem.W.findIn g.K (.ref (g.ca c)) n = some none
  sn : (n == ("self" : Str)) = false
  nd : (n == ("__debug__" : Str)) = false
  ef : g.ef c = [n]
  sup : g.mg "super" = none
  kp : PySem.W.keepIn g.K (.ref (g.ca c)) = true
theorem ns1_of {h : Heap} {dx : Addr} {n : Str} {y : V} {u : Value} (r : RelV y u) (hn : h.Ns1 dx fun z => if z = n then some u else none) : ∃ mA, h.Ns1 dx mA ∧ ∀ f, RelO (([(n, y)] : List (Str × V)).lookup f) (mA f) := by
  refine ⟨_, hn, fun f => ?_⟩
  by_cases e : f = n
  · subst e
    simp only [List.lookup, beq_self_eq_true, if_true]
    exact r
  · have e' : (f == n) = false := beq_eq_false_iff_ne.mpr e
    simp only [List.lookup, e', if_neg e]
    trivial
end Sm
namespace Sm
open PySem PySem.Spec PyProof.Rows L2
noncomputable def optAll (f : D → Option PyData) : List D → Option (List PyData)
  | [] => some []
  | d :: ds => match f d, optAll f ds with
    | some p, some ps => some (p :: ps)
    | _, _ => none
/-- a value as data: lists of the abstract heap as they are -/
noncomputable def toPy (A : HA) : Nat → D → Option PyData
  | 0, _ => none
  | _ + 1, .non => some .none
  | _ + 1, .bl b => some (.bool b)
  | _ + 1, .int i => some (.int i)
  | _ + 1, .str x => some (.str x)
  | n + 1, .tup ds => (optAll (toPy A n) ds).map .tuple
  | n + 1, .lst ds => (optAll (toPy A n) ds).map .list
  | _ + 1, .dct [] [] => some (.dict [])
  | n + 1, .ref a => match A[a]? with
    | some (.lst ds) => (optAll (toPy A n) ds).map .list
    | _ => none
  | _ + 1, _ => none
mutual
/-- no list within -/
noncomputable def noLst : PyData → Bool
  | .none | .bool _ | .int _ | .str _ => true
  | .list _ => false
  | .tuple xs => noLstAll xs
  | .dict kvs => kvs.isEmpty
noncomputable def noLstAll : List PyData → Bool
  | [] => true
  | x :: xs => noLst x && noLstAll xs
end
section
variable {g : G} {X : Cx} {pins : List (Addr × Obj)} {σ : St} {H : Hp} {s : Shared} {m : List Addr} {A : HA}
theorem vals_cons {v : V} {vs : List V} {us : List Value} (r : Vals (v :: vs) us) : ∃ u us', us = u :: us' ∧ RelV v u ∧ Vals vs us' := by
  cases r with
  | cons h t => exact ⟨_, _, rfl, h, t⟩
/-- what stands in the state reads as data -/
noncomputable def RdOk (s : Shared) (d : PyData) (u : Value) : Prop := ∃ as, Reads s.heap u d as ∧ (noLst d = true → sysModules ∉ as)
noncomputable def RdsOk (s : Shared) (ds : List PyData) (us : List Value) : Prop := ∃ as, ReadsAll s.heap us ds as ∧ (noLstAll ds = true → sysModules ∉ as)
theorem rds_of {f : D → Option PyData} (ih : ∀ d p v u, f d = some p → DV g H m d v → RelV v u → RdOk s p u) : ∀ (ds : List D) (ps : List PyData) (vs : List V) (us : List Value), optAll f ds = some ps → DVs g H m ds vs → Vals vs us → RdsOk s ps us
  | [], ps, vs, us, e, dv, r => by
    cases dv
    cases r
    cases e
    exact ⟨[], .nil, fun _ => by simp⟩
  | d :: ds, ps, vs, us, e, dv, r => by
    cases dv with
    | cons d1 d2 =>
    obtain ⟨u, us', rfl, r1, r2⟩ := vals_cons r
    unfold optAll at e
    split at e
    · rename_i p ps' e1 e2
      cases e
      obtain ⟨as, h1, h2⟩ := ih _ _ _ _ e1 d1 r1
      obtain ⟨bs, k1, k2⟩ := rds_of ih _ _ _ _ e2 d2 r2
      refine ⟨as ++ bs, .cons h1 k1, fun z => ?_⟩
      unfold noLstAll at z
      rw [Bool.and_eq_true] at z
      rw [List.mem_append, not_or]
      exact ⟨h2 z.1, k2 z.2⟩
    · cases e
theorem sqT_of {p : Addr} {vs : List V} (h : PTu H m p vs ∨ KTup g.K p vs) : SqT g.K H p vs := SqT.gr (Gr.refl _ _).w h
theorem sqL_of {p : Addr} {vs : List V} (h : (∃ o, H p = some (.frz o (.lst vs)) ∧ p ∉ m) ∨ KLst g.K p vs) : SqL g.K H p vs := SqL.gr (Gr.refl _ _).w h
theorem rd_list (I : Inv X pins σ H s) {p : Addr} {vs : List V} (q : SqL X.K H p vs) {ps : List PyData} (k : ∀ us, Vals vs us → RdsOk s ps us) : RdOk s (.list ps) (.ref p) := by
  obtain ⟨its, r, ⟨o, n, e, h1, h2, h3⟩, z⟩ := I.list q
  obtain ⟨as, k1, k2⟩ := k its r
  exact ⟨p :: as, .list e h1 h3 (by simpa using k1), fun z => by unfold noLst at z; cases z⟩
theorem rd_tup (I : Inv X pins σ H s) {p : Addr} {vs : List V} (q : SqT X.K H p vs) {ps : List PyData} (k : ∀ us, Vals vs us → RdsOk s ps us) : RdOk s (.tuple ps) (.ref p) := by
  obtain ⟨its, r, ⟨o, e, h1, n, h3⟩, z⟩ := I.tuple q
  obtain ⟨as, k1, k2⟩ := k its r
  exact ⟨as, .tuple e h1 h3 (by simpa using k1), fun z => k2 (by unfold noLst at z; exact z)⟩
theorem rd_of (hK : X.K = g.K) (I : Inv X pins σ H s) (rh : RH g H m A) : ∀ (n : Nat) (d : D) (p : PyData) (v : V) (u : Value), toPy A n d = some p → DV g H m d v → RelV v u → RdOk s p u := by
  intro n
  induction n with
  | zero => intro d p v u e; cases e
  | succ n ih =>
    intro d p v u e dv r
    cases dv with
    | non => cases e; obtain rfl : u = _ := r; exact ⟨_, .none, fun _ => by simp⟩
    | bl b => cases e; obtain rfl : u = _ := r; exact ⟨_, .bool b, fun _ => by simp⟩
    | int i => cases e; obtain ⟨t, rfl⟩ := r; exact ⟨_, .int i t, fun _ => by simp⟩
    | str x => cases e; obtain ⟨t, rfl⟩ := r; exact ⟨_, .str x t, fun _ => by simp⟩
    | tup h hs =>
      rename_i ds vs q
      obtain rfl : u = _ := r
      obtain ⟨ps, e1, rfl⟩ := Option.map_eq_some_iff.mp (show (optAll (toPy A n) ds).map PyData.tuple = some p from e)
      exact rd_tup I (hK ▸ sqT_of h) fun us r => rds_of ih _ _ _ _ e1 hs r
    | lst h hs =>
      rename_i ds vs q
      obtain rfl : u = _ := r
      obtain ⟨ps, e1, rfl⟩ := Option.map_eq_some_iff.mp (show (optAll (toPy A n) ds).map PyData.list = some p from e)
      exact rd_list I (hK ▸ sqL_of h) fun us r => rds_of ih _ _ _ _ e1 hs r
    | dct h hl hs =>
      rename_i ks ds vs q
      obtain rfl : u = _ := r
      cases ks with
      | cons => cases ds <;> cases e
      | nil =>
        cases ds with
        | cons => cases e
        | nil =>
          cases e
          obtain ⟨o, h1, h2⟩ := h
          obtain ⟨e0, hz, hy, vs0, kv, ob, es, ep, e1, hd, hes, _, hp, _⟩ := I.hok q _ h1
          have kv0 : vs0 = [] := by cases kv; rfl
          subst kv0
          have hes0 : es.toList = [] := by
            have hp0 := hp.length
            simpa using hp0
          refine ⟨q :: [] ++ [], .dict (kvs := []) e1 hd.1 hes ?_ ?_, fun _ => ?_⟩
          · rw [hes0]; exact .nil
          · rw [hes0]; exact .nil
          · simpa using fun z : sysModules = q => absurd hy (by rw [z]; simp)
    | ref h =>
      rename_i a q
      obtain rfl : u = _ := r
      have e : (match A[a]? with | some (.lst ds) => (optAll (toPy A n) ds).map PyData.list | _ => none) = some p := e
      split at e
      · rename_i ds hd
        obtain ⟨ps, e1, rfl⟩ := Option.map_eq_some_iff.mp e
        obtain ⟨q', hq', vs, h1, h2⟩ := rh.get hd
        rw [h] at hq'; cases hq'
        exact rd_list I (SqL.of h1) fun us r => rds_of ih _ _ _ _ e1 h2 r
      · cases e
    | cls => cases e
    | fn => cases e
    | exc => cases e
    | ty => cases e
    | lam => cases e
    | wtp => cases e
end
theorem depthAll_le {f : D → Option PyData} {n : Nat} (ih : ∀ d p, f d = some p → p.depth ≤ n) : ∀ (ds : List D) (ps : List PyData), optAll f ds = some ps → PyData.depthAll ps ≤ n
  | [], ps, e => by cases e; simp [PyData.depthAll]
  | d :: ds, ps, e => by
    unfold optAll at e
    split at e
    · rename_i p ps' e1 e2
      cases e
      unfold PyData.depthAll
      have := ih _ _ e1
      have := depthAll_le ih _ _ e2
      omega
    · cases e
theorem toPy_depth (A : HA) : ∀ (n : Nat) (d : D) (p : PyData), toPy A n d = some p → p.depth ≤ n := by
  intro n
  induction n with
  | zero => intro d p e; cases e
  | succ n ih =>
    intro d p e
    cases d with
    | non => cases e; simp [PyData.depth]
    | bl => cases e; simp [PyData.depth]
    | int => cases e; simp [PyData.depth]
    | str => cases e; simp [PyData.depth]
    | tup ds =>
      obtain ⟨ps, e1, rfl⟩ := Option.map_eq_some_iff.mp (show (optAll (toPy A n) ds).map PyData.tuple = some p from e)
      have := depthAll_le ih _ _ e1
      unfold PyData.depth; omega
    | lst ds =>
      obtain ⟨ps, e1, rfl⟩ := Option.map_eq_some_iff.mp (show (optAll (toPy A n) ds).map PyData.list = some p from e)
      have := depthAll_le ih _ _ e1
      unfold PyData.depth; omega
    | dct ks ds =>
      cases ks with
      | cons => cases ds <;> cases e
      | nil =>
        cases ds with
        | cons => cases e
        | nil => cases e; simp [PyData.depth, PyData.depthKv]
    | ref a =>
      have e : (match A[a]? with | some (.lst ds) => (optAll (toPy A n) ds).map PyData.list | _ => none) = some p := e
      split at e
      · rename_i ds hd
        obtain ⟨ps, e1, rfl⟩ := Option.map_eq_some_iff.mp e
        have := depthAll_le ih _ _ e1
        unfold PyData.depth; omega
      · cases e
    | cls => cases e
    | fn => cases e
    | exc => cases e
    | ty => cases e
    | lam => cases e
    | wtp => cases e
noncomputable abbrev PF := List D → HA → R D
/-- a built-in function f is called with values -/
noncomputable def CallF (g : G) (f : Value) (p : PF) : Prop := ∀ (F : F) (W : WX) (X : Cx), F.g = g → Ok F W X → ∀ (pins : List (Addr × Obj)) (s : Shared) (σ : St) (H : Hp) (m : List Addr) (A : HA) (ds : List D) (vs : List V) (us : List Value) (Q : VK), Inv X pins σ H s → RH g H m A → DVs g H m ds vs → Vals vs us → Po (rE g) g m H W σ (p ds A) Q →
  wpAny (model X.prog X.w) X.A (call f us) (EP X pins σ Q) X.xe s
variable {F : F} {pos : Pos}
theorem je_bfn {x : Str} {id : String} {p : PF} {e : Expr} {es : List Expr} {ca : CA} {q : Pos} (hc : CallF F.g (.builtin id) p) (hg : Gls F.scope x) (hm : F.g.mg x = none) (hv : bootBuiltins x = some (.builtin id)) (ha : JA F (e :: es) ca) (hn : x ≠ "__name__" := by decide) (hdb : (x == ("__debug__" : Str)) = false := by decide)
    (he : ∀ X : Cx, starEach (e :: es) X.env = (false, eval e X.env) :: starEach es X.env := by intro _; rfl) (hpl : ∀ X : Cx, (backTo pos (starEach es X.env)).any (·.1) = false := by intro _; rfl) : JE F (.Call (.Name x q) (e :: es) [] pos) (cCall p ca) := by
  intro W X ok
  refine ⟨fun pins s σ H Q I hq => ?_⟩
  obtain ⟨m, E, A, rh, rs, q⟩ := hq
  refine wpAny_Call_Name_kw (ld_blt I (ok.gl hg) (by rw [ok.mg]; exact hm) hv ?_ hn hdb)
  refine PyProof.Rows.callWith_builtin1 (thn ((ha W X ok).run pos pins s σ H (fun vs H1 => ∃ m1 ds A1, RH F.g H1 m1 A1 ∧ DVs F.g H1 m1 ds vs ∧ Po (rE F.g) F.g m1 H1 W σ (p ds A1) Q) I ⟨m, E, A, rh, rs, Po.bind q fun m1 H1 ds xs A1 g1 rh1 dxs q1 => ⟨m1, ds, A1, rh1, dxs, q1⟩⟩) fun us s1 ⟨vs, H1, I1, r1, m1, ds, A1, rh1, dxs, q1⟩ => ?_) (he X) (hpl X)
  exact hc F W X rfl ok pins s1 σ H1 m1 A1 ds vs us Q I1 rh1 dxs r1 q1
theorem je_tfn {x : Str} {T : String} {p : PF} {e : Expr} {es : List Expr} {ca : CA} {q : Pos} (hc : CallF F.g (.type T) p) (hg : Gls F.scope x) (hm : F.g.mg x = none) (hv : bootBuiltins x = some (.type T)) (ha : JA F (e :: es) ca) (hn : x ≠ "__name__" := by decide) (hdb : (x == ("__debug__" : Str)) = false := by decide)
    (he : ∀ X : Cx, starEach (e :: es) X.env = (false, eval e X.env) :: starEach es X.env := by intro _; rfl) (hpl : ∀ X : Cx, (backTo pos (starEach es X.env)).any (·.1) = false := by intro _; rfl) : JE F (.Call (.Name x q) (e :: es) [] pos) (cCall p ca) := by
  intro W X ok
  refine ⟨fun pins s σ H Q I hq => ?_⟩
  obtain ⟨m, E, A, rh, rs, q⟩ := hq
  refine wpAny_Call_Name_kw (ld_blt I (ok.gl hg) (by rw [ok.mg]; exact hm) hv ?_ hn hdb)
  refine PyProof.Rows.callWith_type1 (thn ((ha W X ok).run pos pins s σ H (fun vs H1 => ∃ m1 ds A1, RH F.g H1 m1 A1 ∧ DVs F.g H1 m1 ds vs ∧ Po (rE F.g) F.g m1 H1 W σ (p ds A1) Q) I ⟨m, E, A, rh, rs, Po.bind q fun m1 H1 ds xs A1 g1 rh1 dxs q1 => ⟨m1, ds, A1, rh1, dxs, q1⟩⟩) fun us s1 ⟨vs, H1, I1, r1, m1, ds, A1, rh1, dxs, q1⟩ => ?_) (he X) (hpl X)
  exact hc F W X rfl ok pins s1 σ H1 m1 A1 ds vs us Q I1 rh1 dxs r1 q1
/-- of a kit's rule -/
theorem callF_of {g : G} {f : Value} {p : PF} {r : List V → Hp → VK → Prop} (h : ∀ X : Cx, X.K = g.K → X.calm = true → CallR X f r)
    (k : ∀ (W : WX) (σ : St) (m : List Addr) (H : Hp) (A : HA) (ds : List D) (vs : List V) (Q : VK), RH g H m A → DVs g H m ds vs → Po (rE g) g m H W σ (p ds A) Q → (SzOk g.K H → r vs H Q)) : CallF g f p := by
  intro F W X e ok pins s σ H m A ds vs us Q I rh dv r q
  have hK : X.K = g.K := ok.K.trans (congrArg G.K e)
  exact h X hK ok.calm pins s σ H vs us Q I r (k W σ m H A ds vs Q rh dv q (hK ▸ Inv.szOk I))
/-- the state's heap has only grown -/
theorem inv_grown {X : Cx} {pins : List (Addr × Obj)} {σ : St} {H : Hp} {s : Shared} {h' : Heap} {t : Nat} (I : Inv X pins σ H s) (k : ∀ b o, s.heap.get? b = some o → h'.get? b = some o) : Inv X pins σ H { s with heap := h', toks := t } :=
  I.un (Un.kept k) (I.hok.kept k)
noncomputable def repOk1 (p : PyData) : Bool := !p.hasDict || noLst p
/-- no dict stands below a list that stands in another thing -/
noncomputable def repOk : PyData → Bool
  | .list xs => xs.all repOk1
  | p => repOk1 p
/-- what stands in the state, item by item -/
inductive RdsI (s : Shared) : List PyData → List Value → Prop
  | nil : RdsI s [] []
  | cons {p : PyData} {u : Value} {ps : List PyData} {us : List Value} : RdOk s p u → RdsI s ps us → RdsI s (p :: ps) (u :: us)
theorem RdsI.reads {s : Shared} : ∀ {ps : List PyData} {us : List Value}, RdsI s ps us → ∃ as, ReadsAll s.heap us ps as
  | _, _, .nil => ⟨_, .nil⟩
  | _, _, .cons ⟨_, r, _⟩ h => let ⟨_, k⟩ := RdsI.reads h; ⟨_, .cons r k⟩
theorem rdsI_of {g : G} {H : Hp} {m : List Addr} {s : Shared} {f : D → Option PyData} (ih : ∀ d p v u, f d = some p → DV g H m d v → RelV v u → RdOk s p u) : ∀ (ds : List D) (ps : List PyData) (vs : List V) (us : List Value), optAll f ds = some ps → DVs g H m ds vs → Vals vs us → RdsI s ps us
  | [], ps, vs, us, e, dv, r => by
    cases dv
    cases r
    cases e
    exact .nil
  | d :: ds, ps, vs, us, e, dv, r => by
    cases dv with
    | cons d1 d2 =>
    obtain ⟨u, us', rfl, r1, r2⟩ := vals_cons r
    unfold optAll at e
    split at e
    · rename_i p ps' e1 e2
      cases e
      exact .cons (ih _ _ _ _ e1 d1 r1) (rdsI_of ih _ _ _ _ e2 d2 r2)
    · cases e
/-- their texts -/
theorem RdsI.texts {s : Shared} {P : Program} {w : World} : ∀ {ps : List PyData} {us : List Value}, RdsI s ps us → PyData.showableAll ps = true → ps.all repOk1 = true → (∀ t ∈ PyData.shownAll ps, t.length ≤ sizeLine) →
    ∃ bs, ReadAtMost s.heap (PyData.depthAll ps) bs ∧ ReprAllK P w bs s.heap (PyData.depthAll ps) us (PyData.shownAll ps)
  | _, _, .nil, _, _, _ => ⟨[], fun _ z => (by cases z), by rw [PyData.shownAll]; exact .nil⟩
  | p :: ps, u :: us, .cons ⟨as, r, na⟩ h, e1, e2, e3 => by
    unfold PyData.showableAll at e1
    rw [List.all_cons] at e2
    rw [Bool.and_eq_true] at e1 e2
    have m1 : p.shown ∈ PyData.shownAll (p :: ps) := by unfold PyData.shownAll; exact List.mem_cons_self
    have m2 : ∀ t ∈ PyData.shownAll ps, t ∈ PyData.shownAll (p :: ps) := fun t z => by unfold PyData.shownAll; exact List.mem_cons_of_mem _ z
    obtain ⟨b1, l1, k1⟩ := ReprK.of_reads (prog := P) (w := w) r e1.1 (fun hd => na (by
      have z := e2.1
      unfold repOk1 at z
      rw [hd] at z
      simpa using z)) (e3 _ m1)
    obtain ⟨b2, l2, k2⟩ := RdsI.texts (P := P) (w := w) h e1.2 e2.2 fun t z => e3 t (m2 t z)
    have hmax : PyData.depthAll (p :: ps) = max p.depth (PyData.depthAll ps) := by rw [PyData.depthAll]
    refine ⟨b1 ++ b2, fun b hb => ?_, ?_⟩
    · rw [hmax]
      rcases List.mem_append.mp hb with z | z
      · obtain ⟨d', as', r', q⟩ := l1 b z
        exact ⟨d', as', r', by omega⟩
      · obtain ⟨d', as', r', q⟩ := l2 b z
        exact ⟨d', as', r', by omega⟩
    · rw [hmax, show PyData.shownAll (p :: ps) = p.shown :: PyData.shownAll ps by rw [PyData.shownAll]]
      exact ReprAllK.cons (ReprK.level_le (ReprK.more k1 fun b z => List.mem_append_left _ z) (by omega)) (ReprAllK.more_le (fun b z => List.mem_append_right _ z) (by omega) k2)
/-- repr of a list whose items stand so -/
theorem repr_lst {P : Program} {w : World} {A : Around} {E : Value → Shared → Prop} {s : Shared} {Q : Value → Shared → Prop} {p : Addr} {o : Obj} {its : Array Value} {n : Nat} {ps : List PyData} (e : s.heap.get? p = some o) (h1 : o.cls = .type "list") (h2 : o.data = .seq its n) (R : RdsI s ps its.toList)
    (hs : (PyData.list ps).showable = true) (hk : ps.all repOk1 = true) (hz : (PyData.list ps).shown.length ≤ sizeLine) (hg : A.guards = some []) (hu : A.units + ((PyData.list ps).depth + 1) < cLine)
    (q : ∀ h' u tk, (∀ b o, s.heap.get? b = some o → h'.get? b = some o) → Q (.str (PyData.list ps).shown u) { s with heap := h', toks := tk }) : wpAny (model P w) A (call (.builtin "repr") [.ref p]) Q E s := by
  have sh : (PyData.list ps).shown = listText (PyData.shownAll ps) := by rw [PyData.shown]
  have dp : (PyData.list ps).depth = PyData.depthAll ps + 1 := by rw [PyData.depth]
  rw [sh] at q hz
  rw [dp] at hu
  have hs : PyData.showableAll ps = true := by rw [PyData.showable] at hs; exact hs
  obtain ⟨bs, lb, kb⟩ := RdsI.texts (P := P) (w := w) R hs hk fun t ht => Nat.le_trans (listText_mem_le ht) hz
  obtain ⟨as, ra⟩ := R.reads
  have rp : Reads s.heap (.ref p) (.list ps) (p :: as) := .list e h1 h2 ra
  have np : p ∉ bs := not_mem_of_deeper rp (by rw [dp]; omega) lb
  refine call_repr_slot (T := "list") (by omega) ⟨o, e, h1⟩ (PySem.F.slot_list_repr.toG) ?_
  obtain ⟨l⟩ := its
  cases l with
  | nil =>
    cases ra
    have e0 : PyData.shownAll [] = [] := by rw [PyData.shownAll]
    rw [e0, listText_nil] at q
    exact call_list_repr_empty ⟨o, e, h1⟩ e h2 ⟨_, _, rfl, q s.heap _ _ fun _ _ z => z⟩
  | cons x l =>
    exact call_list_reprK (A := A.in1) e h1 h2 np (by rw [kb.length_eq]; rfl) (fun i y z => kb.item i y (by simpa using z)) hg (fun b _ => Clear.nil b) (by show A.units + 1 + (PyData.depthAll ps + 1) < cLine; omega) (fun _ _ z => z) (fun h' u tk k => ⟨_, _, rfl, q h' u tk k⟩) hz
theorem toPy_list {g : G} {X : Cx} {pins : List (Addr × Obj)} {σ : St} {H : Hp} {s : Shared} {m : List Addr} {A : HA} (hK : X.K = g.K) (I : Inv X pins σ H s) (rh : RH g H m A) {n : Nat} {d : D} {ps : List PyData} {v : V} {u : Value} (e : toPy A (n + 1) d = some (.list ps)) (dv : DV g H m d v) (ru : RelV v u) :
    ∃ p o its k, u = .ref p ∧ s.heap.get? p = some o ∧ o.cls = .type "list" ∧ o.data = .seq its k ∧ RdsI s ps its.toList := by
  have fin : ∀ {q : Addr} {ds : List D} {vs : List V}, SqL X.K H q vs → DVs g H m ds vs → optAll (toPy A n) ds = some ps → ∃ p o its k, (Value.ref q) = .ref p ∧ s.heap.get? p = some o ∧ o.cls = .type "list" ∧ o.data = .seq its k ∧ RdsI s ps its.toList := by
    intro q ds vs sq hs e1
    obtain ⟨its, r, ⟨o, k, e, h1, h2, h3⟩, z⟩ := I.list sq
    exact ⟨q, o, its.toArray, k, rfl, e, h1, h3, rdsI_of (rd_of hK I rh n) _ _ _ _ e1 hs (by simpa using r)⟩
  cases dv with
  | lst h hs =>
    obtain rfl : u = _ := ru
    rename_i ds vs q
    obtain ⟨ps', e1, e2⟩ := Option.map_eq_some_iff.mp (show (optAll (toPy A n) ds).map PyData.list = some (.list ps) from e)
    cases e2
    exact fin (hK ▸ sqL_of h) hs e1
  | ref h =>
    rename_i a q
    obtain rfl : u = _ := ru
    have e : (match A[a]? with | some (.lst ds) => (optAll (toPy A n) ds).map PyData.list | _ => none) = some (.list ps) := e
    split at e
    · rename_i ds hd
      obtain ⟨ps', e1, e2⟩ := Option.map_eq_some_iff.mp e
      cases e2
      obtain ⟨q', hq', vs, h1, h2⟩ := rh.get hd
      rw [h] at hq'; cases hq'
      exact fin (SqL.of h1) h2 e1
    · cases e
  | dct h hl hs =>
    rename_i ks ds vs q
    cases ks with
    | cons => cases ds <;> cases e
    | nil =>
      cases ds with
      | cons => cases e
      | nil => cases e
  | tup h hs =>
    rename_i ds vs q
    obtain ⟨ps', e1, e2⟩ := Option.map_eq_some_iff.mp (show (optAll (toPy A n) ds).map PyData.tuple = some (.list ps) from e)
    cases e2
  | non => cases e
  | bl => cases e
  | int => cases e
  | str => cases e
  | cls => cases e
  | fn => cases e
  | exc => cases e
  | ty => cases e
  | lam => cases e
  | wtp => cases e
noncomputable def pRepr : PF := fun ds A => match ds with
  | [d] => match toPy A 60 d with
    | some p => if p.showable = true ∧ p.shown.length ≤ sizeLine ∧ repOk p = true then .ok (.str p.shown) A else .no
    | none => .no
  | _ => .no
theorem vals_one {v : V} {us : List Value} (r : Vals [v] us) : ∃ u, us = [u] ∧ RelV v u := by
  obtain ⟨u, us', rfl, h, t⟩ := vals_cons r
  cases t
  exact ⟨u, rfl, h⟩
theorem callF_repr {g : G} : CallF g (.builtin "repr") pRepr := by
  intro F W X e ok pins s σ H m A ds vs us Q I rh dv r q
  have hK : X.K = g.K := ok.K.trans (congrArg G.K e)
  unfold pRepr at q
  split at q
  · rename_i d
    obtain ⟨v, rfl, dv1⟩ := dv.one
    obtain ⟨u, rfl, ru⟩ := vals_one r
    split at q
    · rename_i p hp
      split at q
      · rename_i hc
        obtain ⟨as, rd, hs⟩ := rd_of hK I rh 60 d p v u hp dv1 ru
        have hdep := toPy_depth A 60 d p hp
        have hun : X.A.units + (p.depth + 1) < cLine := by have := ok.room.un; omega
        have key : noLst p = true ∨ p.hasDict = false → ∀ a, u = .ref a → wpAny (model X.prog X.w) X.A (call (.builtin "repr") [.ref a]) (EP X pins σ Q) X.xe s := fun hz a ea => by
          subst ea
          exact repr_of_reads' rd hc.1 (fun z => hz.elim (fun y => hs y) fun y => by rw [y] at z; cases z) ok.gd hun (fun _ _ e => e) (fun h' u tk k => ⟨.str p.shown, H, inv_grown I k, ⟨u, rfl⟩, Po.ok q rh (.str _)⟩) hc.2.1
        have one : repOk1 p = true → noLst p = true ∨ p.hasDict = false := fun z => by
          unfold repOk1 at z
          simpa [or_comm] using z
        have fin : ∀ t tk, EP X pins σ Q (.str p.shown t) { s with toks := tk } := fun t tk => ⟨.str p.shown, H, I.tok tk, ⟨t, rfl⟩, Po.ok q rh (.str _)⟩
        cases rd with
        | none => exact PySem.P.repr_of_none (fin _ _)
        | bool b => exact PySem.P.repr_of_bool (fin _ _)
        | int i t =>
          have h1 : i.natAbs.log2 < 1920 := by
            have z := hc.1
            unfold PyData.showable at z
            exact of_decide_eq_true z
          exact PySem.P.repr_of_int h1 (fin _ _)
        | str x t => exact PySem.P.repr_of_str (fin _ _) hc.2.1
        | list =>
          rename_i ps _ _ _ _ _
          obtain ⟨q', o', its, k', e1, e2, e3, e4, e5⟩ := toPy_list hK I rh hp dv1 ru
          cases e1
          exact repr_lst e2 e3 e4 e5 hc.1 hc.2.2 hc.2.1 ok.gd hun fun h' u tk k => ⟨.str _, H, inv_grown I k, ⟨u, rfl⟩, Po.ok q rh (.str _)⟩
        | tuple => exact key (one hc.2.2) _ rfl
        | dict => exact key (one hc.2.2) _ rfl
      · exact q.elim
    · exact q.elim
  · exact q.elim
noncomputable def pEqD : P2 := fun d e A => match toPy A 60 d, toPy A 60 e with
  | some p, some q => if p.plain = true ∧ q.plain = true then .ok (.bl (PyData.eqv p q)) A else .no
  | _, _ => .no
noncomputable def pNeD : P2 := fun d e A => match toPy A 60 d, toPy A 60 e with
  | some p, some q => if p.plain = true ∧ q.plain = true then .ok (.bl (!PyData.eqv p q)) A else .no
  | _, _ => .no
/-- an operation, with all that is known at hand -/
noncomputable def OpF (g : G) (f : Value → Value → Sem Value) (p : P2) : Prop := ∀ (F : Sm.F) (W : WX) (X : Cx), F.g = g → Ok F W X → ∀ (pins : List (Addr × Obj)) (s : Shared) (σ : St) (H : Hp) (m : List Addr) (A : HA) (d e : D) (x y : V) (v u : Value) (Q : VK), Inv X pins σ H s → RH g H m A → DV g H m d x → DV g H m e y → RelV x v → RelV y u →
  Po (rE g) g m H W σ (p d e A) Q → wpAny (model X.prog X.w) X.A (f v u) (EP X pins σ Q) X.xe s
theorem opF_of {g : G} {f : Value → Value → Sem Value} {p : P2} {r : R2} (h : ∀ X : Cx, X.K = g.K → X.calm = true → (∀ k, Room k X.A → OpR X f r)) (hp : Op2 g r p) : OpF g f p := by
  intro F W X e ok pins s σ H m A d e' x y v u Q I rh dx dy rx ry q
  exact h X (ok.K.trans (congrArg G.K e)) ok.calm F.k ok.room pins s σ H x y v u Q I rx ry (hp W σ m H A d e' x y Q rh dx dy q)
section
variable {a b c : Expr} {ca cb cc : CE} {p p' : P2}
/-- what is wanted of two operands -/
noncomputable def rF (g : G) (W : WX) (σ : St) (p : P2) : R2 := fun x y H Q => ∃ m A d e, RH g H m A ∧ DV g H m d x ∧ DV g H m e y ∧ Po (rE g) g m H W σ (p d e A) Q
theorem rF_of {g : G} {W : WX} {σ : St} {H : Hp} {Q : VK} (h : TEx g W (c2 p ca cb) σ H Q) : tOp (rF g W σ p) (TEx g W ca) (TEx g W cb) σ H Q := by
  obtain ⟨m, E, A, rh, rs, q⟩ := h
  exact ⟨m, E, A, rh, rs, Po.bind q fun m1 H1 d x A1 g1 rh1 dx q1 => ⟨m1, E, A1, rh1, rs.mono g1, Po.bind q1 fun m2 H2 e y A2 g2 rh2 dy q2 => ⟨m2, A2, d, e, rh2, dx.mono g2, dy, q2⟩⟩⟩
theorem je_opF {op : Operator} (ho : OpF F.g (binaryOp op) p) (ja : JE F a ca) (jb : JE F b cb) : JE F (.BinOp a op b pos) (c2 p ca cb) := by
  intro W X ok
  refine ⟨fun pins s σ H Q I h => ?_⟩
  exact wpAny_BinOp (binT (ja W X ok) (jb W X ok) I (rF_of h) fun v u s2 x y H2 I2 rx ry ⟨m, A, d, e, rh, dx, dy, q⟩ => ho F W X rfl ok pins s2 σ H2 m A d e x y v u Q I2 rh dx dy rx ry q)
theorem je_cmpF {op : CmpOp} (ho : OpF F.g (compareOp op) p) (ja : JE F a ca) (jb : JE F b cb) (hm : behindInMarks op b = false := by first | exact nobehind _ (by decide) (by decide) | rfl) : JE F (.Compare a [op] [b] pos) (c2 p ca cb) := by
  intro W X ok
  refine ⟨fun pins s σ H Q I h => ?_⟩
  exact wpAny_Compare1 (binT (ja W X ok) (jb W X ok) I (rF_of h) fun v u s2 x y H2 I2 rx ry ⟨m, A, d, e, rh, dx, dy, q⟩ => ho F W X rfl ok pins s2 σ H2 m A d e x y v u Q I2 rh dx dy rx ry q) hm
end
theorem opF_eqD {g : G} : OpF g (compareOp .Eq) pEqD := by
  intro F W X e ok pins s σ H m A d e' x y v u Q I rh dx dy rx ry q
  have hK : X.K = g.K := ok.K.trans (congrArg G.K e)
  unfold pEqD at q
  split at q
  · rename_i p p' hp hp'
    split at q
    · rename_i hc
      obtain ⟨as, rd, _⟩ := rd_of hK I rh 60 d p x v hp dx rx
      obtain ⟨bs, rd', _⟩ := rd_of hK I rh 60 e' p' y u hp' dy ry
      have h1 := toPy_depth A 60 d p hp
      exact SeqAt.eq_plain rd rd' hc.1 hc.2 (by have := ok.room.un; omega) ⟨.bl _, H, I, rfl, Po.ok q rh (.bl _)⟩
    · exact q.elim
  · exact q.elim
theorem opF_neD {g : G} : OpF g (compareOp .NotEq) pNeD := by
  intro F W X e ok pins s σ H m A d e' x y v u Q I rh dx dy rx ry q
  have hK : X.K = g.K := ok.K.trans (congrArg G.K e)
  unfold pNeD at q
  split at q
  · rename_i p p' hp hp'
    split at q
    · rename_i hc
      obtain ⟨as, rd, _⟩ := rd_of hK I rh 60 d p x v hp dx rx
      obtain ⟨bs, rd', _⟩ := rd_of hK I rh 60 e' p' y u hp' dy ry
      have h1 := toPy_depth A 60 d p hp
      exact SeqAt.ne_plain rd rd' hc.1 hc.2 (by have := ok.room.un; omega) ⟨.bl _, H, I, rfl, Po.ok q rh (.bl _)⟩
    · exact q.elim
  · exact q.elim
noncomputable def itemsPy : PyData → Option (List PyData)
  | .list xs => some xs
  | .tuple xs => some xs
  | _ => none
noncomputable def pIn (neg : Bool) : P2 := fun d e A => match toPy A 60 d, (toPy A 60 e).bind itemsPy with
  | some p, some qs => if p.plain = true ∧ PyData.plainAll qs = true then .ok (.bl (xor neg (qs.any fun y => PyData.eqv y p))) A else .no
  | _, _ => .no
theorem opF_in {g : G} : OpF g (compareOp .In) (pIn false) := by
  intro F W X e ok pins s σ H m A d e' x y v u Q I rh dx dy rx ry q
  have hK : X.K = g.K := ok.K.trans (congrArg G.K e)
  unfold pIn at q
  split at q
  · rename_i p qs hp hq
    split at q
    · rename_i hc
      obtain ⟨c, hc', hi⟩ := Option.bind_eq_some_iff.mp hq
      obtain ⟨as, rd, _⟩ := rd_of hK I rh 60 d p x v hp dx rx
      obtain ⟨bs, rd', _⟩ := rd_of hK I rh 60 e' c y u hc' dy ry
      have h1 := toPy_depth A 60 d p hp
      have q1 := Po.ok q rh (.bl _)
      rw [Bool.false_xor] at q1
      cases c with
      | list xs => cases hi; exact SeqAt.in_list_data rd' rd hc.2 hc.1 (by have := ok.room.un; omega) ⟨.bl _, H, I, rfl, q1⟩
      | tuple xs => cases hi; exact SeqAt.in_tuple_data rd' rd hc.2 hc.1 (by have := ok.room.un; omega) ⟨.bl _, H, I, rfl, q1⟩
      | _ => cases hi
    · exact q.elim
  · exact q.elim
theorem opF_notIn {g : G} : OpF g (compareOp .NotIn) (pIn true) := by
  intro F W X e ok pins s σ H m A d e' x y v u Q I rh dx dy rx ry q
  have hK : X.K = g.K := ok.K.trans (congrArg G.K e)
  unfold pIn at q
  split at q
  · rename_i p qs hp hq
    split at q
    · rename_i hc
      obtain ⟨c, hc', hi⟩ := Option.bind_eq_some_iff.mp hq
      obtain ⟨as, rd, _⟩ := rd_of hK I rh 60 d p x v hp dx rx
      obtain ⟨bs, rd', _⟩ := rd_of hK I rh 60 e' c y u hc' dy ry
      have h1 := toPy_depth A 60 d p hp
      have q1 := Po.ok q rh (.bl _)
      rw [Bool.true_xor] at q1
      cases c with
      | list xs => cases hi; exact SeqAt.notIn_list_data rd' rd hc.2 hc.1 (by have := ok.room.un; omega) ⟨.bl _, H, I, rfl, q1⟩
      | tuple xs => cases hi; exact SeqAt.notIn_tuple_data rd' rd hc.2 hc.1 (by have := ok.room.un; omega) ⟨.bl _, H, I, rfl, q1⟩
      | _ => cases hi
    · exact q.elim
  · exact q.elim
end Sm
namespace Sm
open PySem PySem.Spec PyProof.Rows L2
variable {F : F} {pos : Pos}
theorem opF_I {g : G} {f : Value → Value → Sem Value} {C : Int → Int → Prop} {fn : Int → Int → Int} {okb : Int → Int → Bool} (h : ∀ X : Cx, OpR X f (L2.rI C fun i j => .int (fn i j))) (hc : ∀ i j, okb i j = true → C i j) : OpF g f (pI fn okb) := opF_of (fun X _ _ _ _ => h X) (op2_I hc)
theorem opF_I0 {g : G} {f : Value → Value → Sem Value} {fn : Int → Int → Int} (h : ∀ X : Cx, OpR X f (rI0 fun i j => .int (fn i j))) : OpF g f (pI fn fun _ _ => true) := opF_of (fun X _ _ _ _ => h X) op2_I0
theorem opF_IB {g : G} {f : Value → Value → Sem Value} {fn : Int → Int → Bool} (h : ∀ X : Cx, OpR X f (rI0 fun i j => .bl (fn i j))) : OpF g f (pIB fn) := opF_of (fun X _ _ _ _ => h X) op2_IB
noncomputable def small64 (i : Int) : Bool := decide (-(2 ^ 64) < i) && decide (i < 2 ^ 64)
noncomputable abbrev pSub : P2 := pI (fun i j => i - j) fun _ _ => true
noncomputable abbrev pMul : P2 := pI (fun i j => i * j) fun i j => small64 i || small64 j
noncomputable abbrev pFdiv : P2 := pI (fun i j => i / j) fun _ j => decide (0 < j) && decide (j < 1073741824)
noncomputable abbrev pMod : P2 := pI (fun i j => i % j) fun _ j => decide (0 < j)
noncomputable abbrev pPow : P2 := pI (fun i j => i ^ j.toNat) fun i j => decide (0 ≤ j) && decide (j ≤ 1000000) && decide (i.natAbs < 2 ^ 64)
noncomputable abbrev pGt : P2 := pIB fun i j => decide (j < i)
noncomputable abbrev pGe : P2 := pIB fun i j => decide (j ≤ i)
theorem opF_sub {g : G} : OpF g (binaryOp .Sub) pSub := opF_I0 fun X => op_sub
theorem opF_mul {g : G} : OpF g (binaryOp .Mult) pMul := opF_I (fun X => op_mul) fun i j h => by
  unfold small64 at h
  simp only [Bool.or_eq_true, Bool.and_eq_true, decide_eq_true_eq] at h
  exact h
theorem opF_fdiv {g : G} : OpF g (binaryOp .FloorDiv) pFdiv := opF_I (fun X => op_fdiv) fun i j h => by
  simp only [Bool.and_eq_true, decide_eq_true_eq] at h
  exact h
theorem opF_mod {g : G} : OpF g (binaryOp .Mod) pMod := opF_I (fun X => op_mod) fun i j h => of_decide_eq_true h
theorem opF_pow {g : G} : OpF g (binaryOp .Pow) pPow := opF_I (fun X => op_pow) fun i j h => by
  simp only [Bool.and_eq_true, decide_eq_true_eq] at h
  exact ⟨h.1.1, h.1.2, h.2⟩
theorem opF_gt {g : G} : OpF g (compareOp .Gt) pGt := opF_IB fun X => op_gt
theorem opF_ge {g : G} : OpF g (compareOp .GtE) pGe := opF_IB fun X => op_ge
/-- a list's items, frozen or of the abstract heap -/
noncomputable def listOf (A : HA) : D → Option (List D)
  | .lst ds => some ds
  | .ref a => match A[a]? with
    | some (.lst ds) => some ds
    | _ => none
  | _ => none
theorem listOf_rel {g : G} {H : Hp} {m : List Addr} {A : HA} {d : D} {v : V} {ds : List D} (rh : RH g H m A) (r : DV g H m d v) (h : listOf A d = some ds) : ∃ p vs, v = .ref p ∧ SqL g.K H p vs ∧ DVs g H m ds vs := by
  unfold listOf at h
  split at h
  · cases h
    cases r with
    | lst h hs => exact ⟨_, _, rfl, sqL_of h, hs⟩
  · split at h
    · rename_i hd
      cases h
      cases r with
      | ref hp =>
        obtain ⟨q, hq, vs, h1, h2⟩ := rh.get hd
        rw [hp] at hq; cases hq
        exact ⟨_, vs, rfl, SqL.of h1, h2⟩
    · cases h
  · cases h
noncomputable def pAdd : P2 := fun d e A => match d, e with
  | .int i, .int j => .ok (.int (i + j)) A
  | .str x, .str y => if x.length + y.length ≤ sizeLine then .ok (.str (x ++ y)) A else .no
  | .tup xs, .tup ys => if xs.length + ys.length ≤ sizeLine then .ok (.tup (xs ++ ys)) A else .no
  | _, _ => .no
/-- t + u: the new tuple's object is known -/
noncomputable def rCatF (K : PySem.W.Frag) : R2 := fun x y H Q => ∃ a b xs ys, x = .ref a ∧ y = .ref b ∧ SqT K H a xs ∧ SqT K H b ys ∧ xs.length + ys.length ≤ sizeLine ∧
  (xs = [] → Q (.ref b) H) ∧ (xs ≠ [] → ys = [] → Q (.ref a) H) ∧ (xs ≠ [] → ys ≠ [] → ∀ p o, H p = none → o.dict = none → Q (.ref p) (upd H p (.frz o (.tup (xs ++ ys)))))
theorem op_catF {X : Cx} : OpR X (binaryOp .Add) (rCatF X.K) := by
  intro pins s σ H x y v u Q I rx ry h
  obtain ⟨a, b, xs, ys, rfl, rfl, ha, hb, hz, q0, q1, q2⟩ := h
  obtain ⟨its, r1, p1, _⟩ := I.tuple ha
  obtain ⟨its2, r2, p2, _⟩ := I.tuple hb
  obtain rfl : v = Value.ref a := rx
  obtain rfl : u = Value.ref b := ry
  by_cases hx : xs = []
  · subst hx
    cases r1
    exact cat_tup0 p1 p2 ⟨.ref b, H, I, rfl, q0 rfl⟩
  · refine HT.cat_tup p1 p2 (fun z => hx (r1.nil_iff.mp z)) (fun z => ⟨.ref a, H, I, rfl, q1 hx (r2.nil_iff.mp z)⟩) (fun z => ?_) (by rw [← r1.length, ← r2.length]; exact hz)
    have I2 := tup_laid (t' := s.toks) I (h' := s.heap.push { cls := .type "tuple", data := .seq (its ++ its2).toArray }) (fun b ob q => Heap.get?_push_of_some _ q) (Nat.le_refl _) (r1.append r2) (by rw [List.length_append]; exact hz) (Heap.get?_push_size _ rfl)
    exact ⟨.ref s.heap.objs.size, _, I2, rfl, q2 hx (fun w => z (r2.nil_iff.mpr w)) _ _ (I.hok.fresh (Nat.le_refl _)) rfl⟩
theorem opF_add {g : G} : OpF g (binaryOp .Add) pAdd := by
  intro F W X e ok pins s σ H m A d e' x y v u Q I rh dx dy rx ry q
  have hK : X.K = g.K := ok.K.trans (congrArg G.K e)
  unfold pAdd at q
  split at q
  · have := dx.int_inv; subst this
    have := dy.int_inv; subst this
    exact op_add pins s σ H _ _ v u Q I rx ry ⟨_, _, rfl, rfl, Po.ok q rh (.int _)⟩
  · split at q
    · rename_i hz
      have := dx.str_inv; subst this
      have := dy.str_inv; subst this
      exact op_add_str pins s σ H _ _ v u Q I rx ry ⟨_, _, rfl, rfl, hz, Po.ok q rh (.str _)⟩
    · exact q.elim
  · split at q
    · rename_i xs ys hz
      cases dx with
      | tup h1 k1 =>
      rename_i vs p
      cases dy with
      | tup h2 k2 =>
      rename_i ws r
      refine op_catF pins s σ H _ _ v u Q I rx ry ⟨p, r, vs, ws, rfl, rfl, hK ▸ sqT_of h1, hK ▸ sqT_of h2, by rw [← k1.length, ← k2.length]; exact hz, fun e => ?_, fun _ e => ?_, fun _ _ t o ht ho => ?_⟩
      · subst e
        cases k1
        exact Po.ok q rh (.tup h2 k2)
      · subst e
        cases k2
        rw [List.append_nil] at q
        exact Po.ok q rh (.tup h1 k1)
      · have gr : Gr m m H (upd H t (.frz o (.tup (vs ++ ws)))) := Gr.new ht
        exact Po.ok' q gr (rh.upd ht) (.tup (.inl ⟨o, upd_same, ho, rh.new ht⟩) ((k1.append k2).mono gr))
    · exact q.elim
  · exact q.elim
theorem add_pl {X : Cx} {pins : List (Addr × Obj)} {σ : St} {H : Hp} {s : Shared} {Q : VK} {l b : Addr} {xs ys : List V} (I : Inv X pins σ H s) (hl : SqL X.K H l xs) (hb : SqL X.K H b ys) (hz : xs.length + ys.length ≤ sizeLine)
    (h : ∀ p, H p = none → Q (.ref p) (upd H p (.lst (xs ++ ys)))) : wpAny (model X.prog X.w) X.A (binaryOp .Add (.ref l) (.ref b)) (EP X pins σ Q) X.xe s := by
  obtain ⟨its, r, ⟨⟨c1, d1, dt1, sl1⟩, n1, e1, h1, h2, h3⟩, z1⟩ := I.list hl
  obtain ⟨its2, r2, ⟨⟨c2, d2, dt2, sl2⟩, n2, e2, k1, k2, k3⟩, z2⟩ := I.list hb
  simp only at h1 h2 h3 k1 k2 k3
  subst h1 h2 h3 k1 k2 k3
  have ea : its.toArray ++ its2.toArray = (its ++ its2).toArray := by simp
  have hsz : its.toArray.size + its2.toArray.size ≤ sizeLine := by rw [List.size_toArray, List.size_toArray, ← r.length, ← r2.length]; exact hz
  refine concat_meets ⟨_, e1, rfl⟩ ⟨_, e2, rfl⟩ noFill_list_add seq_list_add PySem.F.slot_list_add PySem.F.entry_list_add (PySem.F.args_list_add_2 _ _) (PyProof.Rows.list_addW l b its.toArray its2.toArray n1 n2 none none sl1 sl2 hsz) ⟨e1, e2, ?_⟩
  rw [ea]
  exact ⟨.ref _, _, I.lnew (t' := s.toks) (r.append r2) (by rw [List.length_append]; omega), rfl, h _ I.fresh⟩
/-- list + list: the new list is never changed / is changed later -/
noncomputable def pCat (hot : Bool) : P2 := fun d e A => match listOf A d, listOf A e with
  | some xs, some ys => if xs.length + ys.length ≤ sizeLine then (if hot = true then .ok (.ref A.length) (A ++ [.lst (xs ++ ys)]) else .ok (.lst (xs ++ ys)) A) else .no
  | _, _ => .no
end Sm
namespace Sm
open PySem PySem.Spec PyProof.Rows L2
variable {F : F} {pos : Pos}
theorem ep_frz {X : Cx} {pins : List (Addr × Obj)} {σ : St} {Q : VK} {M : Sem Value} {s : Shared} (h : wpAny (model X.prog X.w) X.A M (EP X pins σ fun v H' => ∃ p xs, v = .ref p ∧ H' p = some (.lst xs) ∧ ∀ o, Q v (upd H' p (.frz o (.lst xs)))) X.xe s) :
    wpAny (model X.prog X.w) X.A M (EP X pins σ Q) X.xe s := thn h fun u s' ⟨v, H', I', r, p, xs, e1, e2, k⟩ => by
  obtain ⟨od, I2⟩ := I'.lock e2 trivial
  exact ⟨v, _, I2, r, k od⟩
theorem opF_cat {g : G} {hot : Bool} : OpF g (binaryOp .Add) (pCat hot) := by
  intro F W X e ok pins s σ H m A d e' x y v u Q I rh dx dy rx ry q
  have hK : X.K = g.K := ok.K.trans (congrArg G.K e)
  unfold pCat at q
  split at q
  · rename_i ds es hd he
    split at q
    · rename_i hz
      obtain ⟨p, vs, rfl, s1, r1⟩ := listOf_rel rh dx hd
      obtain ⟨p', ws, rfl, s2, r2⟩ := listOf_rel rh dy he
      obtain rfl : v = .ref p := rx
      obtain rfl : u = .ref p' := ry
      have hz' : vs.length + ws.length ≤ sizeLine := by rw [← r1.length, ← r2.length]; exact hz
      cases hot with
      | true =>
        simp only [if_true] at q
        refine add_pl I (hK ▸ s1) (hK ▸ s2) hz' fun t ht => ?_
        have gr : Gr m (m ++ [t]) H (upd H t (.lst (vs ++ ws))) := Gr.push ht
        refine Po.ok' q gr (rh.push ht ⟨_, upd_same, (r1.append r2).mono gr⟩) (.ref ?_)
        rw [← rh.len]; simp
      | false =>
        simp only [Bool.false_eq_true, if_false] at q
        refine ep_frz (add_pl I (hK ▸ s1) (hK ▸ s2) hz' fun t ht => ⟨t, _, rfl, upd_same, fun o => ?_⟩)
        rw [upd_upd]
        have gr : Gr m m H (upd H t (.frz o (.lst (vs ++ ws)))) := Gr.new ht
        exact Po.ok' q gr (rh.upd ht) (.lst (.inl ⟨o, upd_same, rh.new ht⟩) ((r1.append r2).mono gr))
    · exact q.elim
  · exact q.elim
noncomputable def lookD (kvs : List (D × D)) (k : Key) : Option D := match kvs with
  | [] => none
  | p :: r => if toKey p.1 = some k then some p.2 else lookD r k
noncomputable def putD (kvs : List (D × D)) (k : Key) (kd v : D) : List (D × D) :=
  if (kvs.any fun p => decide (toKey p.1 = some k)) = true then kvs.map (fun p => if toKey p.1 = some k then (p.1, v) else p) else kvs ++ [(kd, v)]
section
variable {g : G} {H H' : Hp} {m : List Addr} {kvs : List (D × D)} {ks : List (Key × V)} {k : Key} {d : D}
theorem lookD_rel (r : KVR g H m kvs ks) (h : lookD kvs k = some d) : ∃ v, valV ks k = some v ∧ DV g H m d v := by
  unfold KVR at r
  induction r with
  | nil => cases h
  | @cons p q l l' h1 t ih =>
    unfold lookD at h
    by_cases e : q.1 = k
    · rw [if_pos (by rw [h1.1, e])] at h
      cases h
      exact ⟨q.2, valV_pos e, h1.2⟩
    · rw [if_neg (by rw [h1.1]; simpa using e)] at h
      obtain ⟨v, h2, h3⟩ := ih h
      exact ⟨v, by rw [valV_neg e]; exact h2, h3⟩
theorem lookD_none (r : KVR g H m kvs ks) (h : lookD kvs k = none) : valV ks k = none := by
  unfold KVR at r
  induction r with
  | nil => rfl
  | @cons p q l l' h1 t ih =>
    unfold lookD at h
    by_cases e : q.1 = k
    · rw [if_pos (by rw [h1.1, e])] at h
      cases h
    · rw [if_neg (by rw [h1.1]; simpa using e)] at h
      rw [valV_neg e]
      exact ih h
theorem anyD_rel (r : KVR g H m kvs ks) : (kvs.any fun p => decide (toKey p.1 = some k)) = ks.any fun kv => decide (kv.1 = k) := by
  unfold KVR at r
  induction r with
  | nil => rfl
  | @cons p q l l' h1 t ih =>
    rw [List.any_cons, List.any_cons, ih]
    congr 1
    exact decide_eq_decide.mpr (by rw [h1.1]; simp)
theorem putD_rel {kd dv : D} {v : V} (r : KVR g H m kvs ks) (hk : toKey kd = some k) (dd : DV g H m dv v) : KVR g H m (putD kvs k kd dv) (putK ks k v) := by
  unfold putD putK
  rw [anyD_rel r]
  split
  · have : ∀ {l : List (D × D)} {l' : List (Key × V)}, KVR g H m l l' → KVR g H m (l.map fun p => if toKey p.1 = some k then (p.1, dv) else p) (l'.map fun kv => if kv.1 = k then (kv.1, v) else kv) := by
      intro l l' h
      unfold KVR at h ⊢
      induction h with
      | nil => exact .nil
      | @cons p q a b h1 t ih =>
        refine .cons ?_ ih
        show toKey (if toKey p.1 = some k then (p.1, dv) else p).1 = some (if q.1 = k then (q.1, v) else q).1 ∧ DV g H m (if toKey p.1 = some k then (p.1, dv) else p).2 (if q.1 = k then (q.1, v) else q).2
        by_cases e : q.1 = k
        · rw [if_pos (by rw [h1.1, e]), if_pos e]
          exact ⟨h1.1, dd⟩
        · rw [if_neg (by rw [h1.1]; simpa using e), if_neg e]
          exact h1
    exact this r
  · exact Paired.snocR r ⟨hk, dd⟩
end
theorem toKey_rel {g : G} {H : Hp} {m : List Addr} {d : D} {k : Key} {v : V} (h : toKey d = some k) (r : DV g H m d v) : v = kV k := by
  unfold toKey at h
  split at h
  · cases h; exact r.int_inv
  · cases h; exact r.str_inv
  · cases h
/-- a key's value in a dict -/
noncomputable def dgetOf (A : HA) : D → Key → Option (Option D)
  | .ref a, k => match A[a]? with
    | some (.dct _ kvs) => some (lookD kvs k)
    | _ => none
  | _, _ => none
noncomputable def pIxD : P2 := fun d e A => match toKey e with
  | some k => match dgetOf A d k with
    | some (some x) => .ok x A
    | _ => .no
  | none => .no
noncomputable def ODV (g : G) (H : Hp) (m : List Addr) : Option D → Option V → Prop
  | some d', some v => DV g H m d' v
  | none, none => True
  | _, _ => False
theorem dget_rel {g : G} {H : Hp} {m : List Addr} {A : HA} {d e : D} {x y : V} {k : Key} {o : Option D} (rh : RH g H m A) (dx : DV g H m d x) (dy : DV g H m e y) (hk : toKey e = some k) (h : dgetOf A d k = some o) :
    ∃ a vo, x = .ref a ∧ DGet H a y vo ∧ ODV g H m o vo := by
  have ey := toKey_rel hk dy
  subst ey
  cases dx with
  | ref hp =>
    rename_i a0 q
    have h : (match A[a0]? with | some (.dct _ kvs) => some (lookD kvs k) | _ => none) = some o := h
    split at h
    · rename_i lk kvs hd
      cases h
      obtain ⟨q', hq, r⟩ := rh.get hd
      rw [hp] at hq; cases hq
      have fin : ∀ ks, Rd H q (.dK ks) → KVR g H m kvs ks → ∃ a vo, V.ref q = .ref a ∧ DGet H a (kV k) vo ∧ ODV g H m (lookD kvs k) vo := by
        intro ks e r
        cases hl : lookD kvs k with
        | none => exact ⟨q, none, rfl, .inl ⟨ks, k, e, rfl, (lookD_none r hl).symm⟩, True.intro⟩
        | some d' =>
          obtain ⟨v, h1, h2⟩ := lookD_rel r hl
          exact ⟨q, some v, rfl, .inl ⟨ks, k, e, rfl, h1.symm⟩, h2⟩
      cases lk with
      | false => obtain ⟨ks, h1, r⟩ := r; exact fin ks (.inl h1) r
      | true => obtain ⟨ob, ks, h1, r⟩ := r; exact fin ks (.inr ⟨ob, h1⟩) r
    · cases h
  | _ => cases h
theorem ix_dict {X : Cx} (hu : X.A.units + 1 < cLine) : IxR X (fun x y H Q => ∃ a v, x = .ref a ∧ DGet H a y (some v) ∧ Q v H) := by
  intro value slice pins s σ H x y v u Q I rx ry h hs
  obtain ⟨a, r, rfl, g, q⟩ := h
  obtain rfl : v = Value.ref a := rx
  exact PyProof.Rows.tail_any (dict_typeIs I g) PySem.F.slot_dict_getitem.lookup (d_getItem hu I g ry fun w' s3 I3 rw' => ⟨r, H, I3, rw', q⟩) hs
/-- one sign of a text -/
noncomputable def pIxS : P2 := fun d e A => match d, e with
  | .str z, .int i => if z.length ≤ sizeLine then match atI z.cps.toList i with
    | some c => .ok (.str ⟨#[c]⟩) A
    | none => .no else .no
  | _, _ => .no
/-- d[e] -/
noncomputable def pGet : P2 := fun d e A => match d with
  | .str _ => pIxS d e A
  | .ref a => match A[a]? with
    | some (.dct _ _) => pIxD d e A
    | _ => pIx d e A
  | _ => pIx d e A
theorem je_get {a b : Expr} {ca cb : CE} (ja : JE F a ca) (jb : JE F b cb) (hs : PlainIx b := by intro _ _; rfl) : JE F (.Subscript a b pos) (c2 pGet ca cb) := by
  intro W X ok
  have hu : X.A.units + 1 < cLine := by have := ok.room.un; omega
  refine PE.imp (pe_ix (IxR.or ix_seq (ix_dict hu)) (ja W X ok) (jb W X ok) hs) ?_
  rw [ok.K]
  refine fun σ H Q h => ?_
  obtain ⟨m, E, A, rh, rs, q⟩ := h
  refine ⟨m, E, A, rh, rs, Po.bind q fun m1 H1 d x A1 g1 rh1 dx q1 => ⟨m1, E, A1, rh1, rs.mono g1, Po.bind q1 fun m2 H2 e y A2 g2 rh2 dy q2 => ?_⟩⟩
  have dx2 := dx.mono g2
  have seq : Po (rE F.g) F.g m2 H2 W σ (pIx d e A2) Q → rIx F.g.K x y H2 Q := fun q => op2_ix W σ m2 H2 A2 d e x y Q rh2 dx2 dy q
  unfold pGet at q2
  split at q2
  · rename_i z
    unfold pIxS at q2
    split at q2
    · rename_i z' i e1
      cases e1
      split at q2
      · rename_i hz
        split at q2
        · rename_i c hc
          have := dx2.str_inv; subst this
          have := dy.int_inv; subst this
          exact .inl (.inr (.inr ⟨z, i, c, rfl, rfl, hz, hc, Po.ok q2 rh2 (.str _)⟩))
        · exact q2.elim
      · exact q2.elim
    · exact q2.elim
  · split at q2
    · unfold pIxD at q2
      split at q2
      · rename_i k hk
        split at q2
        · rename_i r hr
          obtain ⟨a, vo, rfl, g, z⟩ := dget_rel rh2 dx2 dy hk hr
          cases vo with
          | none => exact z.elim
          | some v => exact .inr ⟨a, v, rfl, g, Po.ok q2 rh2 z⟩
        · exact q2.elim
      · exact q2.elim
    · exact .inl (seq q2)
  · exact .inl (seq q2)
noncomputable def gPut (co ci : CE) : CG := fun v E A => match co E A with
  | .ok o A1 => match ci E A1 with
    | .ok i A2 => match o with
      | .ref a => match A2[a]? with
        | some (.lst ds) => match i with
          | .int k => match ixN ds.length k with
            | some j => .nx E (A2.set a (.lst (ds.set j v)))
            | none => .no
          | _ => .no
        | some (.dct false kvs) => match toKey i with
          | some k => if kvs.length < sizeLine then .nx E (A2.set a (.dct false (putD kvs k i v))) else .no
          | none => .no
        | _ => .no
      | _ => .no
    | _ => .no
  | _ => .no
noncomputable def rSetLD : TSet := fun o i v H Q => rSetL o i v H Q ∨ rSetD o i v H Q
theorem set_ld {X : Cx} (hu : X.A.units + 1 < cLine) : PSet X rSetLD := by
  intro pins s σ H o i v ov iv u Q I ro ri rv h
  rcases h with h | h
  · exact set_list pins s σ H o i v ov iv u Q I ro ri rv h
  · exact set_dict hu pins s σ H o i v ov iv u Q I ro ri rv h
theorem jg_put {o i : Expr} {co ci : CE} {vs : List Nat} (ho : JE F o co) (hi : JE F i ci)
    (ha : ∀ (X : Cx) v, assign (.Subscript o i pos) X.env v = (do
      let ov ← holding [v] (eval o X.env)
      let iv ← holding [v, ov] (eval i X.env)
      standAt pos
      holding [v, ov, iv] (setItem ov iv v)
      release [v, ov, iv] []) := by intro _ _; rfl) : JG F vs (.Subscript o i pos) (gPut co ci) := by
  intro W X ok fc
  have hu : X.A.units + 1 < cLine := by have := ok.room.un; omega
  refine PG.imp (pg_sub (ho W X ok) (hi W X ok) (set_ld hu) (ha X)) ?_
  rintro v σ H Q ⟨m, E, A, d, rh, rs, dv, q⟩
  unfold gPut at q
  cases hc : co E A with
  | exc => simp only [hc] at q; exact q.elim
  | no => simp only [hc] at q; exact q.elim
  | ok od A1 =>
    simp only [hc] at q
    refine ⟨m, E, A, rh, rs, ?_⟩
    rw [hc]
    intro m1 x H1 g1 rh1 dx
    cases hc2 : ci E A1 with
    | exc => simp only [hc2] at q; exact q.elim
    | no => simp only [hc2] at q; exact q.elim
    | ok idd A2 =>
      simp only [hc2] at q
      refine ⟨m1, E, A1, rh1, rs.mono g1, ?_⟩
      rw [hc2]
      intro m2 y H2 g2 rh2 dy
      have g12 := g1.trans g2
      have dx2 := dx.mono g2
      split at q
      · rename_i a
        obtain ⟨p, rfl, hp⟩ := dx2.ref_inv
        split at q
        · rename_i ds hd
          obtain ⟨p', hp', us, h1, h2⟩ := rh2.get hd
          rw [hp] at hp'; cases hp'
          split at q
          · rename_i k
            split at q
            · rename_i j hj
              have ey := DV.int_inv dy; subst ey
              refine .inl ⟨p, us, k, j, rfl, rfl, h1, by rw [← h2.length]; exact hj, ?_⟩
              have gr : Gr m2 m2 H2 (upd H2 p (.lst (us.set j v))) := Gr.chg hp ⟨_, h1, by simp⟩
              exact q m2 σ _ (g12.trans gr) (rh2.set hp ⟨_, h1⟩ ⟨_, upd_same, DVs.set (dv.mono (g12.trans gr)) j (h2.mono gr)⟩) (rs.mono (g12.trans gr)) rfl
            · exact q.elim
          · exact q.elim
        · rename_i kvs hd
          obtain ⟨p', hp', ks, h1, r⟩ := rh2.get hd
          rw [hp] at hp'; cases hp'
          split at q
          · rename_i k hk
            split at q
            · rename_i hz
              have ey := toKey_rel hk dy
              subst ey
              have gr : Gr m2 m2 H2 (upd H2 p (.dK (putK ks k v))) := Gr.chg hp ⟨_, h1, by simp⟩
              refine .inr ⟨p, _, rfl, .inl ⟨ks, k, h1, rfl, by rw [← Paired.length r]; exact hz, rfl⟩, ?_⟩
              exact q m2 σ _ (g12.trans gr) (rh2.set hp ⟨_, h1⟩ ⟨_, upd_same, putD_rel (Paired.mapR r fun _ _ z => ⟨z.1, z.2.mono gr⟩) hk (dv.mono (g12.trans gr))⟩) (rs.mono (g12.trans gr)) rfl
            · exact q.elim
          · exact q.elim
        · exact q.elim
      · exact q.elim
end Sm
namespace Sm
open PySem PySem.Spec PyProof.Rows L2
variable {F : F} {pos : Pos}
noncomputable def HotO : HO → Prop
  | .lst _ => True
  | .dK _ => True
  | .dT _ => True
  | .ins _ _ _ => True
  | _ => False
section
variable {g : G} {H : Hp} {m : List Addr} {p : Addr} {u : HO}
theorem out_more (h0 : H p = some u) (hu : HotO u) {q : Addr} {o : HO} (h : H q = some o) (ho : ¬ HotO o) (hm : q ∉ m) : q ∉ m ++ [p] := by
  rw [List.mem_append, not_or]
  refine ⟨hm, fun e => ?_⟩
  simp at e
  subst e
  rw [h0] at h; cases h
  exact ho hu
theorem CellsV.more (h0 : H p = some u) (hu : HotO u) {cl : List (Str × Addr)} : ∀ {xs : List Str} {vs : List V}, CellsV H m cl xs vs → CellsV H (m ++ [p]) cl xs vs
  | _, _, .nil => .nil
  | _, _, .cons h1 h2 h3 h4 h5 h6 => .cons h1 h2 (out_more h0 hu h2 id h3) h4 h5 (CellsV.more h0 hu h6)
theorem CellsQ.more (h0 : H p = some u) (hu : HotO u) {cl : List (Str × Addr)} {xs : List Str} {vs : List V} {df : Option Int} {T : Addr} (h : CellsQ H m cl xs vs df T) : CellsQ H (m ++ [p]) cl xs vs df T := ⟨h.ok, h.v.more h0 hu, fun i e => let ⟨o, h1, h2, h3⟩ := h.d i e; ⟨o, h1, h2, out_more h0 hu h1 id h3⟩⟩
mutual
theorem DV.more (h0 : H p = some u) (hu : HotO u) : ∀ {d : D} {v : V}, DV g H m d v → DV g H (m ++ [p]) d v
  | _, _, .non => .non
  | _, _, .bl b => .bl b
  | _, _, .int i => .int i
  | _, _, .str x => .str x
  | _, _, .ty n => .ty n
  | _, _, .tup h hs => .tup (h.imp (fun ⟨o, h1, h2, h3⟩ => ⟨o, h1, h2, out_more h0 hu h1 id h3⟩) id) (DVs.more h0 hu hs)
  | _, _, .wtp h1 h2 hs => .wtp h1 (out_more h0 hu h1 id h2) (DVs.more h0 hu hs)
  | _, _, .lst h hs => .lst (h.imp (fun h => let ⟨o', h1, h2⟩ := h; ⟨o', h1, out_more h0 hu h1 id h2⟩) id) (DVs.more h0 hu hs)
  | _, _, .dct h hl hs => .dct (let ⟨o', h1, h2⟩ := h; ⟨o', h1, out_more h0 hu h1 id h2⟩) hl (DVs.more h0 hu hs)
  | _, _, .ref h => .ref (by rw [List.getElem?_append_left (List.getElem?_eq_some_iff.mp h).1]; exact h)
  | _, _, .cls c => .cls c
  | _, _, .fn f => .fn f
  | _, _, .exc h1 h2 h3 h4 h6 h5 => .exc h1 (out_more h0 hu h1 id h2) h3 (out_more h0 hu h3 id h4) h6 (DVs.more h0 hu h5)
  | _, _, .lam h1 h2 h3 h4 h5 h6 => .lam h1 (out_more h0 hu h1 id h2) h3 (out_more h0 hu h3 id h4) (h5.more h0 hu) (DVs.more h0 hu h6)
theorem DVs.more (h0 : H p = some u) (hu : HotO u) : ∀ {ds : List D} {vs : List V}, DVs g H m ds vs → DVs g H (m ++ [p]) ds vs
  | _, _, .nil => .nil
  | _, _, .cons h hs => .cons (DV.more h0 hu h) (DVs.more h0 hu hs)
end
theorem AOR.more (h0 : H p = some u) (hu : HotO u) {a : AO} {q : Addr} (h : AOR g H m a q) : AOR g H (m ++ [p]) a q := by
  cases a with
  | lst ds => obtain ⟨vs, h1, h2⟩ := h; exact ⟨vs, h1, h2.more h0 hu⟩
  | dct lk kvs =>
    have k1 : ∀ ks, KVR g H m kvs ks → KVR g H (m ++ [p]) kvs ks := fun ks r => Paired.mapR r fun _ _ z => ⟨z.1, z.2.more h0 hu⟩
    cases lk with
    | false => obtain ⟨ks, h1, h2⟩ := h; exact ⟨ks, h1, k1 _ h2⟩
    | true => obtain ⟨o, ks, h1, h2⟩ := h; exact ⟨o, ks, h1, k1 _ h2⟩
  | dtt lk kvs =>
    have k1 : ∀ ks, KTR g H m kvs ks → KTR g H (m ++ [p]) kvs ks := fun ks r => Paired.mapR r fun _ _ z => ⟨z.1, z.2.1.more h0 hu, z.2.2.more h0 hu⟩
    cases lk with
    | false => obtain ⟨ks, h1, h2⟩ := h; exact ⟨ks, h1, k1 _ h2⟩
    | true => obtain ⟨o, ks, h1, h2⟩ := h; exact ⟨o, ks, h1, k1 _ h2⟩
  | ins c fs => obtain ⟨dx, us, h1, h2⟩ := h; exact ⟨dx, us, h1, Paired.mapR h2 fun _ _ z => ⟨z.1, z.2.more h0 hu⟩⟩
theorem RH.more {A : HA} {o : AO} (h0 : H p = some u) (hu : HotO u) (hm : p ∉ m) (h : RH g H m A) (ho : AOR g H (m ++ [p]) o p) : RH g H (m ++ [p]) (A ++ [o]) := by
  refine ⟨?_, Paired.snocR (Paired.mapR h.at_ fun q a r => r.more h0 hu) ho, h.tb, fun q hq => ?_⟩
  rotate_left
  · obtain ⟨ps, e1, _⟩ := h.tb q hq
    exact out_more h0 hu e1 id (h.tbm q hq)
  rw [List.nodup_append]
  refine ⟨h.nd, by simp, fun a ha b hb e => ?_⟩
  simp at hb
  subst hb
  subst e
  exact hm ha
theorem Gr.more {m0 : List Addr} {H0 : Hp} (a : Gr m0 m H0 H) (hp : H0 p = none) : Gr m0 (m ++ [p]) H0 H := by
  obtain ⟨n, rfl, f⟩ := a.ext
  refine ⟨⟨n ++ [p], by simp, fun q hq => ?_⟩, a.keepN, a.tbl, a.non, a.lk⟩
  rcases List.mem_append.mp hq with h | h
  · exact f q h
  · simp at h; subst h; exact hp
theorem RH.at_new {A : HA} {o : AO} (h : RH g H (m ++ [p]) (A ++ [o])) : (m ++ [p])[A.length]? = some p := by
  have e := Paired.length h.at_
  simp only [List.length_append, List.length_singleton] at e
  have e : m.length = A.length := by omega
  rw [← e]
  simp
end
noncomputable def cLcH (vs : List Nat) (ci : CI) (cg : CG) (ct : CB) (ce : CE) : CE := fun E A => (cLcI vs ci cg ct ce E A).bind fun ds A1 => .ok (.ref A1.length) (A1 ++ [.lst ds])
theorem lc_hot {g : G} {m m1 : List Addr} {H H1 : Hp} {A1 : HA} {ds : List D} {D : Addr} {acc : List V} {W : WX} {σ : St} {Q : VK} (g1 : Gr m m1 H H1) (hD : H D = none) (rh1 : RH g H1 m1 A1) (hD1 : H1 D = some (.lst acc)) (hm1 : D ∉ m1) (dv : DVs g H1 m1 ds acc)
    (q : Po (rE g) g m H W σ (.ok (.ref A1.length) (A1 ++ [.lst ds])) Q) : Q (.ref D) H1 := by
  have rh2 := RH.more (o := .lst ds) hD1 (u := .lst acc) True.intro hm1 rh1 ⟨acc, hD1, dv.more hD1 (u := .lst acc) True.intro⟩
  exact Po.ok' q (g1.more hD) rh2 (.ref rh2.at_new)
theorem je_lcH {elt tg iter : Expr} {ifs : List Expr} {scope : Scope} {own : List (Str × Nat)} {cl : List Str} {ci : CI} {cg : CG} {ct : CB} {ce : CE} (hi : JI F tg iter ci) (hok : blkC F.N F.scope scope own = true) (hcl : (cl.all fun x => scope.names.lookup x == some .cell) = true)
    (hg : JG (F.blk scope cl) (own.map (·.2)) tg cg) (ht : JTs (F.blk scope cl) ifs ct) (he : JE (F.blk scope cl) elt ce) (hs : ∀ (X : Cx) x, foldedSetIterable iter X.env x = pure x := by intro _ _; rfl) :
    JE F (.ListComp elt [⟨tg, iter, ifs, 0⟩] scope pos) (cLcH (own.map (·.2)) ci cg ct ce) := by
  intro W X ok
  have fc : ∀ (s : Shared) (H : Hp) (C : Addr) (cs : List (Str × Addr)) (fp : List Addr), FnC (F.blk scope cl) (X.blk s H scope (compEnvC scope cs C X.env) fp) := fun _ _ _ _ _ => .inr fun x hx => List.all_eq_true.mp hcl x hx
  refine PE.imp (pe_lc ok.calm (by rw [ok.N]; exact ok.nd) (PI.sz (hi W X ok)) (blkOk_by (by rw [ok.N, ok.sc]; exact hok)) (fun s H C cs fp => hg W0 _ ok.blk (fc s H C cs fp)) (fun s H C cs fp => ht W0 _ ok.blk) (fun s H C cs fp => he W0 _ ok.blk) (hs X)) ?_
  intro σ H Q h
  exact lc_read (Q := Q) ok.K h fun m m1 H H1 ds A1 D acc g1 hD rh1 hD1 hm1 dv q => lc_hot g1 hD rh1 hD1 hm1 dv q
theorem PS.frz {X : Cx} {st : Stmt} {t : TS} (h : PS X st t) : PS X st (fun D σ H => t { D with nx := fun σ' H' => ∃ p xs, H' p = some (.lst xs) ∧ ∀ o, D.nx σ' (upd H' p (.frz o (.lst xs))) } σ H) := by
  refine ⟨fun pins s σ H D I q => thn (h.run pins s σ H _ I q) fun f s' hs => ?_⟩
  cases f with
  | next =>
    obtain ⟨σ', H', I', p, xs, e2, k⟩ := hs
    obtain ⟨od, I2⟩ := I'.lock e2 trivial
    exact ⟨σ', _, I2, k od⟩
  | brk => exact hs
  | cont => exact hs
  | ret u => exact hs
/-- name = [..], never changed -/
theorem js_setLc {i : Nat} {y : Str} {py : Pos} {elt tg iter : Expr} {ifs : List Expr} {scope : Scope} {own : List (Str × Nat)} {cl : List Str} {ci : CI} {cg : CG} {ct : CB} {ce : CE} {spos : Pos} (hy : F.N[i]? = some y) (hyl : F.scope.names.lookup y = some .local)
    (hi : JI F tg iter ci) (hok : blkC F.N F.scope scope own = true) (hcl : (cl.all fun x => scope.names.lookup x == some .cell) = true)
    (hg : JG (F.blk scope cl) (own.map (·.2)) tg cg) (ht : JTs (F.blk scope cl) ifs ct) (he : JE (F.blk scope cl) elt ce) (hk : F.scope.kind = .function) (hl : (py.line == pos.line) = true) (ha : (scope.names.any fun (n, k) => n == y && (k == .local || k == .cell)) = false)
    (hs : ∀ (X : Cx) x, foldedSetIterable iter X.env x = pure x := by intro _ _; rfl) :
    JS' F (.Assign [.Name y py] (.ListComp elt [⟨tg, iter, ifs, 0⟩] scope pos) spos) (cSet i (cLc (own.map (·.2)) ci cg ct ce)) := by
  intro W X ok
  have fc : ∀ (s : Shared) (H : Hp) (C : Addr) (cs : List (Str × Addr)) (fp : List Addr), FnC (F.blk scope cl) (X.blk s H scope (compEnvC scope cs C X.env) fp) := fun _ _ _ _ _ => .inr fun x hx => List.all_eq_true.mp hcl x hx
  refine PS.imp (PS.frz (ps_setLc ok.calm (by rw [ok.N]; exact ok.nd) (by rw [ok.N]; exact hy) (by rw [ok.sc]; exact hyl) (sw_true (by rw [ok.sc]; exact hk) (by rw [ok.sc]; exact hyl) hl ha) (PI.sz (hi W X ok.toOk)) (blkOk_by (by rw [ok.N, ok.sc]; exact hok)) (fun s H C cs fp => hg W0 _ ok.toOk.blk (fc s H C cs fp)) (fun s H C cs fp => ht W0 _ ok.toOk.blk) (fun s H C cs fp => he W0 _ ok.toOk.blk) (hs X))) ?_
  intro D σ H h
  obtain ⟨m, E, A, rh, rs, q⟩ := h
  -- an assignment's end as a value's
  have key : Tx (rE F.g) F.g W (fun E A => (cLcI (own.map (·.2)) ci cg ct ce E A).bind fun ds A1 => .ok (.lst ds) A1) σ H (fun v H' => D.nx (σ.set i (some v)) H') := by
    refine ⟨m, E, A, rh, rs, ?_⟩
    have q : PoS F.g m H W (RSt.of (cLc (own.map (·.2)) ci cg ct ce E A) E fun d A1 => .nx (E.set i (some d)) A1) D := q
    have e : cLc (own.map (·.2)) ci cg ct ce E A = (cLcI (own.map (·.2)) ci cg ct ce E A).bind fun ds A1 => .ok (.lst ds) A1 := rfl
    rw [e] at q
    exact PoS.bind rs q fun m1 H1 d x A1 g1 rh1 dx q1 => q1.nx rh1 ((rs.mono g1).set i dx)
  refine lc_read (Q := fun v H' => ∃ p xs, H' p = some (.lst xs) ∧ ∀ o, D.nx (σ.set i (some v)) (upd H' p (.frz o (.lst xs)))) ok.K key fun m m1 H H1 ds A1 D0 acc g1 hD rh1 hD1 hm1 dv q => ⟨D0, acc, hD1, fun o => ?_⟩
  have z := Po.ok' (b := V.ref D0) (Q := fun v H' => D.nx (List.set σ i (some v)) H') q (Gr.chgOut (o := .frz o (.lst acc)) g1 hD) (rh1.chgOut ⟨_, hD1⟩ hm1) (DV.lst (.inl ⟨o, upd_same, hm1⟩) (dv.chg ⟨_, hD1⟩))
  exact z
theorem js_setLcH {i : Nat} {y : Str} {py : Pos} {elt tg iter : Expr} {ifs : List Expr} {scope : Scope} {own : List (Str × Nat)} {cl : List Str} {ci : CI} {cg : CG} {ct : CB} {ce : CE} {spos : Pos} (hy : F.N[i]? = some y) (hyl : F.scope.names.lookup y = some .local)
    (hi : JI F tg iter ci) (hok : blkC F.N F.scope scope own = true) (hcl : (cl.all fun x => scope.names.lookup x == some .cell) = true)
    (hg : JG (F.blk scope cl) (own.map (·.2)) tg cg) (ht : JTs (F.blk scope cl) ifs ct) (he : JE (F.blk scope cl) elt ce) (hk : F.scope.kind = .function) (hl : (py.line == pos.line) = true) (ha : (scope.names.any fun (n, k) => n == y && (k == .local || k == .cell)) = false)
    (hs : ∀ (X : Cx) x, foldedSetIterable iter X.env x = pure x := by intro _ _; rfl) :
    JS' F (.Assign [.Name y py] (.ListComp elt [⟨tg, iter, ifs, 0⟩] scope pos) spos) (cSet i (cLcH (own.map (·.2)) ci cg ct ce)) := by
  intro W X ok
  have fc : ∀ (s : Shared) (H : Hp) (C : Addr) (cs : List (Str × Addr)) (fp : List Addr), FnC (F.blk scope cl) (X.blk s H scope (compEnvC scope cs C X.env) fp) := fun _ _ _ _ _ => .inr fun x hx => List.all_eq_true.mp hcl x hx
  refine PS.imp (ps_setLc ok.calm (by rw [ok.N]; exact ok.nd) (by rw [ok.N]; exact hy) (by rw [ok.sc]; exact hyl) (sw_true (by rw [ok.sc]; exact hk) (by rw [ok.sc]; exact hyl) hl ha) (PI.sz (hi W X ok.toOk)) (blkOk_by (by rw [ok.N, ok.sc]; exact hok)) (fun s H C cs fp => hg W0 _ ok.toOk.blk (fc s H C cs fp)) (fun s H C cs fp => ht W0 _ ok.toOk.blk) (fun s H C cs fp => he W0 _ ok.toOk.blk) (hs X)) ?_
  intro D σ H h
  obtain ⟨m, E, A, rh, rs, q⟩ := h
  have key : Tx (rE F.g) F.g W (fun E A => (cLcI (own.map (·.2)) ci cg ct ce E A).bind fun ds A1 => .ok (.ref A1.length) (A1 ++ [.lst ds])) σ H (fun v H' => D.nx (σ.set i (some v)) H') := by
    refine ⟨m, E, A, rh, rs, ?_⟩
    have q : PoS F.g m H W (RSt.of (cLcH (own.map (·.2)) ci cg ct ce E A) E fun d A1 => .nx (E.set i (some d)) A1) D := q
    have e : cLcH (own.map (·.2)) ci cg ct ce E A = (cLcI (own.map (·.2)) ci cg ct ce E A).bind fun ds A1 => .ok (.ref A1.length) (A1 ++ [.lst ds]) := rfl
    rw [e] at q
    exact PoS.bind rs q fun m1 H1 d x A1 g1 rh1 dx q1 => q1.nx rh1 ((rs.mono g1).set i dx)
  exact lc_read (Q := fun v H' => D.nx (σ.set i (some v)) H') ok.K key fun m m1 H H1 ds A1 D0 acc g1 hD rh1 hD1 hm1 dv q => lc_hot g1 hD rh1 hD1 hm1 dv q
noncomputable abbrev PM := D → List D → HA → Option (D × HA)
noncomputable def PoO (g : G) (m : List Addr) (H : Hp) (o : Option (D × HA)) (Q : VK) : Prop := match o with
  | some (d, h) => ∀ m' b H', Gr m m' H H' → RH g H' m' h → DV g H' m' d b → Q b H'
  | none => False
noncomputable def rOf (o : Option (D × HA)) : R D := match o with
  | some (d, h) => .ok d h
  | none => .no
theorem PoO.of {g : G} {m : List Addr} {H : Hp} {o : Option (D × HA)} {W : WX} {σ : St} {Q : VK} (h : Po (rE g) g m H W σ (rOf o) Q) : PoO g m H o Q := by
  cases o with
  | none => exact h
  | some p => exact h
noncomputable def MtF (g : G) (T : String) (id : String) (p : PM) : Prop := ∀ (X : Cx), X.K = g.K → X.prog = g.prog → X.w = g.w → X.calm = true → X.A.units + 200 < cLine → ∀ (pins : List (Addr × Obj)) (s : Shared) (σ : St) (H : Hp) (m : List Addr) (A : HA) (d : D) (ds : List D) (x : V) (xs : List V) (v : Value) (us : List Value) (Q : VK),
  Inv X pins σ H s → RH g H m A → DV g H m d x → DVs g H m ds xs → RelV x v → Vals xs us → PoO g m H (p d ds A) Q → wpAny (model X.prog X.w) X.A (call (.builtin id) (v :: us)) (EP X pins σ Q) X.xe s
/-- d is of the built-in type T -/
noncomputable def isT (T : String) (A : HA) (d : D) : Bool := match d with
  | .str _ => T == "str"
  | .lst _ => T == "list"
  | .ref a => match A[a]? with
    | some (.lst _) => T == "list"
    | some (.dct false _) => T == "dict"
    | _ => false
  | _ => false
theorem isT_rel {g : G} {H : Hp} {m : List Addr} {A : HA} {d : D} {v : V} {T : String} (rh : RH g H m A) (r : DV g H m d v) (h : isT T A d = true) : tyV g.K T v H := by
  cases r with
  | str x => exact beq_iff_eq.mp h
  | lst h1 h2 => exact .inl ⟨beq_iff_eq.mp h, _, sqL_of h1⟩
  | ref hp =>
    rename_i a p
    have h : (match A[a]? with
      | some (.lst _) => T == "list"
      | some (.dct false _) => T == "dict"
      | _ => false) = true := h
    split at h
    · rename_i hd
      obtain ⟨q, hq, vs, h1, h2⟩ := rh.get hd
      rw [hp] at hq; cases hq
      exact .inl ⟨beq_iff_eq.mp h, vs, SqL.of h1⟩
    · rename_i hd
      obtain ⟨q, hq, ks, h1, h2⟩ := rh.get hd
      rw [hp] at hq; cases hq
      exact .inr (.inr (.inl ⟨beq_iff_eq.mp h, .inl ⟨ks, h1⟩⟩))
    · cases h
  | _ => cases h
noncomputable def cMeth (T : String) (p : PM) (co : CE) (ca : CA) : CE := fun E A => (co E A).bind fun d A1 => if isT T A1 d = true then (ca E A1).bind fun ds A2 => rOf (p d ds A2) else .no
theorem je_meth {T id : String} {name : Str} {o e : Expr} {es : List Expr} {co : CE} {ca : CA} {p : PM} {apos : Pos} (hm : MtF F.g T id p) (pa : PlainAttrs T) (slot : Slot T name id) (hty : typeOf (.builtin id) = pure (.type "method_descriptor")) (ho : JE F o co) (ha : JA F (e :: es) ca)
    (hbase : ∀ X : Cx, attributeBase o name X.env (eval o X.env) = eval o X.env := by intro _; rfl)
    (hfew : ∀ X : Cx, ((backTo pos (starEach (e :: es) X.env)).all (fun x => !x.1) && (backToKw pos (keywordEach [] X.env)).all (fun x => x.1.isSome)
      && decide ((e :: es).length + ([] : List Keyword).length + (if ([] : List Keyword).isEmpty then 0 else 1) < 30)) = true := by intro _; rfl)
    (hline : (apos.endLine == pos.line) = true := by rfl) (hs : ∀ X : Cx, starEach (e :: es) X.env = (false, eval e X.env) :: starEach es X.env := by intro _; rfl) (hplain : ∀ X : Cx, (backTo pos (starEach es X.env)).any (·.1) = false := by intro _; rfl) :
    JE F (.Call (.Attribute o name apos) (e :: es) [] pos) (cMeth T p co ca) := by
  intro W X ok
  refine ⟨fun pins s σ H Q I h => ?_⟩
  obtain ⟨m, E, A, rh, rs, q⟩ := h
  refine wpAny_Call_method_late (hbase X) (hfew X) hline rfl (thn ((ho W X ok).run pins s σ H (fun x H1 => ∃ m1 d A1, RH F.g H1 m1 A1 ∧ RS F.g H1 m1 E σ ∧ DV F.g H1 m1 d x ∧ Po (rE F.g) F.g m1 H1 W σ (if isT T A1 d = true then (ca E A1).bind fun ds A2 => rOf (p d ds A2) else .no) Q) I
    ⟨m, E, A, rh, rs, Po.bind q fun m1 H1 d x A1 g1 rh1 dx q1 => ⟨m1, d, A1, rh1, rs.mono g1, dx, q1⟩⟩) fun v s1 ⟨x, H1, I1, r1, m1, d, A1, rh1, rs1, dx, q1⟩ => ?_)
  split at q1
  · rename_i hT
    have ty : tyV X.K T x H1 := by rw [ok.K]; exact isT_rel rh1 dx hT
    obtain ⟨h1, h2⟩ := tyV_is I1 r1 ty
    refine ⟨T, id, pa, slot, hty, h1, h2, ?_⟩
    have hA := (ha W X ok).run pos pins s1 σ H1 (fun xs H2 => ∃ m2 ds A2, Gr m1 m2 H1 H2 ∧ RH F.g H2 m2 A2 ∧ DVs F.g H2 m2 ds xs ∧ PoO F.g m2 H2 (p d ds A2) Q) I1 ⟨m1, E, A1, rh1, rs1, ?_⟩
    · rw [hs X] at hA ⊢
      refine Calls.callWith_builtin (by show (false || (backTo pos (starEach es X.env)).any (·.1)) = false; rw [hplain X] <;> rfl) (Calls.evalArgs_plain ?_)
      exact thn hA fun us s2 ⟨xs, H2, I2, r2, m2, ds, A2, g2, rh2, dxs, q2⟩ => hm X ok.K ok.prog ok.w ok.calm (by have := ok.room.un; omega) pins s2 σ H2 m2 A2 d ds x xs v us Q I2 rh2 (dx.mono g2) dxs r1 r2 q2
    · have hb : ∀ (r : R (List D)) (q : Po (rE F.g) F.g m1 H1 W σ (r.bind fun ds A2 => rOf (p d ds A2)) Q), Po (rA F.g) F.g m1 H1 W σ r (fun xs H2 => ∃ m2 ds A2, Gr m1 m2 H1 H2 ∧ RH F.g H2 m2 A2 ∧ DVs F.g H2 m2 ds xs ∧ PoO F.g m2 H2 (p d ds A2) Q) := fun r q =>
        Po.bind q fun m2 H2 ds xs A2 g2 rh2 dxs q2 => ⟨m2, ds, A2, g2, rh2, dxs, PoO.of q2⟩
      exact hb _ q1
  · exact q1.elim
end Sm
namespace Sm
open PySem PySem.Spec PyProof.Rows L2
variable {F : F} {pos : Pos}
noncomputable def pAppend : PM := fun d ds A => match d, ds with
  | .ref a, [v] => match A[a]? with
    | some (.lst xs) => if xs.length < sizeLine then some (.non, A.set a (.lst (xs ++ [v]))) else none
    | _ => none
  | _, _ => none
theorem mtF_append {g : G} : MtF g "list" "list.append" pAppend := by
  intro X hK hp hw hc hu pins s σ H m A d ds x xs v us Q I rh dx dxs rx rxs q
  unfold pAppend at q
  split at q
  · rename_i a e
    obtain ⟨p, rfl, hp'⟩ := dx.ref_inv
    obtain ⟨y, rfl, dy⟩ := dxs.one
    split at q
    · rename_i zs hd
      obtain ⟨p', hq, vs, h1, h2⟩ := rh.get hd
      rw [hp'] at hq; cases hq
      split at q
      · rename_i hz
        refine mt_append pins s σ H _ _ v us Q I rx rxs ⟨p, vs, y, rfl, rfl, h1, by rw [← h2.length]; exact hz, ?_⟩
        have gr : Gr m m H (upd H p (.lst (vs ++ [y]))) := Gr.chg hp' ⟨_, h1, by simp⟩
        exact q m .non _ gr (rh.set hp' ⟨_, h1⟩ ⟨_, upd_same, (h2.mono gr).append (.cons (dy.mono gr) .nil)⟩) .non
      · exact q.elim
    · exact q.elim
  · exact q.elim
noncomputable def lenOf (A : HA) : D → Option Int
  | .str x => if x.length ≤ sizeLine then some x.length else none
  | .tup ds => some ds.length
  | d => (listOf A d).map fun ds => (ds.length : Int)
noncomputable def pLen : PF := fun ds A => match ds with
  | [d] => match lenOf A d with
    | some n => .ok (.int n) A
    | none => .no
  | _ => .no
theorem callF_len {g : G} : CallF g (.builtin "len") pLen := by
  refine callF_of (fun X hK _ => hK ▸ call_len) ?_
  intro W σ m H A ds vs Q rh dv q sz
  unfold pLen at q
  split at q
  · rename_i d
    obtain ⟨v, rfl, dv1⟩ := dv.one
    split at q
    · rename_i n hn
      have q1 := Po.ok (b := V.int n) q rh (.int _)
      unfold lenOf at hn
      split at hn
      · rename_i x
        split at hn
        · rename_i hz
          cases hn
          have := dv1.str_inv; subst this
          exact ⟨_, x.length, rfl, ⟨hz, rfl⟩, q1⟩
        · cases hn
      · cases hn
        cases dv1 with
        | tup h hs => exact ⟨_, _, rfl, .inr ⟨_, sqT_of h, rfl⟩, by rw [← hs.length]; exact q1⟩
      · obtain ⟨ds, h1, rfl⟩ := Option.map_eq_some_iff.mp hn
        obtain ⟨p, vs, rfl, s, r⟩ := listOf_rel rh dv1 h1
        exact ⟨_, _, rfl, .inl ⟨vs, s, rfl⟩, by rw [← r.length]; exact q1⟩
    · exact q.elim
  · exact q.elim
noncomputable def pInt : PF := fun ds A => match ds with
  | [.int i] => .ok (.int i) A
  | [.bl b] => .ok (.int (if b then 1 else 0)) A
  | _ => .no
theorem callF_int {g : G} : CallF g (.type "int") pInt := by
  refine callF_of (fun X hK _ => call_int1) ?_
  intro W σ m H A ds vs Q rh dv q sz
  unfold pInt at q
  split at q
  · obtain ⟨v, rfl, dv1⟩ := dv.one
    have := dv1.int_inv; subst this
    exact .inl ⟨_, rfl, Po.ok q rh (.int _)⟩
  · obtain ⟨v, rfl, dv1⟩ := dv.one
    have := dv1.bl_inv; subst this
    exact .inr ⟨_, rfl, Po.ok q rh (.int _)⟩
  · exact q.elim
noncomputable def isNon : D → Bool
  | .non => true
  | _ => false
noncomputable def pIsN (neg : Bool) : P2 := fun d e A => match e with
  | .non => .ok (.bl (xor neg (isNon d))) A
  | _ => .no
theorem isNon_rel {g : G} {H : Hp} {m : List Addr} {d : D} {v : V} (r : DV g H m d v) : decide (v = .non) = isNon d := by
  cases r <;> first | rfl | exact decide_eq_false (fun h => nomatch h) | simp [isNon]
theorem opF_is {g : G} : OpF g (compareOp .Is) (pIsN false) := opF_of (fun X _ _ k _ => op_isN) (by
  intro W σ m H A d e x y Q rh dx dy q
  unfold pIsN at q
  split at q
  · cases dy
    refine ⟨rfl, ?_⟩
    rw [isNon_rel dx]
    have := Po.ok (b := V.bl (xor false (isNon d))) q rh (.bl _)
    rwa [Bool.false_xor] at this
  · exact q.elim)
theorem opF_isNot {g : G} : OpF g (compareOp .IsNot) (pIsN true) := opF_of (fun X _ _ k _ => op_notN) (by
  intro W σ m H A d e x y Q rh dx dy q
  unfold pIsN at q
  split at q
  · cases dy
    refine ⟨rfl, ?_⟩
    rw [isNon_rel dx]
    have := Po.ok (b := V.bl (xor true (isNon d))) q rh (.bl _)
    rwa [Bool.true_xor] at this
  · exact q.elim)
noncomputable def evalP : List (CE × CE) → SA → HA → R (List (D × D))
  | [], _, A => .ok [] A
  | p :: r, E, A => (p.1 E A).bind fun k A1 => (p.2 E A1).bind fun v A2 => (evalP r E A2).bind fun ps A3 => .ok ((k, v) :: ps) A3
noncomputable def mergeD (acc : List (D × D)) : List (D × D) → Option (List (D × D))
  | [] => some acc
  | p :: r => match toKey p.1 with
    | some k => mergeD (putD acc k p.1 p.2) r
    | none => none
noncomputable def cDisp (ps : List (CE × CE)) : CE := fun E A => (evalP ps E A).bind fun kvs A1 => match mergeD [] kvs with
  | some out => .ok (.ref A1.length) (A1 ++ [.dct false out])
  | none => .no
noncomputable def JP (F : Sm.F) (pos : Pos) (keys : List (Option Expr)) (values : List Expr) (ps : List (CE × CE)) : Prop := ∀ W X, Ok F W X → PPs X pos keys values (ps.map fun p => (TEx F.g W p.1, TEx F.g W p.2))
theorem jp_nil : JP F pos [] [] [] := fun W X ok => pps_nil
theorem jp_cons {k v : Expr} {ks : List (Option Expr)} {vs : List Expr} {ck cv : CE} {ps : List (CE × CE)} (hk : JE F k ck) (hv : JE F v cv) (hr : JP F pos ks vs ps) : JP F pos (some k :: ks) (v :: vs) ((ck, cv) :: ps) := fun W X ok => pps_cons (hk W X ok) (hv W X ok) (hr W X ok)
noncomputable abbrev rPs (g : G) : Rl (List (D × D)) (List (V × V)) := fun H m a b => Paired (fun p q => DV g H m p.1 q.1 ∧ DV g H m p.2 q.2) a b
theorem tPairs_of {g : G} {W : WX} {σ : St} {E : SA} {Q : List (V × V) → Hp → Prop} : ∀ (ps : List (CE × CE)) (m : List Addr) (H : Hp) (A : HA), RH g H m A → RS g H m E σ → Po (rPs g) g m H W σ (evalP ps E A) Q → tPairs (ps.map fun p => (TEx g W p.1, TEx g W p.2)) σ H Q
  | [], m, H, A, rh, rs, q => Po.ok (ρ := rPs g) q rh .nil
  | p :: r, m, H, A, rh, rs, q => by
    refine ⟨m, E, A, rh, rs, Po.bind (ρ := rE g) (show Po (rPs g) g m H W σ ((p.1 E A).bind fun k A1 => (p.2 E A1).bind fun v A2 => (evalP r E A2).bind fun ps A3 => .ok ((k, v) :: ps) A3) Q from q) fun m1 H1 k x A1 g1 rh1 dk q1 => ?_⟩
    refine ⟨m1, E, A1, rh1, rs.mono g1, Po.bind (ρ := rE g) q1 fun m2 H2 v y A2 g2 rh2 dv q2 => ?_⟩
    refine tPairs_of r m2 H2 A2 rh2 (rs.mono (g1.trans g2)) (Po.bind (ρ := rPs g) q2 fun m3 H3 ps ys A3 g3 rh3 dps q3 => ?_)
    exact Po.ok (ρ := rPs g) q3 rh3 (.cons ⟨dk.mono (g2.trans g3), dv.mono g3⟩ dps)
theorem mergeD_rel {g : G} {H : Hp} {m : List Addr} : ∀ {ps : List (D × D)} {ys : List (V × V)} {acc out : List (D × D)} {ks : List (Key × V)}, Paired (fun p q => DV g H m p.1 q.1 ∧ DV g H m p.2 q.2) ps ys → KVR g H m acc ks → mergeD acc ps = some out →
    ∃ kvs : List (Key × V), ys = kvs.map (fun kv => (kV kv.1, kv.2)) ∧ KVR g H m out (mergeK ks kvs)
  | _, _, acc, out, ks, .nil, r, e => by
    cases e
    exact ⟨[], rfl, r⟩
  | _, _, acc, out, ks, .cons (a := p) (b := q) h t, r, e => by
    unfold mergeD at e
    split at e
    · rename_i k hk
      obtain ⟨kvs, h1, h2⟩ := mergeD_rel t (putD_rel r hk h.2) e
      refine ⟨(k, q.2) :: kvs, ?_, h2⟩
      rw [List.map_cons, ← h1, ← toKey_rel hk h.1]
    · cases e
theorem je_disp {keys : List (Option Expr)} {values : List Expr} {ps : List (CE × CE)} (h : JP F pos keys values ps) (hall : keys.all (·.isSome) = true) (hl : keys.length = values.length) (h0 : keys ≠ []) (h15 : keys.length ≤ 15) (h16 : ps.length ≤ 15) : JE F (.Dict keys values pos) (cDisp ps) := by
  intro W X ok
  refine PE.imp (pe_disp (h W X ok) hall hl h0 h15) ?_
  rintro σ H Q ⟨m, E, A, rh, rs, q⟩
  intro p hp
  have gr : Gr m m H (upd H p (.dK [])) := Gr.new hp
  have q' : Po (rE F.g) F.g m H W σ ((evalP ps E A).bind fun kvs A1 => match mergeD [] kvs with
    | some out => .ok (.ref A1.length) (A1 ++ [.dct false out])
    | none => .no) Q := q
  have len : ∀ (ps : List (CE × CE)) (E : SA) (A A1 : HA) (kvs : List (D × D)), evalP ps E A = .ok kvs A1 → kvs.length = ps.length := by
    intro ps
    induction ps with
    | nil => intro E A A1 kvs e; cases e; rfl
    | cons p r ih =>
      intro E A A1 kvs e
      have e : ((p.1 E A).bind fun k A1 => (p.2 E A1).bind fun v A2 => (evalP r E A2).bind fun ps A3 => R.ok ((k, v) :: ps) A3) = .ok kvs A1 := e
      cases h1 : p.1 E A with
      | exc => rw [h1] at e; cases e
      | no => rw [h1] at e; cases e
      | ok k A2 =>
        rw [h1] at e
        simp only [R.bind] at e
        cases h2 : p.2 E A2 with
        | exc => rw [h2] at e; cases e
        | no => rw [h2] at e; cases e
        | ok v A3 =>
          rw [h2] at e
          simp only at e
          cases h3 : evalP r E A3 with
          | exc => rw [h3] at e; cases e
          | no => rw [h3] at e; cases e
          | ok kvs' A4 =>
            rw [h3] at e
            simp only [R.ok.injEq] at e
            rw [← e.1, List.length_cons, List.length_cons, ih _ _ _ _ h3]
  refine tPairs_of ps m _ A (rh.upd hp) (rs.mono gr) ?_
  cases hev : evalP ps E A with
  | exc c ds h => rw [hev] at q'; exact Po.from gr (r := R.exc c ds h) (ρ := rE F.g) (α := D) q'
  | no => rw [hev] at q'; exact q'.elim
  | ok kvs A1 =>
    rw [hev] at q'
    have hl := len _ _ _ _ _ hev
    intro m1 ys H1 g1 rh1 dps
    have g01 := gr.trans g1
    have e1 : H1 p = some (.dK []) := g1.keep p _ upd_same (rh.new hp)
    have q' : Po (rE F.g) F.g m H W σ (match mergeD [] kvs with | some out => .ok (.ref A1.length) (A1 ++ [.dct false out]) | none => .no) Q := q'
    cases hm : mergeD [] kvs with
    | none => rw [hm] at q'; exact q'.elim
    | some out =>
      rw [hm] at q'
      obtain ⟨ks, h1, h2⟩ := mergeD_rel dps (.nil : KVR F.g H1 m1 [] []) hm
      refine ⟨e1, ks, h1, ?_, ?_⟩
      · have := Paired.length dps
        rw [h1, List.length_map] at this
        omega
      · have hm1 : p ∉ m1 := g1.notin upd_same (rh.new hp)
        have rh2 := RH.more (o := .dct false []) e1 (u := .dK []) True.intro hm1 rh1 ⟨[], e1, .nil⟩
        have hp2 := rh2.at_new
        have g2 : Gr (m1 ++ [p]) (m1 ++ [p]) H1 (upd H1 p (.dK (mergeK [] ks))) := Gr.chg hp2 ⟨_, e1, by simp⟩
        have rh3 := rh2.set (o := .dct false out) hp2 ⟨_, e1⟩ (u := .dK (mergeK [] ks)) ⟨_, upd_same, Paired.mapR h2 fun _ _ z => ⟨z.1, (z.2.more e1 (u := .dK []) True.intro).mono g2⟩⟩
        have e3 : (A1 ++ [AO.dct false []]).set A1.length (.dct false out) = A1 ++ [.dct false out] := by simp
        rw [e3] at rh3
        exact Po.ok' (b := V.ref p) q' ((g01.more hp).trans g2) rh3 (.ref hp2)
noncomputable def kdOf (A : HA) : D → Option (String ⊕ Nat)
  | .non => some (.inl "NoneType")
  | .bl _ => some (.inl "bool")
  | .int _ => some (.inl "int")
  | .str _ => some (.inl "str")
  | .tup _ => some (.inl "tuple")
  | .lst _ => some (.inl "list")
  | .dct _ _ => some (.inl "dict")
  | .ref a => match A[a]? with
    | some (.lst _) => some (.inl "list")
    | some (.dct false _) => some (.inl "dict")
    | some (.dtt false _) => some (.inl "dict")
    | some (.ins c _) => some (.inr (1000 + c))
    | _ => none
  | .exc c _ => if c < 1000 then some (.inr c) else none
  | _ => none
noncomputable def kdC : D → Option (String ⊕ Nat)
  | .ty n => some (.inl n)
  | .cls c => if c < 1000 then some (.inr c) else none
  | _ => none
noncomputable def vOf (g : G) : String ⊕ Nat → Value
  | .inl n => .type n
  | .inr c => .ref (g.ca (if c < 1000 then c else c - 1000))
/-- what is known of an own exception class as a value's class -/
structure XFa (g : G) (c : Nat) : Prop where
  hcl : (PySem.W.clsIn g.K (g.ca c)).isSome = true
  ga : PySem.W.findIn g.K (.ref (g.ca c)) "__getattribute__" = some (some (.builtin "BaseException.__getattribute__"))
  gt : ∃ gt, PySem.W.findIn g.K (.ref (g.ca c)) "__getattr__" = some gt
  sub : PySem.W.subIn g.K (.ref (g.ca c)) (.type "BaseException") = some true
  cl : PySem.W.findIn g.K (.ref (g.ca c)) "__class__" = some (some (.builtin "object.__class__"))
  mro : PySem.W.mroIn g.K (g.ca c) (.type "object") = some true
  hd : PySem.W.hasDictIn g.K (g.ca c) = true
  no : ∀ n ∈ g.ef c, PySem.W.findIn g.K (.ref (g.ca c)) n = some none
/-- .. of an own class of instances -/
structure IFa (g : G) (c : Nat) : Prop where
  cl : Cls g.K (g.ca c)
  ha : PySem.W.findIn g.K (.ref (g.ca c)) "__class__" = some (some (.builtin "object.__class__"))
  mro : PySem.W.mroIn g.K (g.ca c) (.type "object") = some true
structure IsaOk (g : G) : Prop where
  isa : ∀ a b r, g.isa a b = some r → PySem.W.kitOne g.K (vOf g a) (vOf g b) = some r
  sp : PySem.W.specialIn g.K (.builtin "object.__class__") "__get__" = some (some (.builtin "getset_descriptor.__get__"))
  tk : PySem.W.takesIn g.K (.builtin "object.__class__") = some true
  xc : ∀ c a b, g.isa (.inr c) a = some b → c < 1000 → XFa g c
  ic : ∀ c a b, g.isa (.inr (1000 + c)) a = some b → IFa g c
noncomputable def pIsa (isa : String ⊕ Nat → String ⊕ Nat → Option Bool) : PF := fun ds A => match ds with
  | [d, c] => match kdOf A d, kdC c with
    | some k, some k' => match isa k k' with
      | some b => .ok (.bl b) A
      | none => .no
    | _, _ => .no
  | _ => .no
theorem kdC_rel {g : G} {H : Hp} {m : List Addr} {d : D} {v : V} {k : String ⊕ Nat} {u : Value} (r : DV g H m d v) (h : kdC d = some k) (ru : RelV v u) : u = vOf g k := by
  cases r <;> first | cases h | skip
  · exact ru
  · rename_i c
    have h : (if c < 1000 then some (Sum.inr c : String ⊕ Nat) else none) = some k := h
    split at h
    · rename_i hc
      cases h
      show u = .ref (g.ca (if c < 1000 then c else c - 1000))
      rw [if_pos hc]
      exact ru
    · cases h
theorem kit_D {g : G} {X : Cx} {pins : List (Addr × Obj)} {σ : St} {H : Hp} {s : Shared} {m : List Addr} {A : HA} {d : D} {v : V} {u : Value} {k : String ⊕ Nat} (io : IsaOk g) (xf : ∀ c, k = .inr c → c < 1000 → XFa g c) (ic : ∀ c, k = .inr (1000 + c) → IFa g c) (hK : X.K = g.K) (I : Inv X pins σ H s) (rh : RH g H m A) (dv : DV g H m d v) (rv : RelV v u) (h : kdOf A d = some k) :
    ∃ P : Heap → Prop, PySem.W.KitX g.K u (vOf g k) P ∧ P s.heap ∧ u ≠ .builtin "__main__.__loader__#opaque" := by
  have base : ∀ {t : Value}, TyX X.K H v t → ∃ P : Heap → Prop, PySem.W.KitX g.K u t P ∧ P s.heap ∧ u ≠ .builtin "__main__.__loader__#opaque" := fun {t} ty => by
    have := kit_of I rv ty
    rw [hK] at this
    exact this
  cases dv with
  | non => cases h; exact base (.base .non)
  | bl b => cases h; exact base (.base (.bl b))
  | int i => cases h; exact base (.base (.int i))
  | str x => cases h; exact base (.base (.str x))
  | tup h1 hs =>
    cases h
    rcases h1 with h1 | ⟨o, its, n, e1, e2, _⟩
    · obtain ⟨o, h1, _⟩ := h1; exact base (.fTuple h1)
    · exact base (.kTuple (by rw [hK]; exact e1) e2)
  | lst h1 hs =>
    cases h
    rcases h1 with ⟨o, h1, _⟩ | ⟨o, its, n, e1, e2, _⟩
    · exact base (.base (.frz h1))
    · exact base (.kList (by rw [hK]; exact e1) e2)
  | dct h1 hl hs =>
    cases h
    obtain ⟨o, h1, _⟩ := h1
    exact base (.fDict h1)
  | ref hp =>
    rename_i a p
    have h : (match A[a]? with
      | some (.lst _) => some (Sum.inl "list")
      | some (.dct false _) => some (Sum.inl "dict")
      | some (.dtt false _) => some (Sum.inl "dict")
      | some (.ins c _) => some (Sum.inr (1000 + c))
      | _ => none) = some k := h
    split at h
    · rename_i hd
      cases h
      obtain ⟨q, hq, vs, h1, h2⟩ := rh.get hd
      rw [hp] at hq; cases hq
      exact base (.base (.lst h1))
    · rename_i hd
      cases h
      obtain ⟨q, hq, ks, h1, h2⟩ := rh.get hd
      rw [hp] at hq; cases hq
      exact base (.base (.dK h1))
    · rename_i hd
      cases h
      obtain ⟨q, hq, ks, h1, h2⟩ := rh.get hd
      rw [hp] at hq; cases hq
      obtain rfl : u = Value.ref p := rv
      obtain ⟨⟨_, _, o, _, _, _, e1, e2, _⟩, _⟩ := I.hok p _ h1
      exact ⟨_, PySem.W.kitx_dict, ⟨o, e1, e2.1⟩, fun z => nomatch z⟩
    · rename_i c fs hd
      cases h
      obtain ⟨q, hq, dd, us, h1, h2⟩ := rh.get hd
      rw [hp] at hq; cases hq
      obtain ⟨k1, k2, k3⟩ := ic c rfl
      show ∃ P : Heap → Prop, PySem.W.KitX g.K u (.ref (g.ca (if 1000 + c < 1000 then 1000 + c else 1000 + c - 1000))) P ∧ P s.heap ∧ u ≠ .builtin "__main__.__loader__#opaque"
      rw [if_neg (by omega), Nat.add_sub_cancel_left]
      exact base (.base (.ins h1 (by rw [hK]; exact k1) (by rw [hK]; exact k2) (by rw [hK]; exact io.sp) (by rw [hK]; exact io.tk) (by rw [hK]; exact k3)))
    · cases h
  | cls => cases h
  | fn => cases h
  | ty => cases h
  | lam => cases h
  | wtp => cases h
  | exc h1 h2 h3 h4 h6 h5 =>
    rename_i c ds vs p q
    have h : (if c < 1000 then some (Sum.inr c : String ⊕ Nat) else none) = some k := h
    split at h
    rotate_left
    · cases h
    rename_i hc
    cases h
    obtain rfl : u = _ := rv
    have xf := xf c rfl hc
    show ∃ P : Heap → Prop, PySem.W.KitX g.K (.ref p) (.ref (g.ca (if c < 1000 then c else c - 1000))) P ∧ P s.heap ∧ Value.ref p ≠ .builtin "__main__.__loader__#opaque"
    rw [if_pos hc]
    obtain ⟨gt, hgt⟩ := xf.gt
    obtain ⟨⟨oe, fs, e1, hz, e2⟩, _⟩ := I.hok p _ h1
    obtain ⟨mA, hns, hr⟩ := I.hok q _ h3
    obtain ⟨od, ho, hl⟩ := lookIn_ns hns
    exact ⟨_, PySem.W.kitx_exc xf.hcl xf.ga hgt xf.sub xf.cl io.sp io.tk xf.mro, (⟨e1, hz.1, by unfold PySem.W.notCls; rw [e2] <;> rfl, by rw [hz.2]; exact ho⟩ : PySem.W.InstAt s.heap p oe (g.ca c) (some od)), fun z => nomatch z⟩
theorem callF_isa {g : G} {isa : String ⊕ Nat → String ⊕ Nat → Option Bool} (io : IsaOk g) (ei : g.isa = isa) : CallF g (.builtin "isinstance") (pIsa isa) := by
  subst ei
  intro F W X e ok pins s σ H m A ds vs us Q I rh dv r q
  have hK : X.K = g.K := ok.K.trans (congrArg G.K e)
  unfold pIsa at q
  split at q
  · rename_i d c
    obtain ⟨v, v', rfl, d1, d2⟩ := dv.two
    obtain ⟨u, u', rfl, r1, r2⟩ := vals2 r
    split at q
    · rename_i k k' hk hk'
      split at q
      · rename_i b hb
        have e2 := kdC_rel d2 hk' r2
        subst e2
        obtain ⟨P, Z, p, hx⟩ := kit_D io (fun c e hc => io.xc c _ _ (e ▸ hb) hc) (fun c e => io.ic c _ _ (e ▸ hb)) hK I rh d1 r1 hk
        exact PySem.W.kia_one Z (hK ▸ I.kIn) p (io.isa _ _ _ hb) hx fun tk => ⟨.bl b, H, I.tok tk, rfl, Po.ok q rh (.bl _)⟩
      · exact q.elim
    · exact q.elim
  · exact q.elim
noncomputable def lookS (n : Str) : List Str → List D → Option D
  | k :: ks, d :: ds => if n = k then some d else lookS n ks ds
  | _, _ => none
noncomputable def cXat (ef : Nat → List Str) (n : Str) (ce : CE) : CE := fun E A => (ce E A).bind fun d A1 => match d with
  | .exc c ds => match lookS n (ef c) ds with
    | some x => .ok x A1
    | none => .no
  | _ => .no
theorem lookS_rel {g : G} {H : Hp} {m : List Addr} {n : Str} {d : D} : ∀ {ks : List Str} {ds : List D} {vs : List V}, DVs g H m ds vs → lookS n ks ds = some d → n ∈ ks ∧ ∃ v, (ks.zip vs).lookup n = some v ∧ DV g H m d v
  | [], _, _, _, e => by simp [lookS] at e
  | k :: ks, _, _, .nil, e => by simp [lookS] at e
  | k :: ks, _, _, .cons h t, e => by
    unfold lookS at e
    by_cases hn : n = k
    · rw [if_pos hn] at e
      cases e
      subst hn
      exact ⟨List.mem_cons_self, _, by simp [List.zip_cons_cons, List.lookup], h⟩
    · rw [if_neg hn] at e
      obtain ⟨h1, v, h2, h3⟩ := lookS_rel t e
      refine ⟨List.mem_cons_of_mem _ h1, v, ?_, h3⟩
      rw [List.zip_cons_cons, List.lookup_cons, beq_eq_false_iff_ne.mpr hn]
      exact h2
theorem je_xat {e : Expr} {n : Str} {ce : CE} {ef : Nat → List Str} (ee : F.g.ef = ef) (xf : ∀ c, n ∈ F.g.ef c → XFa F.g c) (he : JE F e ce) (hb : ∀ X : Cx, attributeBase e n X.env (eval e X.env) = eval e X.env := by intro _; rfl) : JE F (.Attribute e n pos) (cXat ef n ce) := by
  subst ee
  intro W X ok
  refine ⟨fun pins s σ H Q I h => ?_⟩
  obtain ⟨m, E, A, rh, rs, q⟩ := h
  refine attr_of (hb X) (thn ((he W X ok).run pins s σ H (fun x H1 => ∃ m1 d A1, RH F.g H1 m1 A1 ∧ DV F.g H1 m1 d x ∧ Po (rE F.g) F.g m1 H1 W σ (match d with
    | .exc c ds => match lookS n (F.g.ef c) ds with
      | some x => .ok x A1
      | none => .no
    | _ => .no) Q) I ⟨m, E, A, rh, rs, Po.bind q fun m1 H1 d x A1 g1 rh1 dx q1 => ⟨m1, d, A1, rh1, dx, q1⟩⟩) fun u s1 ⟨x, H1, I1, rx, m1, d, A1, rh1, dx, q1⟩ => ?_)
  split at q1
  · rename_i c ds
    split at q1
    · rename_i y hy
      cases dx with
      | exc h1 h2 h3 h4 h6 h5 =>
      rename_i vs p dd
      obtain rfl : u = _ := rx
      obtain ⟨hn, v, hl, dv⟩ := lookS_rel h5 hy
      have xf := xf c hn
      obtain ⟨gt, hgt⟩ := xf.gt
      obtain ⟨⟨oe, fs, e1, hz, e2⟩, _⟩ := I1.hok p _ h1
      obtain ⟨mA, hns, hr⟩ := I1.hok dd _ h3
      obtain ⟨od, ho, hlk⟩ := lookIn_ns hns
      obtain ⟨w, hu, ru⟩ := RelO.some_of (v := v) (o := mA n) (by rw [← hl]; exact hr n)
      have J : PySem.W.InstAt s1.heap p oe (F.g.ca c) (some od) := ⟨e1, hz.1, by unfold PySem.W.notCls; rw [e2] <;> rfl, by rw [hz.2]; exact ho⟩
      have kin : F.g.K.In s1.heap := ok.K ▸ I1.kIn
      exact HandSPX.exc_get kin J xf.ga hgt xf.sub (PySem.W.findObj_own xf.hd (xf.no n hn) rfl (by rw [hlk, hu])) (handed_of ru) ⟨v, H1, I1.tok _, ru, Po.ok q1 rh1 dv⟩
    · exact q1.elim
  · exact q1.elim
noncomputable def enumD : Nat → List D → List D
  | _, [] => []
  | i, d :: ds => .wtp [.int (i : Nat), d] :: enumD (i + 1) ds
theorem enumD_get : ∀ (ds : List D) (k i : Nat), (enumD k ds)[i]? = (ds[i]?).map fun d => D.wtp [.int ((k + i : Nat) : Int), d]
  | [], k, i => by simp [enumD]
  | d :: ds, k, 0 => by simp [enumD]
  | d :: ds, k, i + 1 => by
    unfold enumD
    rw [List.getElem?_cons_succ, List.getElem?_cons_succ, enumD_get ds (k + 1) i]
    have : k + 1 + i = k + (i + 1) := by omega
    rw [this]
theorem enumD_length : ∀ (ds : List D) (k : Nat), (enumD k ds).length = ds.length
  | [], _ => rfl
  | d :: ds, k => by unfold enumD; rw [List.length_cons, List.length_cons, enumD_length ds (k + 1)]
noncomputable def iEnumD (ca : CA) : CI := fun E A => (ca E A).bind fun ds A1 => match ds with
  | [.lst xs] => .ok (.fix (enumD 0 xs)) A1
  | _ => .no
theorem wk_enum {g : G} {H : Hp} {m : List Addr} {ds : List D} {vs : List V} {p : Addr} (h : (∃ o, H p = some (.frz o (.lst vs)) ∧ p ∉ m) ∨ KLst g.K p vs) (r : DVs g H m ds vs) : rI g H m (.fix (enumD 0 ds)) (Ite g.K p) := by
  refine ⟨?_, fun z => by rw [show (IT.fix (enumD 0 ds)).size = (enumD 0 ds).length from rfl, enumD_length, r.length]; exact z p vs (.inr (SqL.gr (Gr.refl _ _).w h))⟩
  intro i m1 H1 A a rh o e
  have e : some (enumD 0 ds)[i]? = some o := e
  cases e
  rw [enumD_get]
  have s := SqL.gr a.w h
  have r1 := r.monoW a.w
  cases hd : ds[i]? with
  | none => exact ⟨vs, s, by rw [← r.length]; exact List.getElem?_eq_none_iff.mp hd⟩
  | some d =>
    obtain ⟨v, hv, dv⟩ := r1.get hd
    refine ⟨⟨vs, v, s, hv⟩, fun x H' y => ?_⟩
    obtain ⟨T, w, rfl, hT, rfl, y⟩ := y
    have := y vs s
    rw [hv] at this; cases this
    have gr : Gr m1 m1 H1 (upd H1 T (.tup [.int (i : Nat), v])) := Gr.new hT
    refine ⟨fun q u hq => by rw [upd_ne (fun e => by rw [e, hT] at hq; cases hq)]; exact hq, gr, ?_⟩
    have e0 : ((0 + i : Nat) : Int) = (i : Nat) := by simp
    rw [e0]
    exact .wtp upd_same (rh.new hT) (.cons (.int _) (.cons (dv.mono gr) .nil))
theorem ji_enum {e : Expr} {ca : CA} {p tpos : Pos} {elts : List Expr} {kk : Nat} (hg : Gls F.scope "enumerate") (hm : F.g.mg "enumerate" = none) (ha : JA F [e] ca) (hs : ∀ X : Cx, starEach [e] X.env = [(false, eval e X.env)] := by intro _; rfl) :
    JI F (.Tuple elts kk tpos) (.Call (.Name "enumerate" p) [e] [] pos) (iEnumD ca) := by
  intro W X ok
  have h := pi_enum (pos := pos) (p := p) (tpos := tpos) (elts := elts) (kk := kk) (ok.gl hg) (by rw [ok.mg]; exact hm) (ha W X ok) (hs X)
  rw [ok.K] at h
  refine PI.imp h ?_
  rintro σ H Q ⟨m, E, A, rh, rs, q⟩
  refine ⟨m, E, A, rh, rs, Po.bind q fun m1 H1 ds vs A1 g1 rh1 dx q1 => ?_⟩
  split at q1
  · obtain ⟨v, rfl, dv⟩ := DVs.one dx
    cases dv with
    | lst h hs => exact ⟨_, _, rfl, sqL_of h, Po.ok q1 rh1 (wk_enum h hs)⟩
  · exact q1.elim
end Sm
namespace Sm
open PySem PySem.Spec PyProof.Rows L2
noncomputable def startA (n : Nat) (ds : List D) : SA := ds.map some ++ List.replicate (n - ds.length) none
/-- a def as a function -/
noncomputable def runB (n : Nat) (c : CS) : CF := fun ds A => match c (startA n ds) A with
  | .rt d h => .ok d h
  | .nx _ h => .ok .non h
  | .exc k xs _ h => .exc k xs h
  | _ => .no
theorem rs_start {g : G} {H : Hp} {m : List Addr} {N : List Str} {ds : List D} {vs : List V} (r : DVs g H m ds vs) : RS g H m (startA N.length ds) (L2.start N vs) := by
  unfold startA L2.start
  have hl := r.length
  refine ⟨by simp [hl], fun i d e => ?_⟩
  have hi : i < ds.length := by
    by_cases hi : i < ds.length
    · exact hi
    · rw [List.getElem?_append_right (by simpa using hi), List.getElem?_replicate] at e
      split at e <;> cases e
  rw [List.getElem?_append_left (by simpa using hi), List.getElem?_map] at e
  obtain ⟨d', h1, h2⟩ := Option.map_eq_some_iff.mp e
  cases h2
  obtain ⟨v, h3, h4⟩ := r.get h1
  exact ⟨v, by rw [List.getElem?_append_left (by simpa [← hl] using hi), List.getElem?_map, h3]; rfl, h4⟩
noncomputable abbrev F.of (g : G) (N : List Str) (scope : Scope) (k : Nat) (mk : List (Addr × Str) := []) : F := ⟨g, N, scope, k, (scope.names.filter fun y => decide (y.2 = .cell)).map (·.1), false, mk⟩
theorem SpC.len {g : G} {c : CF} {n : Nat} {vs : List V} {H : Hp} {Q : VK} {E : L2.XK} (h : SpC g c n vs H Q E) : vs.length = n := by
  obtain ⟨m, ds, A, _, r, l, _⟩ := h
  rw [← r.length]; exact l
/-- the tables of the lambdas that a def makes -/
noncomputable def MkOf (g : G) (qual : Str) (fd : FuncData) (mk : List (Addr × Str)) : Prop := ∀ t ∈ mk, ∃ c, fd.code = .ref c ∧ LamX.TabB g.base g.mg c t.1 ∧ (qual ++ ".<locals>.") ++ "<lambda>" = t.2
theorem fnG_of {g : G} {k : Nat} {x qual : Str} {st : Stmt} {f : Addr} {fd : FuncData} {N ps : List Str} {c : CS} {mk : List (Addr × Str)} (T : Fun g.K x qual st f fd) (S : FnScope N ps (defScope st)) (h : JL (F.of g N (defScope st) k mk) (defBody st) c) (hmk : MkOf g qual fd mk := by intro _ z; cases z) : FnG g (k + 1) f fd ps (SpC g (runB N.length c) ps.length) := by
  obtain ⟨oc, od, kV, doc, pm, an, cdv, ct, osl, rfl, lk, hcd⟩ := T.ex
  refine ⟨fun vs H Q E q => SpC.len q, fun A outer s H args us vs Q E hr hgd e0 hb r hsp => ?_⟩
  have kin : g.K.In s.heap := e0.mod.kin.keeps fun b o e => (e0.bs b o e).1
  have lim : s.heap.NoLimit := e0.mod.nolimit.keeps fun b o e => (e0.bs b o e).1
  refine codeAny_call_function hr.depth (kin _ _ lk) rfl S.co S.gen rfl (PySem.W.codeRec_of kin hcd) (hb _ _ _ _ ?_)
  refine wpAny_newFunctionEnv_cells S.kind (fun y hy => ?_) fun env he s1 ic => ?_
  · obtain ⟨n, v⟩ := y
    rcases S.par n (List.of_mem_zip hy).1 with q | q
    · exact .inl q
    · exact .inr ⟨q, PySem.W.cellsFrom_some _ _ _ (.inl q)⟩
  · subst he
    refine ⟨lim.keeps ic.toInCall.keep, codeAny_func ?_⟩
    have I := inv_start (CX := L2.CX g.prog g.w) (E := E) S hr.hd e0 (SpC.len hsp) r ic
    generalize hX : cxOf (L2.CX g.prog g.w) g.prog g.w g.K g.mg g.base N qual (defScope st) f cdv A outer s H E = X at I
    have ok : OkS (F.of g N (defScope st) k mk) (fun cls d _ H => E cls d H) X := by
      subst hX
      exact { prog := rfl, w := rfl, K := rfl, mg := rfl, base := rfl, N := rfl, sc := rfl, nd := S.nd, room := hr.deeper _, calm := rfl, gd := hgd, tk := takes_of rfl rfl rfl rfl, fnb := (fun _ _ => rfl), tabB := hmk, fn := rfl, hs := rfl, hf := rfl, ex := rfl, pass := passes_of rfl }
    obtain ⟨m, ds, A0, rh, dv, hl, q⟩ := hsp
    have run := (h _ X ok).run [] s1 (L2.start N vs) H { nx := fun _ H' => Q .non H', rt := Q } I ⟨m, startA N.length ds, A0, rh, rs_start dv, ?_⟩
    · subst hX
      refine wpAny_mono run (fun fl s' hs => ?_) fun e s' hs => hs
      cases fl with
      | ret u =>
        obtain ⟨v, σ', H', J, rv, q⟩ := hs
        exact ⟨v, H', J.os, J.bare, J.base, J.hok, rv, q⟩
      | next =>
        obtain ⟨σ', H', J, q⟩ := hs
        exact ⟨V.non, H', J.os, J.bare, J.base, J.hok, rfl, q⟩
      | brk =>
        obtain ⟨_, _, _, q⟩ := hs
        exact False.elim q
      | cont =>
        obtain ⟨_, _, _, q⟩ := hs
        exact False.elim q
    · unfold runB at q
      cases hc : c (startA N.length ds) A0 with
      | rt d h' => simp only [hc] at q; exact q
      | nx E' h' => simp only [hc] at q; exact fun m' σ' H' a b _ => q m' .non H' a b .non
      | exc k' xs E' h' => simp only [hc] at q; exact fun m' σ' H' cls d a b _ e => q m' H' cls d a b e
      | bk => simp only [hc] at q
      | ct => simp only [hc] at q
      | no => simp only [hc] at q
theorem callOk_of {g : G} {k : Nat} {x qual : Str} {st : Stmt} {f : Addr} {fd : FuncData} {N ps : List Str} {c : CS} {mk : List (Addr × Str)} (T : Fun g.K x qual st f fd) (S : FnScope N ps (defScope st)) (hb : Binds g.K fd ps []) (h : JL (F.of g N (defScope st) k mk) (defBody st) c) (hmk : MkOf g qual fd mk := by intro _ z; cases z) : CallOk g (k + 1) f ps (runB N.length c) :=
  ⟨⟨fd, fnG_of T S h hmk, hb⟩, T.kp⟩
/-- the abstract heap at the law's call: the script alone, unless it is one of the text's own objects -/
noncomputable def H1of (K : PySem.W.Frag) (a : Addr) (o : Obj) (xs : List V) : Hp := fun b => if b = a ∧ K.lookup a = none then some (.frz o (.lst xs)) else none
theorem H1of_inv {K : PySem.W.Frag} {a : Addr} {o : Obj} {xs : List V} {b : Addr} {u : HO} (h : H1of K a o xs b = some u) : b = a ∧ K.lookup a = none ∧ u = .frz o (.lst xs) := by
  unfold H1of at h
  split at h
  · rename_i hc
    cases h
    exact ⟨hc.1, hc.2, rfl⟩
  · cases h
/-- .. beside it the tables of the code objects -/
noncomputable def H2of (T : List Addr) (H : Hp) : Hp := fun b => if b ∈ T then some (.tbl #[]) else H b
theorem H2of_inv {T : List Addr} {H : Hp} {b : Addr} {u : HO} (h : H2of T H b = some u) : (b ∈ T ∧ u = .tbl #[]) ∨ (b ∉ T ∧ H b = some u) := by
  unfold H2of at h
  split at h
  · rename_i hc
    cases h
    exact .inl ⟨hc, rfl⟩
  · rename_i hc
    exact .inr ⟨hc, h⟩
theorem law_end {P : Program} {w : World} {K : PySem.W.Frag} {mg mb : Str → Option Value} {k : Nat} {fa a : Addr} {fd : FuncData} {x : Str} {s₁ : Shared} {vs : List Value} {ns : List Int} {c : CF} {mk : Heap → G} {cs : List (Addr × Addr)}
    (hm : ∀ h, (mk h).prog = P ∧ (mk h).w = w ∧ (mk h).K = K ∧ (mk h).mg = mg ∧ (mk h).base = h)
    (hT : ∀ p ∈ cs, PySem.W.CodeHd s₁.heap p.1 p.2 ∧ s₁.heap.get? p.2 = some (PySem.W.tabObj #[])) (nT : ∀ p ∈ cs, K.lookup p.2 = none) (htb : ∀ h, ∀ t ∈ (mk h).tabs, t.1 ∈ cs.map (·.2))
    (hbm : ∃ (bm : Addr) (ob : Obj), mg "__builtins__" = some (.ref bm) ∧ bm ≠ builtinsNs ∧ s₁.heap.get? bm = some ob ∧ ob.cls = .type "module" ∧ ob.dict = some builtinsNs ∧ ob.data = .plain)
    (KX : K.In s₁.heap) (hns : s₁.heap.Ns mainGlobals mg) (hb : s₁.heap.Ns builtinsNs mb) (hbb : ∀ x : Str, x ≠ "__name__" → mb x = bootBuiltins x) (hlim : s₁.heap.NoLimit) (hg : s₁.gens = #[])
    (ha : s₁.heap.get? a = some { cls := .type "list", data := .seq vs.toArray }) (hi : IntsAre vs ns) (hl : ns.length ≤ sizeLine) (hr : Room k callerA)
    (F : ∀ base : Heap, K.In base → base.Ns mainGlobals mg → (∀ p ∈ cs, LamX.TabB base mg p.1 p.2) → FnG (mk base) k fa fd [x] (SpC (mk base) c 1)) (hbind : ∀ (s : Shared) (u : Value), BindsTo s fd ⟨[u], []⟩ [(x, u)])
    (hc : ∃ A', c [.lst (ns.map .int)] [] = .ok (.bl true) A') :
    codeAny (model P w) callerA (.call (.ref fa) ⟨[.ref a], []⟩) (fun r s' => r = .ok (.ret (.bool true)) ∧ OldK s₁.heap s'.heap ∧ s'.os = s₁.os ∧ AllBare s'.gens) s₁ := by
  have rv := vals_ints hi
  have ln := hi.length
  let ob : Obj := { cls := .type "list", data := .seq vs.toArray }
  let T : List Addr := cs.map (·.2)
  let H0 := H1of K a ob (ns.map V.int)
  let H := H2of T H0
  have tab : ∀ b ∈ T, s₁.heap.get? b = some (PySem.W.tabObj #[]) := fun b z => by
    obtain ⟨p, hp, rfl⟩ := List.mem_map.mp z
    exact (hT p hp).2
  have aT : a ∉ T := fun z => by
    have q := tab a z
    rw [ha] at q
    cases q
  have hok : HOk P w H s₁.heap := fun b u z => by
    rcases H2of_inv z with ⟨z1, rfl⟩ | ⟨_, z⟩
    · exact tab b z1
    · obtain ⟨rfl, _, rfl⟩ := H1of_inv z
      exact ⟨ha, by rw [List.length_map]; exact hl, vs, _, rv, ha⟩
  have noA : ∀ {b : Addr} {o : Obj}, s₁.heap.get? b = some o → o ≠ PySem.W.tabObj #[] → (b = a → K.lookup a = none → False) → H b = none := fun {b o} e nt n => by
    cases q : H b with
    | none => rfl
    | some u =>
      rcases H2of_inv q with ⟨z1, _⟩ | ⟨_, z⟩
      · rw [tab b z1] at e
        cases e
        exact (nt rfl).elim
      · obtain ⟨e1, e2, _⟩ := H1of_inv z
        exact (n e1 e2).elim
  have up : ∀ {b : Addr} {o : Obj}, s₁.heap.get? b = some o → H b = none → (hidT s₁.heap H).get? b = some o := fun e n => hidT_get e n
  have nsK : ∀ {b : Addr} {m : Str → Option Value}, s₁.heap.Ns b m → (hidT s₁.heap H).Ns b m := fun {b m} ⟨o, es, ep, e, d, r⟩ => ⟨o, es, ep, up e (noA e (fun z => by rw [z] at d; cases d) fun e1 _ => by
    subst e1
    rw [ha] at e; cases e
    cases d), d, r⟩
  have kin : K.In (hidT s₁.heap H) := fun b o e => up (KX b o e) (by
    cases q : H b with
    | none => rfl
    | some u =>
      rcases H2of_inv q with ⟨z1, _⟩ | ⟨_, z⟩
      · obtain ⟨p, hp, rfl⟩ := List.mem_map.mp z1
        rw [nT p hp] at e
        cases e
      · obtain ⟨e1, e2, _⟩ := H1of_inv z
        subst e1
        rw [e2] at e
        cases e)
  have mod : Mod K mg (hidT s₁.heap H) := ⟨kin, nsK hns, ⟨mb, nsK hb, hbb⟩, let ⟨mc, h1, h2⟩ := hlim; ⟨mc, nsK h1, h2⟩⟩
  have tabB : ∀ p ∈ cs, LamX.TabB (hidT s₁.heap H) mg p.1 p.2 := fun p hp => by
    have e0 := (hT p hp).2
    constructor
    · obtain ⟨o, us, file, tf, flags, tg, inF, text, tt, e1, r1, rest⟩ := (hT p hp).1
      refine ⟨o, us, file, tf, flags, tg, inF, text, tt, up e1 (noA e1 (fun z => ?_) fun z _ => ?_), r1, rest⟩
      · rw [z] at r1; cases r1
      · rw [z, ha] at e1
        cases e1
        exact absurd (show Value.type "list" = Value.type "code" from r1) (by intro z; injection z with z; exact absurd z (by decide))
    · obtain ⟨bm, o2, b1, b2, b3, b4, b5, b6⟩ := hbm
      refine ⟨bm, o2, b1, b2, fun z => ?_, fun z => ?_, up b3 (noA b3 (fun z => ?_) fun z _ => ?_), b4, b5, b6⟩
      · obtain ⟨o3, es, ep, e, d, _⟩ := hns
        rw [z, e] at b3
        cases b3
        rw [b6] at d
        cases d
      · rw [z, e0] at b3
        cases b3
        cases b4
      · rw [z] at b4; cases b4
      · rw [z, ha] at b3
        cases b3
        exact absurd (show Value.type "list" = Value.type "module" from b4) (by intro z; injection z with z; exact absurd z (by decide))
    · intro z
      obtain ⟨o3, es, ep, e, d, _⟩ := hns
      rw [z, e0] at e
      cases e
      cases d
  obtain ⟨g1, g2, g3, g4, g5⟩ := hm (hidT s₁.heap H)
  have e0 : Env0 (mk (hidT s₁.heap H)).prog (mk (hidT s₁.heap H)).w (mk (hidT s₁.heap H)).K (mk (hidT s₁.heap H)).mg (mk (hidT s₁.heap H)).base callerA [] s₁ H := by
    rw [g1, g2, g3, g4, g5]
    exact ⟨rfl, mod, fun b o e => of_hidT e, Nat.le_of_eq (hidT_size _ _), trivial, fun b hb => absurd (show b ∈ ([] : List Addr) from hb) (by simp), hok, .of_eq hg⟩
  obtain ⟨A', hc⟩ := hc
  have dvs : ∀ (g : G) (ns : List Int), DVs g H [] (ns.map .int) (ns.map V.int) := fun g ns => by
    induction ns with
    | nil => exact .nil
    | cons n ns ih => exact .cons (.int n) ih
  have rh0 : RH (mk (hidT s₁.heap H)) H [] [] := ⟨List.nodup_nil, .nil, fun t ht => LamX.TabS.nil (if_pos (htb _ t ht)), fun _ _ => by simp⟩
  have run := (F _ kin (nsK hns) tabB).run callerA [] s₁ H ⟨[.ref a], []⟩ [.ref a] [.ref a] (fun v _ => v = .bl true) (fun _ _ _ => False) hr rfl e0 (hbind s₁ (.ref a)) (.cons rfl .nil)
    ⟨[], [.lst (ns.map .int)], [], rh0, .cons (.lst (by
      cases hk : K.lookup a with
      | none => exact .inl ⟨ob, (if_neg aT).trans (if_pos ⟨rfl, hk⟩), by simp⟩
      | some o =>
        have e := KX a o hk
        rw [ha] at e
        cases e
        exact .inr ⟨_, vs.toArray, _, by rw [g3]; exact hk, rfl, rfl, rfl, by rw [List.size_toArray, ln]; exact hl, by simpa using rv⟩) (dvs _ ns)) .nil, rfl, by rw [hc]; exact fun m' v H' _ _ dv => dv.bl_inv⟩
  rw [g1, g2] at run
  refine codeAny_mono run fun r s' h => ?_
  cases r with
  | error e =>
    obtain ⟨_, _, _, _, _, _, _, _, _, _, _, _, z⟩ := h
    exact z.elim
  | ok fl =>
    cases fl with
    | next => exact False.elim h
    | brk => exact False.elim h
    | cont => exact False.elim h
    | ret u =>
      obtain ⟨v, H', os, bare, un, hok', r', q⟩ := h
      obtain rfl : v = .bl true := q
      obtain rfl : u = Value.bool true := r'
      have key : ∀ b o, b ∉ T → s₁.heap.get? b = some o → s'.heap.get? b = some o := fun b o nb e => by
        cases q : H b with
        | none => exact un.keep b o e q (by intro z; exact absurd (show b ∈ ([] : List Addr) from z) (by simp)) (by simp)
        | some u =>
          rcases H2of_inv q with ⟨z1, _⟩ | ⟨_, z⟩
          · exact absurd z1 nb
          · obtain ⟨rfl, _, rfl⟩ := H1of_inv z
            have z2 := un.frzs b ob _ q
            obtain ⟨e2, _⟩ := hok' b _ z2
            rw [ha] at e; cases e
            exact e2
      have grown : ∀ b ∈ T, ∃ more : Array Value, s'.heap.get? b = some { cls := .none, data := .fields more } := fun b hb => by
        obtain ⟨more, z⟩ := un.tbls b #[] (if_pos hb)
        exact ⟨_, hok' b _ z⟩
      refine ⟨rfl, ⟨fun b o e => ?_, fun b o e => ?_⟩, os, bare⟩
      · by_cases hb : b ∈ T
        · obtain ⟨p, hp, rfl⟩ := List.mem_map.mp hb
          obtain ⟨more, hm⟩ := grown _ hb
          rw [tab _ hb] at e
          cases e
          exact .inr (.inl ⟨((hT p hp).1.tab (hT p hp).2).isCodeTable, rfl, #[], more, rfl, by rw [Array.empty_append]; exact hm⟩)
        · exact .inl (key b o hb e)
      · by_cases hb : b ∈ T
        · obtain ⟨more, hm⟩ := grown _ hb
          exact ⟨_, hm⟩
        · exact ⟨o, key b o hb e⟩
end Sm
namespace Sm
open PySem PySem.Spec PyProof.Rows L2
variable {F : F} {pos : Pos}
theorem jb_cmpF {a b : Expr} {ca cb : CE} {p : P2} {op : CmpOp} (ho : OpF F.g (compareOp op) p) (ja : JE F a ca) (jb : JE F b cb) (hm : behindInMarks op b = false := by first | exact nobehind _ (by decide) (by decide) | rfl) : JB F (.Compare a [op] [b] pos) (cB (c2 p ca cb)) := by
  intro W X ok
  refine ⟨fun pins s σ H Q I h => ?_⟩
  have h1 : TEx F.g W (c2 p ca cb) σ H fun x H' => ∃ k, x = .bl k ∧ Q k H' := by
    obtain ⟨m, E, A, rh, rs, q⟩ := h
    refine ⟨m, E, A, rh, rs, Po.bind q fun m1 H1 d x A1 g1 rh1 dx q1 => ?_⟩
    split at q1
    · exact ⟨_, dx.bl_inv, Po.ok q1 rh1 rfl⟩
    · exact q1.elim
  refine wpAny_isTrue_Compare1 (binT (ja W X ok) (jb W X ok) I (rF_of h1) fun v u s2 x y H2 I2 rx ry ⟨m, A, d, e, rh, dx, dy, q⟩ => ?_) hm
  refine thn (ho F W X rfl ok pins s2 σ H2 m A d e x y v u _ I2 rh dx dy rx ry q) fun c s3 ⟨z, H3, I3, r3, k, e, q3⟩ => ?_
  subst e
  cases r3
  exact wpAny_truthy_bool ⟨H3, I3, q3⟩
noncomputable def cEmp : CE := fun _ A => .ok (.dct [] []) A
theorem PE.frzD {X : Cx} {e : Expr} {t : TE} (h : PE X e t) : PE X e (fun σ H Q => t σ H fun v H' => ∃ p ks, v = .ref p ∧ H' p = some (.dK ks) ∧ ∀ o, Q v (upd H' p (.frz o (.dK ks)))) := by
  refine ⟨fun pins s σ H Q I q => thn (h.run pins s σ H _ I q) fun u s' ⟨v, H', I', r, p, xs, e1, e2, k⟩ => ?_⟩
  obtain ⟨od, I2⟩ := I'.lock e2 trivial
  exact ⟨v, _, I2, r, k od⟩
theorem je_emp : JE F (.Dict [] [] pos) cEmp := by
  intro W X ok
  refine PE.imp (PE.frzD pe_dnewK) ?_
  rintro σ H Q ⟨m, E, A, rh, rs, q⟩
  intro p hp
  refine ⟨p, [], rfl, upd_same, fun o => ?_⟩
  rw [upd_upd]
  exact Po.ok' q (Gr.new hp) (rh.upd hp) (.dct (vs := []) ⟨o, upd_same, rh.new hp⟩ rfl .nil)
noncomputable abbrev IsaT := List ((String ⊕ Nat) × (String ⊕ Nat) × Bool)
noncomputable def isaOf : IsaT → String ⊕ Nat → String ⊕ Nat → Option Bool
  | [], _, _ => none
  | t :: r, a, b => if t.1 = a ∧ t.2.1 = b then some t.2.2 else isaOf r a b
theorem isaOf_mem : ∀ {t : IsaT} {a b : String ⊕ Nat} {r : Bool}, isaOf t a b = some r → (a, b, r) ∈ t
  | t :: ts, a, b, r, e => by
    unfold isaOf at e
    split at e
    · rename_i h
      cases e
      obtain ⟨rfl, rfl⟩ := h
      exact List.mem_cons_self
    · exact List.mem_cons_of_mem _ (isaOf_mem e)
end Sm
namespace Sm
open PySem PySem.Spec PyProof.Rows L2
noncomputable def b_law_mixed : CS := (cSeq (cSet 2 (c2 pAdd (c2 pAdd (c2 pMod (cCall pInt (cCons (c2 pMul (c2 pMul (cVar 0) (c2 pAdd (cC (.int 1)) (c2 pMul (cC (.int 2)) (cVar 1)))) (cC (.int 48271))) cNil)) (cC (.int 2147483647))) (c2 pMul (c2 pMul (cC (.int 7919)) (cVar 1)) (cVar 1))) (c2 pMul (cC (.int 104729)) (cVar 1)))) (cRet (c2 pFdiv (c2 pMod (cCall pInt (cCons (c2 pMul (cVar 2) (cC (.int 69621))) cNil)) (cC (.int 2147483629))) (cC (.int 7)))))
noncomputable def c_law_mixed : CF := runB 3 b_law_mixed
noncomputable def b_law_folded : CS := (cSeq (cSet 2 (cLcH [1] (iRng1 (cCons (cC (.int 64)) cNil)) (gSetN 1) cYes (c2 pAdd (cC (.int 17)) (cVar 1)))) (cSeq (cFor (iEnumD (cCons (cVar 0) cNil)) (gTupN 2 (gsCons (gSetN 1) (gsCons (gSetN 3) gsNil))) (cAsg (c2 pMod (cCall pInt (cCons (c2 pAdd (c2 pMul (c2 pGet (cVar 2) (c2 pMod (cCall pInt (cCons (cVar 1) cNil)) (cC (.int 64)))) (cC (.int 48271))) (cVar 3)) cNil)) (cC (.int 2147483647))) (gPut (cVar 2) (c2 pMod (cCall pInt (cCons (cVar 1) cNil)) (cC (.int 64)))))) (cSeq (cFor (iRng2 (cCons (cC (.int 1)) (cCons (cC (.int 64)) cNil))) (gSetN 1) (cAsg (c2 pMod (cCall pInt (cCons (c2 pAdd (c2 pGet (cVar 2) (cVar 1)) (c2 pMul (c2 pGet (cVar 2) (c2 pSub (cVar 1) (cC (.int 1)))) (cC (.int 16807)))) cNil)) (cC (.int 2147483647))) (gPut (cVar 2) (cVar 1)))) (cRet (cVar 2)))))
noncomputable def c_law_folded : CF := runB 4 b_law_folded
noncomputable def b_law_draw : CS := (cSeq (cSet 2 (c2 pGet (cVar 0) (cC (.str "spot")))) (cSeq (cAsg (c2 pAdd (cVar 2) (cC (.int 1))) (gPut (cVar 0) (cC (.str "spot")))) (cSeq (cIfS (cB (c2 pNeD (c2 pGet (cVar 0) (cC (.str "great"))) (cLst cNil))) (cSeq (cSet 3 (c2 pGet (cVar 0) (cC (.str "great")))) (cSeq (cSet 4 (c2 pMod (cCall pInt (cCons (cVar 2) cNil)) (cCall pLen (cCons (cVar 3) cNil)))) (cSeq (cSet 5 (c2 pGet (cVar 3) (cVar 4))) (cIfS (cB (c2 pGt (cVar 5) (cC (.int 0)))) (cSeq (cAsg (c2 pFdiv (cVar 5) (cVar 1)) (gPut (cVar 3) (cVar 4))) (cRet (c2 pMod (cCall pInt (cCons (cVar 5) cNil)) (cVar 1)))) cSkip)))) cSkip) (cSeq (cSet 3 (c2 pGet (cVar 0) (cC (.str "cells")))) (cRet (c2 pMod (cCall pInt (cCons (cCall c_law_mixed (cCons (cCall c_law_mixed (cCons (c2 pAdd (c2 pGet (cVar 3) (c2 pMod (cCall pInt (cCons (cVar 2) cNil)) (cC (.int 64)))) (c2 pMul (cC (.int 31)) (c2 pFdiv (cVar 2) (cC (.int 64))))) (cCons (cVar 2) cNil))) (cCons (c2 pAdd (cVar 2) (cC (.int 7))) cNil))) cNil)) (cVar 1)))))))
noncomputable def c_law_draw : CF := runB 6 b_law_draw
noncomputable def b_law_begun : CS := (cSeq (cSet 1 (cDisp (((cC (.str "cells")), (cCall c_law_folded (cCons (cVar 0) cNil))) :: (((cC (.str "great")), (cNewL cNil)) :: (((cC (.str "spot")), (cC (.int 0))) :: []))))) (cSeq (cAsg (cLcH [2] (iSeq (cVar 0)) (gSetN 2) cYes (cIf (cB (c2 pGe (cVar 2) (c2 pPow (cC (.int 10)) (cC (.int 18))))) (cVar 2) (cC (.int 0)))) (gPut (cVar 1) (cC (.str "great")))) (cRet (cVar 1))))
noncomputable def c_law_begun : CF := runB 3 b_law_begun
theorem mixed_ok (c n : Int) (A : HA) (h0 : 0 ≤ n) (h1 : n < 2 ^ 60) : ∃ r, c_law_mixed [.int c, .int n] A = .ok (.int r) A := by
  have s1 : small64 (1 + 2 * n) = true := by unfold small64; simp only [Bool.and_eq_true, decide_eq_true_eq]; omega
  have s2 : small64 n = true := by unfold small64; simp only [Bool.and_eq_true, decide_eq_true_eq]; omega
  have k1 : small64 2 = true := by decide
  have k2 : small64 48271 = true := by decide
  have k3 : small64 7919 = true := by decide
  have k4 : small64 104729 = true := by decide
  have k5 : small64 69621 = true := by decide
  refine ⟨?_, ?_⟩
  rotate_left
  · simp [c_law_mixed, b_law_mixed, runB, startA, cSeq, cSet, cRet, RSt.of, c2, R.bind, cVar, cC, cCall, cCons, cNil, pInt, pI, pAdd, s1, s2, k1, k2, k3, k4, k5]
    rfl
/-- the drawn state at m: the cells at a, the great ones at b, at most k draws -/
structure Drawn (A : HA) (m a b : Nat) (k : Int) : Prop where
  ex : ∃ (cs gs : List Int) (n : Int), A[m]? = some (.dct false [(.str "cells", .ref a), (.str "great", .ref b), (.str "spot", .int n)]) ∧ A[a]? = some (.lst (cs.map .int)) ∧ cs.length = 64 ∧ A[b]? = some (.lst (gs.map .int)) ∧ 0 ≤ n ∧ n ≤ k
  ma : m ≠ a
  mb : m ≠ b
  ab : a ≠ b
noncomputable def dK (a b : Nat) (n : Int) : List (D × D) := [(.str "cells", .ref a), (.str "great", .ref b), (.str "spot", .int n)]
theorem dK_cells (a b : Nat) (n : Int) : lookD (dK a b n) (.inr "cells") = some (.ref a) := by rfl
theorem dK_great (a b : Nat) (n : Int) : lookD (dK a b n) (.inr "great") = some (.ref b) := by rfl
theorem dK_spot (a b : Nat) (n : Int) : lookD (dK a b n) (.inr "spot") = some (.int n) := by rfl
theorem dK_put_spot (a b : Nat) (n i : Int) : putD (dK a b n) (.inr "spot") (.str "spot") (.int i) = dK a b i := by rfl
theorem dK_put_great (a b c : Nat) (n : Int) : putD (dK a b n) (.inr "great") (.str "great") (.ref c) = dK a c n := by rfl
theorem optAll_ints (A : HA) (k : Nat) : ∀ xs : List Int, optAll (toPy A (k + 1)) (xs.map .int) = some (xs.map .int)
  | [] => rfl
  | x :: xs => by
    rw [List.map_cons, List.map_cons]
    unfold optAll
    rw [optAll_ints A k xs]
    rfl
theorem plain_ints : ∀ xs : List Int, PyData.plainAll (xs.map .int) = true
  | [] => rfl
  | x :: xs => by rw [List.map_cons]; unfold PyData.plainAll; rw [plain_ints xs]; rfl
theorem toPy_ints {A : HA} {b : Nat} {xs : List Int} (h : A[b]? = some (.lst (xs.map .int))) (k : Nat) : toPy A (k + 2) (.ref b) = some (.list (xs.map .int)) := by
  show (match A[b]? with | some (.lst ds) => (optAll (toPy A (k + 1)) ds).map PyData.list | _ => none) = _
  rw [h]
  show (optAll (toPy A (k + 1)) (xs.map .int)).map PyData.list = _
  rw [optAll_ints]
  rfl
/-- d != [] -/
theorem ne_nil_ok {A : HA} {b : Nat} {xs : List Int} (h : A[b]? = some (.lst (xs.map .int))) : pNeD (.ref b) (.lst []) A = .ok (.bl (!xs.isEmpty)) A := by
  have e1 := toPy_ints h 58
  have e2 : toPy A 60 (.lst []) = some (.list []) := rfl
  unfold pNeD
  rw [e1, e2]
  show (if (PyData.list (xs.map .int)).plain = true ∧ (PyData.list []).plain = true then R.ok (D.bl (!PyData.eqv (.list (xs.map .int)) (.list []))) A else .no) = _
  have p1 : (PyData.list (xs.map .int)).plain = true := by unfold PyData.plain; exact plain_ints xs
  have p2 : (PyData.list []).plain = true := rfl
  rw [if_pos ⟨p1, p2⟩]
  cases xs <;> rfl
theorem get_dict {A : HA} {m a b : Nat} {n : Int} (h : A[m]? = some (.dct false (dK a b n))) (x : Str) (d : D) (hd : lookD (dK a b n) (.inr x) = some d) : pGet (.ref m) (.str x) A = .ok d A := by
  unfold pGet
  simp only [h]
  unfold pIxD
  simp only [toKey, dgetOf, h, hd]
theorem atI_get {α : Type} (xs : List α) (i : Int) (h0 : 0 ≤ i) (h1 : i < xs.length) : L2.ixN xs.length i = some i.toNat ∧ L2.atI xs i = xs[i.toNat]? := by
  have e : L2.ixN xs.length i = some i.toNat := by
    unfold L2.ixN
    rw [if_pos h0, if_pos h1]
  exact ⟨e, by unfold L2.atI; rw [e]; rfl⟩
theorem get_ref {A : HA} {a : Nat} {ds : List D} (h : A[a]? = some (.lst ds)) (i : Int) (d : D) (hd : L2.atI ds i = some d) : pGet (.ref a) (.int i) A = .ok d A := by
  unfold pGet
  simp only [h]
  unfold pIx seqOf
  simp only [h, hd]
theorem get_ints {A : HA} {a : Nat} {xs : List Int} (h : A[a]? = some (.lst (xs.map .int))) (i : Int) (h0 : 0 ≤ i) (h1 : i < xs.length) : pGet (.ref a) (.int i) A = .ok (.int (xs.getD i.toNat 0)) A := by
  refine get_ref h i _ ?_
  rw [(atI_get (xs.map D.int) i h0 (by simpa using h1)).2, List.getElem?_map]
  have : i.toNat < xs.length := by omega
  rw [List.getElem?_eq_getElem this]
  simp [List.getD, List.getElem?_eq_getElem this]
theorem cSeq_nx {c c' : CS} {E E' : SA} {A A' : HA} (h : c E A = .nx E' A') : cSeq c c' E A = c' E' A' := by
  unfold cSeq
  rw [h]
theorem cSeq_rt {c c' : CS} {E : SA} {A A' : HA} {d : D} (h : c E A = .rt d A') : cSeq c c' E A = .rt d A' := by
  unfold cSeq
  rw [h]
/-- a store at a place of a list -/
theorem put_list {A : HA} {a : Nat} {ds : List D} {co ci : CE} {v : D} {E : SA} {i : Int} (ho : co E A = .ok (.ref a) A) (hi : ci E A = .ok (.int i) A) (h : A[a]? = some (.lst ds)) (h0 : 0 ≤ i) (h1 : i < ds.length) : gPut co ci v E A = .nx E (A.set a (.lst (ds.set i.toNat v))) := by
  unfold gPut
  simp only [ho, hi, h, (atI_get ds i h0 h1).1]
theorem put_dict {A : HA} {m : Nat} {kvs : List (D × D)} {co ci : CE} {v i : D} {E : SA} {k : Key} (ho : co E A = .ok (.ref m) A) (hi : ci E A = .ok i A) (hk : toKey i = some k) (h : A[m]? = some (.dct false kvs)) (hl : kvs.length < sizeLine) : gPut co ci v E A = .nx E (A.set m (.dct false (putD kvs k i v))) := by
  unfold gPut
  simp only [ho, hi, h, hk, hl, if_true]
theorem map_set_int (xs : List Int) (i : Nat) (z : Int) : (xs.map D.int).set i (.int z) = (xs.set i z).map .int := by rw [List.map_set]
theorem get_set_ne {A : HA} {i j : Nat} {o : AO} (h : i ≠ j) : (A.set i o)[j]? = A[j]? := List.getElem?_set_ne h
theorem get_set_eq {A : HA} {i : Nat} {o u : AO} (h : A[i]? = some u) : (A.set i o)[i]? = some o := by
  rw [List.getElem?_set_self (List.getElem?_eq_some_iff.mp h).1]
section
variable {E : SA} {A A1 A2 : HA} {d e f : D} {ca cb cc : CE} {p : P2} {c : CF}
theorem ev_var {i : Nat} (h : E[i]? = some (some d)) : cVar i E A = .ok d A := by unfold cVar; rw [h]
theorem ev_c : cC d E A = .ok d A := rfl
theorem ev_c2 (ha : ca E A = .ok d A1) (hb : cb E A1 = .ok e A2) : c2 p ca cb E A = p d e A2 := by
  unfold c2; rw [ha]; show ((cb E A1).bind fun e A2 => p d e A2) = _; rw [hb]; rfl
theorem ev_call1 (ha : ca E A = .ok d A1) : cCall c (cCons ca cNil) E A = c [d] A1 := by
  unfold cCall cCons cNil; rw [ha]; rfl
theorem ev_call2 (ha : ca E A = .ok d A1) (hb : cb E A1 = .ok e A2) : cCall c (cCons ca (cCons cb cNil)) E A = c [d, e] A2 := by
  unfold cCall cCons cNil; rw [ha]; show (((cb E A1).bind fun d A1 => R.ok [d] A1).bind _ ).bind _ = _; rw [hb]; rfl
theorem ev_set {i : Nat} (h : ca E A = .ok d A1) : cSet i ca E A = .nx (E.set i (some d)) A1 := by unfold cSet; rw [h]; rfl
theorem ev_ret (h : ca E A = .ok d A1) : cRet ca E A = .rt d A1 := by unfold cRet; rw [h]; rfl
theorem ev_expr (h : ca E A = .ok d A1) : cExpr ca E A = .nx E A1 := by unfold cExpr; rw [h]; rfl
theorem ev_asg {cg : CG} {r : RSt} (h : ca E A = .ok d A1) (hg : cg d E A1 = r) : cAsg ca cg E A = r.nxOnly := by unfold cAsg; rw [h, ← hg]; rfl
theorem ev_cB {b : Bool} (h : ca E A = .ok (.bl b) A1) : cB ca E A = .ok b A1 := by unfold cB; rw [h]; rfl
theorem ev_ifT {t : CB} {x y : CS} (h : t E A = .ok true A1) : cIfS t x y E A = x E A1 := by unfold cIfS; rw [h]; rfl
theorem ev_ifF {t : CB} {x y : CS} (h : t E A = .ok false A1) : cIfS t x y E A = y E A1 := by unfold cIfS; rw [h]; rfl
theorem ev_if {t : CB} {x y : CE} {b : Bool} (h : t E A = .ok b A1) : cIf t x y E A = if b = true then x E A1 else y E A1 := by unfold cIf; rw [h]; rfl
theorem ev_int {i : Int} : pInt [.int i] A = .ok (.int i) A := rfl
theorem ev_add {i j : Int} : pAdd (.int i) (.int j) A = .ok (.int (i + j)) A := rfl
theorem ev_sub {i j : Int} : pSub (.int i) (.int j) A = .ok (.int (i - j)) A := rfl
theorem ev_mul {i j : Int} (h : (small64 i || small64 j) = true) : pMul (.int i) (.int j) A = .ok (.int (i * j)) A := by unfold pMul pI; simp only [h, if_true]
theorem ev_mod {i j : Int} (h : 0 < j) : pMod (.int i) (.int j) A = .ok (.int (i % j)) A := by unfold pMod pI; simp only [h, decide_true, if_true]
theorem ev_fdiv {i j : Int} (h : 0 < j) (h2 : j < 1073741824) : pFdiv (.int i) (.int j) A = .ok (.int (i / j)) A := by unfold pFdiv pI; simp only [h, h2, decide_true, Bool.and_true, if_true]
end
theorem get_set_E {E : SA} {i j : Nat} {o : Option D} (h : i ≠ j) : (E.set i o)[j]? = E[j]? := List.getElem?_set_ne h
theorem mixed_call (c n : Int) (E : SA) (A : HA) (ca cb : CE) (h0 : 0 ≤ n) (h1 : n < 2 ^ 60) (ha : ca E A = .ok (.int c) A) (hb : cb E A = .ok (.int n) A) : ∃ r, cCall c_law_mixed (cCons ca (cCons cb cNil)) E A = .ok (.int r) A := by
  obtain ⟨r, e⟩ := mixed_ok c n A h0 h1
  exact ⟨r, (ev_call2 ha hb).trans e⟩
theorem draw_ok {A : HA} {m a b : Nat} {k : Int} (h : Drawn A m a b k) (hk : k < 2 ^ 59) (L : Int) (hL : 0 < L) (hL2 : L < 1073741824) :
    ∃ r A', c_law_draw [.ref m, .int L] A = .ok (.int r) A' ∧ 0 ≤ r ∧ r < L ∧ Drawn A' m a b (k + 1) ∧ A'.length = A.length ∧ ∀ i, i ≠ m → i ≠ b → A'[i]? = A[i]? := by
  obtain ⟨⟨cs, gs, n, hm, ha, hc, hb, n0, nk⟩, ma, mb, ab⟩ := h
  have hm : A[m]? = some (.dct false (dK a b n)) := hm
  obtain ⟨A1, eA1⟩ : ∃ A1, A1 = A.set m (.dct false (dK a b (n + 1))) := ⟨_, rfl⟩
  have hm1 : A1[m]? = some (.dct false (dK a b (n + 1))) := by rw [eA1]; exact get_set_eq hm
  have ha1 : A1[a]? = some (.lst (cs.map .int)) := by rw [eA1]; exact (get_set_ne ma).trans ha
  have hb1 : A1[b]? = some (.lst (gs.map .int)) := by rw [eA1]; exact (get_set_ne mb).trans hb
  have out1 : ∀ i, i ≠ m → A1[i]? = A[i]? := fun i hi => by rw [eA1]; exact get_set_ne (Ne.symm hi)
  have len1 : A1.length = A.length := by rw [eA1]; simp
  have dr1 : Drawn A1 m a b (k + 1) := ⟨⟨cs, gs, n + 1, hm1, ha1, hc, hb1, by omega, by omega⟩, ma, mb, ab⟩
  -- the last part: from the cells
  have last : ∀ E : SA, E[0]? = some (some (.ref m)) → E[1]? = some (some (.int L)) → E[2]? = some (some (.int n)) → 3 < E.length →
      ∃ r, (cSeq (cSet 3 (c2 pGet (cVar 0) (cC (.str "cells")))) (cRet (c2 pMod (cCall pInt (cCons (cCall c_law_mixed (cCons (cCall c_law_mixed (cCons (c2 pAdd (c2 pGet (cVar 3) (c2 pMod (cCall pInt (cCons (cVar 2) cNil)) (cC (.int 64)))) (c2 pMul (cC (.int 31)) (c2 pFdiv (cVar 2) (cC (.int 64))))) (cCons (cVar 2) cNil))) (cCons (c2 pAdd (cVar 2) (cC (.int 7))) cNil))) cNil)) (cVar 1)))) E A1 = .rt (.int r) A1 ∧ 0 ≤ r ∧ r < L := by
    intro E e0 e1 e2 e3
    rw [cSeq_nx (ev_set ((ev_c2 (ev_var e0) ev_c).trans (get_dict hm1 "cells" (.ref a) (dK_cells a b (n + 1)))))]
    obtain ⟨E1, eE⟩ : ∃ E1, E1 = E.set 3 (some (D.ref a)) := ⟨_, rfl⟩
    rw [← eE]
    have f1 : E1[1]? = some (some (.int L)) := by rw [eE]; exact (get_set_E (by decide)).trans e1
    have f2 : E1[2]? = some (some (.int n)) := by rw [eE]; exact (get_set_E (by decide)).trans e2
    have f3 : E1[3]? = some (some (.ref a)) := by rw [eE]; exact List.getElem?_set_self e3
    have b0 : 0 ≤ n % 64 := Int.emod_nonneg _ (by decide)
    have b1 : n % 64 < cs.length := by rw [hc]; exact Int.emod_lt_of_pos _ (by decide)
    have t0 : c2 pMod (cCall pInt (cCons (cVar 2) cNil)) (cC (.int 64)) E1 A1 = .ok (.int (n % 64)) A1 := (ev_c2 ((ev_call1 (ev_var f2)).trans ev_int) ev_c).trans (ev_mod (by decide))
    have t1 : (c2 pAdd (c2 pGet (cVar 3) (c2 pMod (cCall pInt (cCons (cVar 2) cNil)) (cC (.int 64)))) (c2 pMul (cC (.int 31)) (c2 pFdiv (cVar 2) (cC (.int 64))))) E1 A1 = .ok (.int (cs.getD (n % 64).toNat 0 + 31 * (n / 64))) A1 :=
      (ev_c2 ((ev_c2 (ev_var f3) t0).trans (get_ints ha1 (n % 64) b0 b1)) ((ev_c2 ev_c ((ev_c2 (ev_var f2) ev_c).trans (ev_fdiv (by decide) (by decide)))).trans (ev_mul (by simp [show small64 31 = true by decide])))).trans ev_add
    obtain ⟨r1, t2⟩ := mixed_call _ n E1 A1 _ _ n0 (by omega) t1 (ev_var f2)
    obtain ⟨r2, t3⟩ := mixed_call r1 (n + 7) E1 A1 _ (c2 pAdd (cVar 2) (cC (.int 7))) (by omega) (by omega) t2 ((ev_c2 (ev_var f2) ev_c).trans ev_add)
    exact ⟨r2 % L, ev_ret ((ev_c2 ((ev_call1 t3).trans ev_int) (ev_var f1)).trans (ev_mod hL)), Int.emod_nonneg _ (by omega), Int.emod_lt_of_pos _ hL⟩
  have body : ∃ r A', b_law_draw (startA 6 [.ref m, .int L]) A = .rt (.int r) A' ∧ 0 ≤ r ∧ r < L ∧ Drawn A' m a b (k + 1) ∧ A'.length = A.length ∧ ∀ i, i ≠ m → i ≠ b → A'[i]? = A[i]? := by
    unfold b_law_draw
    have e0 : startA 6 [.ref m, .int L] = [some (.ref m), some (.int L), none, none, none, none] := rfl
    rw [e0, cSeq_nx (ev_set ((ev_c2 (ev_var rfl) ev_c).trans (get_dict hm "spot" (.int n) (dK_spot a b n))))]
    have e1 : ([some (.ref m), some (.int L), none, none, none, none] : SA).set 2 (some (.int n)) = [some (.ref m), some (.int L), some (.int n), none, none, none] := rfl
    rw [e1]
    have s2 : cAsg (c2 pAdd (cVar 2) (cC (.int 1))) (gPut (cVar 0) (cC (.str "spot"))) [some (.ref m), some (.int L), some (.int n), none, none, none] A = .nx [some (.ref m), some (.int L), some (.int n), none, none, none] A1 := by
      refine (ev_asg ((ev_c2 (ev_var rfl) ev_c).trans ev_add) (put_dict (k := .inr "spot") (ev_var rfl) ev_c rfl hm (by rw [sizeLine_eq]; show 3 < 16777216; decide))).trans ?_
      rw [dK_put_spot, ← eA1]
      rfl
    rw [cSeq_nx s2]
    have t := (ev_c2 (E := [some (.ref m), some (.int L), some (.int n), none, none, none]) (p := pNeD) ((ev_c2 (ev_var (i := 0) rfl) ev_c).trans (get_dict hm1 "great" (.ref b) (dK_great a b (n + 1)))) (show cLst cNil _ A1 = .ok (.lst []) A1 from rfl)).trans (ne_nil_ok hb1)
    cases hg : gs.isEmpty with
    | true =>
      rw [hg] at t
      rw [cSeq_nx (show cIfS _ _ cSkip [some (.ref m), some (.int L), some (.int n), none, none, none] A1 = .nx [some (.ref m), some (.int L), some (.int n), none, none, none] A1 from ev_ifF (ev_cB t))]
      obtain ⟨r, h1, h2, h3⟩ := last [some (.ref m), some (.int L), some (.int n), none, none, none] rfl rfl rfl (by show 3 < 6; decide)
      exact ⟨r, A1, h1, h2, h3, dr1, len1, fun i hi _ => out1 i hi⟩
    | false =>
      rw [hg] at t
      have gpos : 0 < (gs.length : Int) := by
        cases gs with
        | nil => cases hg
        | cons => simp only [List.length_cons]; omega
      have glen : pLen [.ref b] A1 = .ok (.int gs.length) A1 := by
        unfold pLen lenOf listOf
        simp only [hb1, Option.map, List.length_map]
      let E2 : SA := [some (.ref m), some (.int L), some (.int n), some (.ref b), none, none]
      let E3 : SA := [some (.ref m), some (.int L), some (.int n), some (.ref b), some (.int (n % gs.length)), none]
      have b0 : 0 ≤ n % gs.length := Int.emod_nonneg _ (by omega)
      have b1 : n % gs.length < gs.length := Int.emod_lt_of_pos _ gpos
      obtain ⟨z, ez⟩ : ∃ z, z = gs.getD (n % gs.length).toNat 0 := ⟨_, rfl⟩
      let E4 : SA := [some (.ref m), some (.int L), some (.int n), some (.ref b), some (.int (n % gs.length)), some (.int z)]
      have u1 : cSet 3 (c2 pGet (cVar 0) (cC (.str "great"))) [some (.ref m), some (.int L), some (.int n), none, none, none] A1 = .nx E2 A1 := ev_set ((ev_c2 (ev_var rfl) ev_c).trans (get_dict hm1 "great" (.ref b) (dK_great a b (n + 1))))
      have u2 : cSet 4 (c2 pMod (cCall pInt (cCons (cVar 2) cNil)) (cCall pLen (cCons (cVar 3) cNil))) E2 A1 = .nx E3 A1 := ev_set ((ev_c2 ((ev_call1 (ev_var rfl)).trans ev_int) ((ev_call1 (ev_var rfl)).trans glen)).trans (ev_mod gpos))
      have u3 : cSet 5 (c2 pGet (cVar 3) (cVar 4)) E3 A1 = .nx E4 A1 := by
        rw [ev_set ((ev_c2 (ev_var (d := .ref b) rfl) (ev_var (d := .int (n % gs.length)) rfl)).trans (get_ints hb1 _ b0 b1)), ← ez]
        rfl
      have u4 : cB (c2 pGt (cVar 5) (cC (.int 0))) E4 A1 = .ok (decide (0 < z)) A1 := ev_cB ((ev_c2 (ev_var (d := .int z) rfl) ev_c).trans rfl)
      by_cases hz : 0 < z
      · have u5 : cB (c2 pGt (cVar 5) (cC (.int 0))) E4 A1 = .ok true A1 := by rw [u4]; simp only [hz, decide_true]
        let A2 := A1.set b (.lst ((gs.map D.int).set (n % gs.length).toNat (.int (z / L))))
        have u6 : cAsg (c2 pFdiv (cVar 5) (cVar 1)) (gPut (cVar 3) (cVar 4)) E4 A1 = .nx E4 A2 :=
          (ev_asg ((ev_c2 (ev_var (d := .int z) rfl) (ev_var (d := .int L) rfl)).trans (ev_fdiv hL hL2)) (put_list (a := b) (i := n % gs.length) (ev_var rfl) (ev_var rfl) hb1 b0 (by simpa using b1))).trans rfl
        have u7 : cRet (c2 pMod (cCall pInt (cCons (cVar 5) cNil)) (cVar 1)) E4 A2 = .rt (.int (z % L)) A2 := ev_ret ((ev_c2 ((ev_call1 (ev_var (d := .int z) rfl)).trans ev_int) (ev_var (d := .int L) rfl)).trans (ev_mod hL))
        refine ⟨z % L, A2, ?_, Int.emod_nonneg _ (by omega), Int.emod_lt_of_pos _ hL, ⟨⟨cs, gs.set (n % gs.length).toNat (z / L), n + 1, (get_set_ne (Ne.symm mb)).trans hm1, (get_set_ne (Ne.symm ab)).trans ha1, hc, ?_, by omega, by omega⟩, ma, mb, ab⟩, ?_, fun i hi hi2 => (get_set_ne (Ne.symm hi2)).trans (out1 i hi)⟩
        · refine cSeq_rt ?_
          refine (ev_ifT (ev_cB t)).trans ?_
          rw [cSeq_nx u1, cSeq_nx u2, cSeq_nx u3]
          refine (ev_ifT u5).trans ?_
          rw [cSeq_nx u6]
          exact u7
        · show (A1.set b _)[b]? = _
          rw [get_set_eq hb1, map_set_int]
        · show (A1.set b _).length = _
          rw [List.length_set, len1]
      · have u5 : cB (c2 pGt (cVar 5) (cC (.int 0))) E4 A1 = .ok false A1 := by rw [u4]; simp only [hz, decide_false]
        have v1 : (cSeq (cSet 3 (c2 pGet (cVar 0) (cC (.str "great")))) (cSeq (cSet 4 (c2 pMod (cCall pInt (cCons (cVar 2) cNil)) (cCall pLen (cCons (cVar 3) cNil)))) (cSeq (cSet 5 (c2 pGet (cVar 3) (cVar 4))) (cIfS (cB (c2 pGt (cVar 5) (cC (.int 0)))) (cSeq (cAsg (c2 pFdiv (cVar 5) (cVar 1)) (gPut (cVar 3) (cVar 4))) (cRet (c2 pMod (cCall pInt (cCons (cVar 5) cNil)) (cVar 1)))) cSkip))))
            [some (.ref m), some (.int L), some (.int n), none, none, none] A1 = .nx E4 A1 := by
          rw [cSeq_nx u1, cSeq_nx u2, cSeq_nx u3]
          exact (ev_ifF u5).trans rfl
        rw [cSeq_nx ((ev_ifT (ev_cB t)).trans v1)]
        obtain ⟨r, h1, h2, h3⟩ := last E4 rfl rfl rfl (by show 3 < 6; decide)
        exact ⟨r, A1, h1, h2, h3, dr1, len1, fun i hi _ => out1 i hi⟩
  obtain ⟨r, A', h1, h2⟩ := body
  refine ⟨r, A', ?_, h2⟩
  unfold c_law_draw runB
  rw [h1]
theorem forL_inv {cg : CG} {body : CS} (Inv : Nat → SA → HA → Prop) : ∀ (ds : List D) (i : Nat) (E : SA) (A : HA), Inv i E A →
    (∀ (j : Nat) (d : D) (E : SA) (A : HA), ds[j]? = some d → Inv (i + j) E A → ∃ E1 A1 E2 A2, cg d E A = .nx E1 A1 ∧ (body E1 A1 = .nx E2 A2 ∨ body E1 A1 = .ct E2 A2) ∧ Inv (i + j + 1) E2 A2) → ∃ E2 A2, forL cg body ds E A = .nx E2 A2 ∧ Inv (i + ds.length) E2 A2
  | [], i, E, A, h, _ => ⟨E, A, rfl, h⟩
  | d :: ds, i, E, A, h, k => by
    obtain ⟨E1, A1, E2, A2, h1, h2, h3⟩ := k 0 d E A rfl h
    obtain ⟨E3, A3, h4, h5⟩ := forL_inv Inv ds (i + 1) E2 A2 h3 fun j d' E A e q => by
      have := k (j + 1) d' E A (by simpa using e) (by rw [show i + (j + 1) = i + 1 + j by omega]; exact q)
      rw [show i + (j + 1) + 1 = i + 1 + j + 1 by omega] at this
      exact this
    refine ⟨E3, A3, ?_, by rw [List.length_cons, show i + (ds.length + 1) = i + 1 + ds.length by omega]; exact h5⟩
    show (match cg d E A with
      | .nx E1 A1 => match body E1 A1 with
        | .nx E2 A2 => forL cg body ds E2 A2
        | .ct E2 A2 => forL cg body ds E2 A2
        | .bk E2 A2 => .nx E2 A2
        | r => r
      | _ => .no) = _
    rw [h1]
    show (match body E1 A1 with
        | .nx E2 A2 => forL cg body ds E2 A2
        | .ct E2 A2 => forL cg body ds E2 A2
        | .bk E2 A2 => .nx E2 A2
        | r => r) = _
    rcases h2 with h2 | h2 <;> rw [h2] <;> exact h4
/-- a comprehension that leaves the heap as it is -/
theorem lcL_pure {cg : CG} {ct : CB} {ce : CE} {E : SA} {A : HA} (t : D → Bool) (f : D → D) : ∀ ds : List D, (∀ d ∈ ds, ∃ E1, cg d E A = .nx E1 A ∧ ct E1 A = .ok (t d) A ∧ (t d = true → ce E1 A = .ok (f d) A)) → lcL cg ct ce E ds A = .ok ((ds.filter t).map f) A
  | [], _ => rfl
  | d :: ds, h => by
    obtain ⟨E1, h1, h2, h3⟩ := h d List.mem_cons_self
    have ih := lcL_pure t f ds fun d hd => h d (List.mem_cons_of_mem _ hd)
    unfold lcL
    rw [h1]
    simp only [h2, R.nox, R.bind]
    cases ht : t d with
    | false => simp only [Bool.false_eq_true, if_false, ih, List.filter_cons, ht]
    | true => simp only [if_true, h3 ht, ih, List.filter_cons, ht, List.map_cons]
theorem ev_lcH {vs : List Nat} {ci : CI} {cg : CG} {ct : CB} {ce : CE} {E : SA} {A A1 A2 : HA} {ds xs : List D} (hi : ci E A = .ok (.fix ds) A1) (h : lcL cg ct ce (wipeA E vs) ds A1 = .ok xs A2) : cLcH vs ci cg ct ce E A = .ok (.ref A2.length) (A2 ++ [.lst xs]) := by
  unfold cLcH cLcI
  rw [hi]
  simp only [R.bind, h, R.nox]
theorem ev_lc {vs : List Nat} {ci : CI} {cg : CG} {ct : CB} {ce : CE} {E : SA} {A A1 A2 : HA} {ds xs : List D} (hi : ci E A = .ok (.fix ds) A1) (h : lcL cg ct ce (wipeA E vs) ds A1 = .ok xs A2) : cLc vs ci cg ct ce E A = .ok (.lst xs) A2 := by
  unfold cLc cLcI
  rw [hi]
  simp only [R.bind, h, R.nox]
theorem ev_for {ci : CI} {cg : CG} {body : CS} {E E2 : SA} {A A1 A2 : HA} {ds : List D} (hi : ci E A = .ok (.fix ds) A1) (h : forL cg body ds E A1 = .nx E2 A2) : cFor ci cg body E A = .nx E2 A2 := by
  unfold cFor
  rw [hi]
  exact h
theorem filter_all {α : Type} (l : List α) : l.filter (fun _ => true) = l := by simp
/-- the cells -/
theorem folded_ok (ns : List Int) (A : HA) : ∃ cs : List Int, c_law_folded [.lst (ns.map .int)] A = .ok (.ref A.length) (A ++ [.lst (cs.map .int)]) ∧ cs.length = 64 := by
  have body : ∃ cs : List Int, cs.length = 64 ∧ b_law_folded (startA 4 [.lst (ns.map .int)]) A = .rt (.ref A.length) (A ++ [.lst (cs.map .int)]) := by
    unfold b_law_folded
    have e0 : startA 4 [.lst (ns.map .int)] = [some (.lst (ns.map .int)), none, none, none] := rfl
    rw [e0]
    -- the first list
    obtain ⟨xs, hx, s1⟩ : ∃ xs : List Int, xs.length = 64 ∧ cSet 2 (cLcH [1] (iRng1 (cCons (cC (.int 64)) cNil)) (gSetN 1) cYes (c2 pAdd (cC (.int 17)) (cVar 1))) [some (.lst (ns.map .int)), none, none, none] A
        = .nx [some (.lst (ns.map .int)), none, some (.ref A.length), none] (A ++ [.lst (xs.map .int)]) := by
      refine ⟨(List.range 64).map fun i => 17 + (0 + (i : Nat) : Int), by simp, ?_⟩
      have hl : lcL (gSetN 1) cYes (c2 pAdd (cC (.int 17)) (cVar 1)) (wipeA [some (.lst (ns.map .int)), none, none, none] [1]) (intsD 0 64) A = .ok ((((List.range 64).map fun i => 17 + (0 + (i : Nat) : Int))).map .int) A := by
        rw [lcL_pure (fun _ => true) (fun d => match d with | .int i => .int (17 + i) | d => d) (intsD 0 64) fun d hd => ?_]
        · unfold intsD
          rw [filter_all, List.map_map, List.map_map]
          rfl
        · unfold intsD at hd
          obtain ⟨i, _, rfl⟩ := List.mem_map.mp hd
          exact ⟨_, rfl, rfl, fun _ => (ev_c2 ev_c (ev_var rfl)).trans ev_add⟩
      rw [ev_set (ev_lcH (ds := intsD 0 64) rfl hl)]
      rfl
    rw [cSeq_nx s1]
    have at_ : ∀ ys : List Int, (A ++ [AO.lst (ys.map D.int)])[A.length]? = some (.lst (ys.map .int)) := fun ys => by simp
    have set_ : ∀ (ys : List Int) (o : AO), (A ++ [AO.lst (ys.map D.int)]).set A.length o = A ++ [o] := fun ys o => by simp
    let Inv : SA → HA → Prop := fun E B => E.length = 4 ∧ E[2]? = some (some (.ref A.length)) ∧ ∃ ys : List Int, ys.length = 64 ∧ B = A ++ [.lst (ys.map .int)]
    -- the first loop
    have L1 : ∃ E2 B2, cFor (iEnumD (cCons (cVar 0) cNil)) (gTupN 2 (gsCons (gSetN 1) (gsCons (gSetN 3) gsNil))) (cAsg (c2 pMod (cCall pInt (cCons (c2 pAdd (c2 pMul (c2 pGet (cVar 2) (c2 pMod (cCall pInt (cCons (cVar 1) cNil)) (cC (.int 64)))) (cC (.int 48271))) (cVar 3)) cNil)) (cC (.int 2147483647))) (gPut (cVar 2) (c2 pMod (cCall pInt (cCons (cVar 1) cNil)) (cC (.int 64)))))
        [some (.lst (ns.map .int)), none, some (.ref A.length), none] (A ++ [.lst (xs.map .int)]) = .nx E2 B2 ∧ Inv E2 B2 := by
      refine (fun ⟨E2, B2, h1, h2⟩ => ⟨E2, B2, ev_for rfl h1, h2⟩) (forL_inv (cg := gTupN 2 (gsCons (gSetN 1) (gsCons (gSetN 3) gsNil))) (body := cAsg (c2 pMod (cCall pInt (cCons (c2 pAdd (c2 pMul (c2 pGet (cVar 2) (c2 pMod (cCall pInt (cCons (cVar 1) cNil)) (cC (.int 64)))) (cC (.int 48271))) (cVar 3)) cNil)) (cC (.int 2147483647))) (gPut (cVar 2) (c2 pMod (cCall pInt (cCons (cVar 1) cNil)) (cC (.int 64))))) (fun _ E B => Inv E B) (enumD 0 (ns.map .int)) 0 [some (.lst (ns.map .int)), none, some (.ref A.length), none] (A ++ [.lst (xs.map .int)]) ⟨rfl, rfl, xs, hx, rfl⟩ ?_)
      · rintro j d E B hd ⟨hl, h2, ys, hy, rfl⟩
        rw [enumD_get, List.getElem?_map, Option.map_map] at hd
        obtain ⟨z, hz, rfl⟩ := Option.map_eq_some_iff.mp hd
        obtain ⟨w, hw⟩ : ∃ w : Int, w = ((0 + j : Nat) : Int) := ⟨_, rfl⟩
        let E1 := (E.set 1 (some (D.int w))).set 3 (some (.int z))
        have f1 : E1[1]? = some (some (.int w)) := by
          show ((E.set 1 _).set 3 _)[1]? = _
          rw [get_set_E (by decide), List.getElem?_set_self (by omega)]
        have f2 : E1[2]? = some (some (.ref A.length)) := by
          show ((E.set 1 _).set 3 _)[2]? = _
          rw [get_set_E (by decide), get_set_E (by decide)]; exact h2
        have f3 : E1[3]? = some (some (.int z)) := List.getElem?_set_self (by simp; omega)
        have b0 : 0 ≤ w % 64 := Int.emod_nonneg _ (by decide)
        have b1 : w % 64 < ys.length := by rw [hy]; exact Int.emod_lt_of_pos _ (by decide)
        have t0 : c2 pMod (cCall pInt (cCons (cVar 1) cNil)) (cC (.int 64)) E1 (A ++ [.lst (ys.map .int)]) = .ok (.int (w % 64)) _ := (ev_c2 ((ev_call1 (ev_var f1)).trans ev_int) ev_c).trans (ev_mod (by decide))
        have t1 := (ev_c2 (p := pMul) ((ev_c2 (p := pGet) (ev_var f2) t0).trans (get_ints (at_ ys) (w % 64) b0 b1)) (ev_c (d := .int 48271))).trans (ev_mul (by simp [show small64 48271 = true by decide]))
        have t2 := (ev_c2 (p := pMod) ((ev_call1 (c := pInt) ((ev_c2 (p := pAdd) t1 (ev_var f3)).trans ev_add)).trans ev_int) (ev_c (d := .int 2147483647))).trans (ev_mod (by decide))
        refine ⟨E1, _, E1, _, ?_, .inl ((ev_asg t2 (put_list (a := A.length) (i := w % 64) (ev_var f2) t0 (at_ ys) b0 (by simpa using b1))).trans rfl), by simp [E1, hl], f2, ys.set (w % 64).toNat ((ys.getD (w % 64).toNat 0 * 48271 + z) % 2147483647), by simp [hy], by rw [set_, map_set_int]⟩
        show gTupN 2 _ (.tup [.int ((0 + j : Nat) : Int), .int z]) E _ = _
        rw [← hw]
        rfl
    obtain ⟨E2, B2, l1, hl, h2, ys, hy, rfl⟩ := L1
    rw [cSeq_nx l1]
    have L2 : ∃ E3 B3, cFor (iRng2 (cCons (cC (.int 1)) (cCons (cC (.int 64)) cNil))) (gSetN 1) (cAsg (c2 pMod (cCall pInt (cCons (c2 pAdd (c2 pGet (cVar 2) (cVar 1)) (c2 pMul (c2 pGet (cVar 2) (c2 pSub (cVar 1) (cC (.int 1)))) (cC (.int 16807)))) cNil)) (cC (.int 2147483647))) (gPut (cVar 2) (cVar 1))) E2 (A ++ [.lst (ys.map .int)]) = .nx E3 B3 ∧ Inv E3 B3 := by
      refine (fun ⟨E3, B3, h3, h4⟩ => ⟨E3, B3, ev_for rfl h3, h4⟩) (forL_inv (cg := gSetN 1) (body := cAsg (c2 pMod (cCall pInt (cCons (c2 pAdd (c2 pGet (cVar 2) (cVar 1)) (c2 pMul (c2 pGet (cVar 2) (c2 pSub (cVar 1) (cC (.int 1)))) (cC (.int 16807)))) cNil)) (cC (.int 2147483647))) (gPut (cVar 2) (cVar 1))) (fun _ E B => Inv E B) (intsD 1 63) 0 E2 (A ++ [.lst (ys.map .int)]) ⟨hl, h2, ys, hy, rfl⟩ ?_)
      · rintro j d E B hd ⟨hl, h2, ys, hy, rfl⟩
        unfold intsD at hd
        rw [List.getElem?_map] at hd
        obtain ⟨i, hi, rfl⟩ := Option.map_eq_some_iff.mp hd
        have hi63 : i < 63 := by
          have := List.mem_of_getElem? hi
          simpa using this
        obtain ⟨w, hw⟩ : ∃ w : Int, w = 1 + (i : Nat) := ⟨_, rfl⟩
        rw [← hw]
        let E1 := E.set 1 (some (D.int w))
        have f1 : E1[1]? = some (some (.int w)) := List.getElem?_set_self (by omega)
        have f2 : E1[2]? = some (some (.ref A.length)) := (get_set_E (by decide)).trans h2
        have b1 : w < ys.length := by rw [hy]; omega
        have t1 := (ev_c2 (p := pGet) (ev_var f2) (ev_var f1)).trans (get_ints (at_ ys) w (by omega) b1)
        have t2 := (ev_c2 (p := pMul) ((ev_c2 (p := pGet) (ev_var f2) ((ev_c2 (p := pSub) (ev_var f1) (ev_c (d := .int 1))).trans ev_sub)).trans (get_ints (at_ ys) (w - 1) (by omega) (by omega))) (ev_c (d := .int 16807))).trans (ev_mul (by simp [show small64 16807 = true by decide]))
        have t3 := (ev_c2 (p := pMod) ((ev_call1 (c := pInt) ((ev_c2 (p := pAdd) t1 t2).trans ev_add)).trans ev_int) (ev_c (d := .int 2147483647))).trans (ev_mod (by decide))
        exact ⟨E1, _, E1, _, rfl, .inl ((ev_asg t3 (put_list (a := A.length) (i := w) (ev_var f2) (ev_var f1) (at_ ys) (by omega) (by simpa using b1))).trans rfl), by simp [E1, hl], f2, ys.set w.toNat ((ys.getD w.toNat 0 + ys.getD (w - 1).toNat 0 * 16807) % 2147483647), by simp [hy], by rw [set_, map_set_int]⟩
    obtain ⟨E3, B3, l2, _, h3, zs, hz, rfl⟩ := L2
    rw [cSeq_nx l2]
    exact ⟨zs, hz, ev_ret (ev_var h3)⟩
  obtain ⟨cs, h1, h2⟩ := body
  refine ⟨cs, ?_, h1⟩
  unfold c_law_folded runB
  rw [h2]
end Sm
namespace Sm
open PySem PySem.Spec PyProof.Rows L2
variable {F : F} {pos : Pos}
/-- x, y = a, b -/
noncomputable def cPar (i j : Nat) (ca cb : CE) : CS := fun E A => RSt.of (ca E A) E fun d A1 => RSt.of (cb E A1) E fun e A2 => .nx ((E.set i (some d)).set j (some e)) A2
theorem js_par {i j : Nat} {x y : Str} {a b : Expr} {ca cb : CE} {px py pt : Pos} {kt k2 : Nat} {pt2 : Pos} (hi : F.N[i]? = some x) (hj : F.N[j]? = some y) (hij : i ≠ j) (hx : F.scope.names.lookup x = some .local) (hy : F.scope.names.lookup y = some .local) (ha : JE F a ca) (hb : JE F b cb)
    (hw : ∀ X : Cx, X.env.scope = F.scope → swappedStores [.Tuple [.Name x px, .Name y py] kt pt] (.Tuple [a, b] k2 pt2) X.env = pure (some [x, y]))
    (hs : ∀ X : Cx, swapsWithSole [.Tuple [.Name x px, .Name y py] kt pt] (.Tuple [a, b] k2 pt2) pos.line X.env = pure false := by intro _; rfl)
    (h1 : ∀ X : Cx, starEach [a, b] X.env = (false, eval a X.env) :: starEach [b] X.env := by intro _; rfl) (h2 : ∀ X : Cx, starEach [b] X.env = (false, eval b X.env) :: starEach [] X.env := by intro _; rfl) :
    JS' F (.Assign [.Tuple [.Name x px, .Name y py] kt pt] (.Tuple [a, b] k2 pt2) pos) (cPar i j ca cb) := by
  intro W X ok
  refine PS.imp (ps_par ok.calm (by rw [ok.N]; exact ok.nd) (by rw [ok.N]; exact hi) (by rw [ok.N]; exact hj) hij (by rw [ok.sc]; exact hx) (by rw [ok.sc]; exact hy) (pa_cons (ha W X ok.toOk) (pa_cons (hb W X ok.toOk) pa_nil (h2 X)) (h1 X)) (hw X ok.sc) (hs X)) ?_
  rintro D σ H ⟨m, E, A, rh, rs, q⟩
  refine ⟨m, E, A, rh, rs, PoS.bind (ρ := rE F.g) rs q fun m1 H1 d v A1 g1 rh1 dv q1 => ⟨m1, E, A1, rh1, rs.mono g1, PoS.bind (ρ := rE F.g) (rs.mono g1) q1 fun m2 H2 e w A2 g2 rh2 dw q2 => ⟨v, w, rfl, q2.nx rh2 ((((rs.mono g1).mono g2).set i (dv.mono g2)).set j dw)⟩⟩⟩
end Sm
namespace Sm
open PySem PySem.Spec PyProof.Rows L2
variable {F : F} {pos : Pos}
structure XRs (g : G) (c : Nat) : Prop where
  sub : PySem.W.subIn g.K (.ref (g.ca c)) (.type "BaseException") = some true
  ty : PySem.W.typeIn g.K (.ref (g.ca c)) = some (.type "type")
theorem run_r1 {g : G} {c : Nat} {n : Str} (T : XCls g c n) {X : Cx} {W : WX} {k : Nat} (hp : X.prog = g.prog) (hK : X.K = g.K) (hmg : X.mg = g.mg) (hr : Room (k + 1) X.A) {pins : List (Addr × Obj)} {σ : St} {H : Hp} {s : Shared} {Q : L2.XK} {y : V} {u : Value} {args : List Value} {kw : List (Str × Value)}
    (ha : (args = [u] ∧ kw = []) ∨ (args = [] ∧ kw = [(n, u)])) (I : Inv X pins σ H s) (r : RelV y u)
    (rs : XRs g c) (h : ∀ dd, H dd = none → Q (.ref (g.ca c)) (some dd) (upd H dd (.xd [(n, y)]))) : wpAny (model X.prog X.w) X.A (call (.ref (g.ca c)) args kw) (MkP X pins σ Q) X.xe s := by
  obtain ⟨f, name, qual, params, scope, ar, p0, p1, p2, p3, p4, p5, p6, p7, p8, p9, msg, j, pl, Z, har, hpl, hn, hb⟩ := T.ex
  have kin : g.K.In s.heap := hK ▸ I.kIn
  obtain ⟨nm, N', qn, bs, bm, hdct, sn, sub, ab, col, dd0, k0, k1, k2, k3, k5, hC, hT⟩ := PySem.W.excInit_of kin Z.q
  obtain ⟨mb, hmb, hbb⟩ := I.mod.blt
  obtain ⟨hp0, gn, dr, tk, os⟩ := s
  have hal : args.length ≤ sizeLine := by
    rw [sizeLine_eq]
    rcases ha with ⟨rfl, _⟩ | ⟨rfl, _⟩ <;> simp
  have kk : ∀ b o, hp0.get? b = some o → ((hp0.push (PySem.W.kdv_tup args)).push (excO (g.ca c) hp0.objs.size)).get? b = some o := fun b o e => Heap.get?_push_of_some _ (Heap.get?_push_of_some _ e)
  have hx : ((hp0.push (PySem.W.kdv_tup args)).push (excO (g.ca c) hp0.objs.size)).get? (hp0.objs.size + 1) = some (excO (g.ca c) hp0.objs.size) := by heap_get
  have hxK : g.K.lookup (hp0.objs.size + 1) = none := by
    cases e : g.K.lookup (hp0.objs.size + 1) with
    | none => rfl
    | some o =>
      have := Heap.lt_size (kin _ _ e)
      exact absurd this (by show ¬ hp0.objs.size + 1 < hp0.objs.size; omega)
  rw [hp]
  have hr2 := hr.make (g.ca c) args kw
  refine wpAny_call (x_call hT hC (PySem.W.looks_findIn kin Z.init) (fun self => PySem.W.bind_fn kin self Z.ty) hal ?_)
  refine x_init1 (u := u) (mg := g.mg) (mb := mb) Z har hpl T.no hn T.sn T.nd (fun b o e => kk b o (kin b o e)) ((hmg ▸ I.mod.glob).keeps fun b o e => kk b o (I.bk b o e)) (hmb.keeps fun b o e => kk b o (I.bk b o e)) ((hbb _ (by decide)).trans rfl) T.sup (I.nolimit.keeps kk) hr2.depth
    (fun fd e ed => ?_) hx hxK (fun h' t' t1 dx k3 l3 n3 e3 ns3 => ?_)
  · rcases ha with ⟨rfl, rfl⟩ | ⟨rfl, rfl⟩
    · exact (hb fd e ed _ _ _).1
    · exact (hb fd e ed _ _ _).2
  · have hk : ∀ b o, hp0.get? b = some o → h'.get? b = some o := fun b o e => k3 b o (Nat.ne_of_lt (Nat.lt_succ_of_lt (Heap.lt_size e))) (kk b o e)
    have la : hp0.objs.size ≤ hp0.objs.size + 1 := Nat.le_succ _
    have ld : hp0.objs.size ≤ dx := Nat.le_trans (by rw [Heap.size_push, Heap.size_push]; omega) l3
    have na : H (hp0.objs.size + 1) = none := I.hok.fresh la
    have nd : H dx = none := I.hok.fresh ld
    have ne : ∀ b o, hp0.get? b = some o → b ≠ hp0.objs.size + 1 ∧ b ≠ dx := fun b o e => ⟨Nat.ne_of_lt (Nat.lt_succ_of_lt (Heap.lt_size e)), Nat.ne_of_lt (Nat.lt_of_lt_of_le (Heap.lt_size e) ld)⟩
    let G := PySem.W.hideAll h' [hp0.objs.size + 1]
    have hG : ∀ b o, b ≠ hp0.objs.size + 1 → h'.get? b = some o → G.get? b = some o := fun b o n e => PySem.W.hideAll_get _ e (by simpa using n)
    have gH : ∀ b o, G.get? b = some o → h'.get? b = some o := fun b o e => PySem.W.of_hideAll _ e
    have hk2 : ∀ b o, hp0.get? b = some o → G.get? b = some o := fun b o e => hG b o (ne b o e).1 (hk b o e)
    have un : Un X.fs [] H (upd H dx (.xd [(n, y)])) hp0 G :=
      { keep := fun b o q _ _ _ => hk2 b o q
        slot := fun b o q _ _ _ => ⟨o.slots, hk2 b o q⟩
        free := fun b o q m _ => by rw [upd_ne (ne b o q).2]; exact m
        there := fun b o q _ => ⟨o, hk2 b o q⟩
        tups := fun b xs q => by rw [upd_ne (ne_of_none q nd)]; exact q
        frzs := fun b o v q => by rw [upd_ne (ne_of_none q nd)]; exact q
        tbls := fun b ps q => ⟨#[], by rw [upd_ne (ne_of_none q nd), q]; simp⟩ }
    have nsG : ∀ mA, h'.Ns1 dx mA → G.Ns1 dx mA := fun mA ⟨od, es, ep, e, r⟩ => ⟨od, es, ep, hG _ _ n3 e, r⟩
    have I2 := I.un (t' := t') un fun b o q => by
      by_cases e2 : b = dx
      · subst e2
        rw [upd_same] at q
        cases q
        obtain ⟨mA, q1, q2⟩ := ns1_of r ns3
        exact ⟨mA, nsG mA q1, q2⟩
      · rw [upd_ne e2] at q
        exact (I.hok b o q).stay (fun a v _ z => hk2 a v z) (fun a z => by rw [upd_ne (ne_of_none z nd)]; exact z) fun a xs z => by rw [upd_ne (ne_of_none z nd)]; exact z
    have hnone : G.get? (hp0.objs.size + 1) = none := PySem.W.hideAll_none _ (by simp)
    exact ⟨rfl, hp0.objs.size + 1, _, _, _, _, .ref (g.ca c), some dx, rfl, I2, gH, hnone, e3, ⟨rfl, rfl⟩, rfl, rfl, by rw [upd_ne (Ne.symm n3)]; exact na, rfl, I2.bare, raises_own (hK ▸ rs.sub) (hK ▸ rs.ty), h dx nd⟩
noncomputable def cRaise1 (c : Nat) (ce : CE) : CS := fun E A => RSt.of (ce E A) E fun d A1 => .exc c [d] E A1
theorem exr_new {g : G} {c : Nat} {H : Hp} {m : List Addr} {A : HA} {ds : List D} {ys : List V} {dd : Addr} (hl : (g.ef c).length = ds.length) (rh : RH g H m A) (dv : DVs g H m ds ys) (nd : H dd = none) : EXR g (upd H dd (.xd ((g.ef c).zip ys))) m c ds (.ref (g.ca c)) (some dd) :=
  ⟨rfl, dd, ys, rfl, upd_same, rh.new nd, hl, dv.mono (Gr.new nd)⟩
theorem js_raise1 {k : Nat} {x n : Str} {c : Nat} {e : Expr} {ce : CE} {p pos' : Pos} (T : XCls F.g c n) (rs : XRs F.g c) (hk : F.k = k + 1) (hg : Gls F.scope x) (hm : F.g.mg x = some (.ref (F.g.ca c))) (he : JE F e ce) (hdb : (x == ("__debug__" : Str)) = false := by decide)
    (hs : ∀ X : Cx, starEach [e] X.env = (false, eval e X.env) :: starEach [] X.env := by intro _; rfl) (hpl : ∀ X : Cx, (backTo pos (starEach [] X.env)).any (·.1) = false := by intro _; rfl) : JS' F (.Raise (some (.Call (.Name x p) [e] [] pos)) none pos') (cRaise1 c ce) := by
  intro W X ok
  have hr : Room (k + 1) X.A := hk ▸ ok.room
  have pm : PMk X (.Call (.Name x p) [e] [] pos) (fun σ H Q => TEx F.g W ce σ H fun y H1 => ∀ dd, H1 dd = none → Q (.ref (F.g.ca c)) (some dd) (upd H1 dd (.xd [(n, y)]))) := by
    intro pins s σ H Q I h
    refine wpAny_Call_Name_kw (ld_glob I (ok.gl hg) (by rw [ok.mg]; exact hm) ?_ hdb)
    have ha : PA X [e] (tCons (TEx F.g W ce) tNil) := pa_cons (he W X ok.toOk) pa_nil (hs X)
    refine PySem.W.callWith_K (h₀ := X.base) I.ok.mod.kin (by rw [ok.K]; exact T.kp) (thn (ha.run pos pins s σ H (fun vs H1 => ∃ y, vs = [y] ∧ ∀ dd, H1 dd = none → Q (.ref (F.g.ca c)) (some dd) (upd H1 dd (.xd [(n, y)]))) I (by
      obtain ⟨m, E, A, rh, rs', q⟩ := h
      refine ⟨m, E, A, rh, rs', ?_⟩
      cases hc : ce E A with
      | ok d A1 => rw [hc] at q; exact fun m' v H' a r x => ⟨v, rfl, q m' v H' a r x⟩
      | exc => rw [hc] at q; exact q
      | no => rw [hc] at q; exact q)) fun us s1 ⟨vs, H1, I1, r1, y, ev, q1⟩ => ⟨I1.kIn, ?_⟩) (hs X) (hpl X)
    subst ev
    obtain ⟨u, rfl, ru⟩ := Vals.one r1
    exact run_r1 (W := W) T ok.prog ok.K ok.mg hr (.inl ⟨rfl, rfl⟩) I1 ru rs q1
  refine PS.imp (ps_raise ok.calm ok.tk pm) ?_
  rintro D σ H ⟨m, E, A, rh, rs', q⟩
  refine ⟨m, E, A, rh, rs', PoS.bind (ρ := rE F.g) rs' q fun m1 H1 d y A1 g1 rh1 dv q1 => fun dd nd => ?_⟩
  have ex := exr_new (c := c) (ds := [d]) (ys := [y]) (by rw [T.ef]; rfl) rh1 (.cons dv .nil) nd
  rw [T.ef] at ex
  exact q1 m1 σ _ _ _ (Gr.new nd) (rh1.upd nd) ((rs'.mono g1).mono (Gr.new nd)) ex
end Sm
namespace Sm
open PySem PySem.Spec PyProof.Rows L2
section
variable {X : Cx} {pins : List (Addr × Obj)} {σ : St} {H : Hp} {s : Shared}
/-- an object that stands in the state becomes a tracked one -/
theorem inv_adopt {a : Addr} {o : HO} (I : Inv X pins σ H s) (na : H a = none) (n0 : X.s_0.heap.get? a = none) (nL : a ≠ X.env.locals) (nC : ∀ y c, X.env.cells.lookup y = some c → c ≠ a) (nP : ∀ p ∈ X.pn ++ pins, p.1 ≠ a)
    (new : ObjOk X.prog X.w (upd H a o) s.heap a o) : Inv X pins σ (upd H a o) s :=
  { ok := I.ok, os := I.os, bare := I.bare, loc := I.loc, cell := I.cell, len := I.len
    base :=
      { keep := I.base.keep, slot := I.base.slot, there := I.base.there
        free := fun b ob q m e => by rw [upd_ne (fun z => by rw [z, n0] at q; cases q)]; exact I.base.free b ob q m e
        tups := fun b xs q => by
          have z := I.base.tups b xs q
          rw [upd_ne (ne_of_none z na)]; exact z
        frzs := fun b ob v q => by
          have z := I.base.frzs b ob v q
          rw [upd_ne (ne_of_none z na)]; exact z
        tbls := fun b ps q => by
          obtain ⟨more, z⟩ := I.base.tbls b ps q
          exact ⟨more, by rw [upd_ne (ne_of_none z na)]; exact z⟩ }
    free := by rw [upd_ne (Ne.symm nL)]; exact I.free
    freeC := fun y c e => by rw [upd_ne (nC y c e)]; exact I.freeC y c e
    pin := fun p hp => by
      obtain ⟨h1, h2, h3⟩ := I.pin p hp
      exact ⟨h1, by rw [upd_ne (nP p hp)]; exact h2, h3⟩
    hok := fun b ob q => by
      by_cases e : b = a
      · subst e
        rw [upd_same] at q; cases q
        exact new
      · rw [upd_ne e] at q
        exact (I.hok b ob q).stay (fun _ _ _ z => z) (fun c z => by rw [upd_ne (ne_of_none z na)]; exact z) fun c xs z => by rw [upd_ne (ne_of_none z na)]; exact z }
end
/-- what the clause «except x as n: y = n» wishes of an exception of the body -/
noncomputable def wV (K : PySem.W.Frag) (c : Value) (i j : Nat) (Wout : WX) (D : Ends) : WX := fun cls d σ H =>
  ∃ b, PySem.W.exmOne K cls c = some b ∧ (b = true → ∃ C q, cls = .ref C ∧ d = some q ∧ ∀ a, H a = none → D.nx ((σ.set j (some (.ref a))).set i none) (upd H a (XO C q a))) ∧ (b = false → Wout cls d σ H)
section
variable {X : Cx} {x n y : Str} {c : Value} {i j : Nat} {body : List Stmt} {np nq py pos pos' ap : Pos} {tb : WX → TS} {Wout : WX}
theorem ps_tryv (hs : X.stack = X.env :: X.outer) (hf : X.env.frame = some X.env.locals) (hx : X.ex = []) (hN : X.N.Nodup) (hi : X.N[i]? = some n) (hln : X.env.kindOf n = some .local) (hj : X.N[j]? = some y) (hly : X.env.scope.names.lookup y = some .local) (hij : i ≠ j)
    (hnd : (n == ("__debug__" : Str)) = false) (hcd : (n == ("__classdict__" : Str)) = false) (hc : Names X x c) (tk : Takes X Wout)
    (hb : ∀ (W : WX) (pn : List (Addr × Obj)) (xe : Value → Shared → Prop), Takes (X.tr pn xe) W → PassesOwn (model X.prog X.w) X.A X.env xe → PSs (X.tr pn xe) body (tb W)) :
    PS X (.Try body [.ExceptHandler (some (.Name x np)) (some n) [.Assign [.Name y py] (.Name n nq) ap] pos'] [] [] pos) (fun D σ H => tb (wV X.K c i j Wout D) D σ H) := by
  refine ⟨fun pins s σ H D I h => ?_⟩
  have ok := I.ok
  have frm : X.A.frames = some (X.env :: X.outer) := ok.frames.trans (congrArg some hs)
  let cl : List ExceptHandler := [.ExceptHandler (some (.Name x np)) (some n) [.Assign [.Name y py] (.Name n nq) ap] pos']
  let xq : Value → Shared → Prop := fun e s₁ => wpAny (model X.prog X.w) X.A (noteFrame e X.env) (fun _ s₂ => wpAny (model X.prog X.w) X.A (setFlight e none) (fun _ s₃ => wpAny (model X.prog X.w) X.A (handleBy e X.env cl) (SP X pins D) X.xe s₃) X.xe s₂) X.xe s₁
  have caught : Takes (X.tr (X.pn ++ pins) xq) (wV X.K c i j Wout D) := by
    rintro u s' ⟨a, B, sI, pins', σ', H', cls, d, rfl, J', nb, up, sky, na, os, ag, b, hb1, hyes, hno⟩
    have J : Inv X pins σ' H' sI := J'.ofTry ok
    have sky2 : Sky B (X.env :: X.outer) a (Zc cls d) X.env.locals s'.heap := hs ▸ sky
    show wpAny (model X.prog X.w) X.A (noteFrame (.ref a) X.env) _ _ _
    refine Sky.land Zc.steady frm hf sky2 fun h3 fl3 up3 => ?_
    obtain ⟨oe3, vs3, he3, hz3, hd3⟩ := fl3.there
    have J3 : Inv X pins σ' H' { s' with heap := h3 } := J.landed nb fl3.1 (up.trans up3) os ag
    have nfr : a ∉ frs (X.env :: X.outer) := fun hm => by
      obtain ⟨_, o', e', hnf⟩ := fl3.2.2.1.mem hm
      rw [he3] at e'; cases e'
      exact hnf _ hd3
    have nL : a ≠ X.env.locals := fun z => nfr (List.mem_filterMap.mpr ⟨X.env, List.mem_cons_self, by rw [hf, z]⟩)
    have nF : a ∉ X.fs := fun hm => by
      obtain ⟨e, he, q⟩ := List.mem_filterMap.mp hm
      exact nfr (List.mem_filterMap.mpr ⟨e, List.mem_cons_of_mem _ he, q⟩)
    have new : sI.heap.get? a = none := by
      cases q : sI.heap.get? a with
      | none => rfl
      | some o =>
        have z := nb a o q (by rw [show (X.tr (X.pn ++ pins) xq).stack = X.env :: X.outer from hs]; exact nfr)
        rw [fl3.2.1] at z; cases z
    refine wpAny_handleBy_cons (codeAny_handlers_test ?_) (by intro q; cases q)
    have LT : PySem.W.Looks (model X.prog X.w) h3 (typeOf (.ref a)) cls := fun A Q E s k q => wpAny_typeOf_ref (k _ _ he3) (by rw [hz3.1]; exact q)
    have LM := PySem.W.exm_one (M := model X.prog X.w) J3.kIn LT hb1
    have S3 := J3.suite he3 hd3 na nL nF
    have test : ∀ {Q : Value → Shared → Prop} {E : Value → Shared → Prop}, Q c { s' with heap := h3 } → wpAny (model X.prog X.w) (X.A.mark (some (.ref a))) (eval (.Name x np) X.env) Q E { s' with heap := h3 } := fun {Q E} q => by
      obtain ⟨hg, hdb, hm | ⟨hm, hv, hnn⟩⟩ := hc
      · exact ld_glob (X := X.suite a ((a, oe3) :: (X.pn ++ pins))) S3 hg hm q hdb
      · exact ld_blt (X := X.suite a ((a, oe3) :: (X.pn ++ pins))) S3 hg hm hv q hnn hdb
    refine test (LM.here ?_)
    cases b with
    | false =>
      show wpAny _ X.A (handleBy (.ref a) X.env []) _ _ _
      refine wpAny_handleBy_nil ?_
      obtain ⟨_, _, _, oe, vs, T, oT, ts', he, hz, hd, h1, hr⟩ := id fl3
      unfold PySem.passOn
      refine wpAny_bind (wpAny_field he hd h1 ?_)
      rw [if_neg (show ¬ ((Value.ref T == Value.none) = true) from by simp)]
      have fin : wpAny (model X.prog X.w) X.A (setFlight (.ref a) X.env.frame) (fun _ s4 => wpAny (model X.prog X.w) X.A (throw (.ref a) : Sem Flow) (SP X pins D) X.xe s4) X.xe { s' with heap := h3 } := by
        rw [hf]
        exact HandSPX.setFlight_upZ fl3 fun h4 hh4 up4 => wpAny_throw (tk _ _ ⟨a, B, sI, pins, σ', H', cls, d, rfl, J, nb, (up.trans up3).trans up4, .inr (.inr (by rw [hs]; exact hh4)), na, os, ag, hno rfl⟩)
      first
        | exact wpAny_bind (wpAny_pure (wpAny_bind fin))
        | exact wpAny_bind fin
    | true =>
      obtain ⟨C, q, ec, ed, hD⟩ := hyes rfl
      refine codeAny_handlers_suite_as ?_
      refine HandSPX.lands_againZ fl3 fun h4 fl4 up4 => ?_
      have J4 : Inv X pins σ' H' { s' with heap := h4 } := J.landed nb fl4.1 ((up.trans up3).trans up4) os ag
      obtain ⟨oe4, vs4, he4, hz4, hd4⟩ := fl4.there
      have S4 := J4.suite he4 hd4 na nL nF
      refine store_ok (X := X.suite a ((a, oe4) :: (X.pn ++ pins))) (v := .ref a) S4 hN hi (.inl hln) rfl (fun s5 S5 => ?_) (.inr hln)
      have rule : PSs (X.suite a ((a, oe4) :: (X.pn ++ pins))) [.Assign [.Name y py] (.Name n nq) ap] _ := pss_one (ps_set (i := j) hN hj (.inl hly) (pe_var (i := i) hi (.inl hln) hnd hcd) (by rfl) (.inr hly))
      have hlen : i < σ'.length := by rw [J.len]; exact (List.getElem?_eq_some_iff.mp hi).1
      refine wpAny_mono (rule.run [] s5 _ H' { nx := fun σ6 H6 => σ6 = (σ'.set i (some (.ref a))).set j (some (.ref a)) ∧ H6 = H', rt := fun _ _ => False } S5 ⟨_, List.getElem?_set_self hlen, rfl, rfl⟩) (fun f s6 hsp => ?_) (fun _ _ z => False.elim z)
      cases f with
      | next =>
        obtain ⟨σ6, H6, S6, e1, e2⟩ := hsp
        subst e1
        subst e2
        have pin := S6.pin (a, oe4) (List.mem_append_left _ List.mem_cons_self)
        have J6 : Inv X pins ((σ'.set i (some (.ref a))).set j (some (.ref a))) H6 s6 := S6.unsuite ok
        have nIn : ∀ b o, sI.heap.get? b = some o → b ≠ a := fun b o e z => by rw [z, new] at e; cases e
        have J7 : Inv X pins ((σ'.set i (some (.ref a))).set j (some (.ref a))) (upd H6 a (XO C q a)) s6 := by
          refine inv_adopt J6 pin.2.1 ?_ nL (fun y' c' e => ?_) (fun p hp => ?_) ?_
          · cases z : X.s_0.heap.get? a with
            | none => rfl
            | some o =>
              obtain ⟨o', e⟩ := J.base.there a o z (by rw [hx]; simp)
              rw [new] at e; cases e
          · obtain ⟨w, z⟩ := J.cell y' c' e
            obtain ⟨o, e', _⟩ := z
            exact nIn _ _ e'
          · exact nIn _ _ (J.pin p hp).1
          · exact ⟨⟨oe4, vs4, pin.1, by rw [← ec, ← ed]; exact hz4, hd4⟩, ⟨oe4, pin.1⟩, fun h1 h2 ⟨oe, vs, z1, z2, z3⟩ z => ⟨oe, vs, z _ z1, z2, z3⟩⟩
        refine gone_ok J7 hN hi hln fun s7 I7 => ⟨_, _, I7, ?_⟩
        have e3 : ((σ'.set i (some (V.ref a))).set j (some (.ref a))).set i none = (σ'.set j (some (.ref a))).set i none := by
          rw [List.set_comm _ _ hij, List.set_set]
        rw [e3]
        exact hD a na
      | brk =>
        obtain ⟨_, _, _, z⟩ := hsp
        exact False.elim z
      | cont =>
        obtain ⟨_, _, _, z⟩ := hsp
        exact False.elim z
      | ret u =>
        obtain ⟨_, _, _, _, _, z⟩ := hsp
        exact False.elim z
  refine wpAny_Try_except (wpAny_mono ((hb (wV X.K c i j Wout D) (X.pn ++ pins) xq caught PassesOwn.looking).run [] s σ H D (I.toTry _) h) (fun f s1 hsp => ?_) fun _ _ z => z)
  cases f with
  | next =>
    obtain ⟨σ', H', J', q⟩ := hsp
    exact wpAny_execs_nil ⟨σ', H', J'.ofTry ok, q⟩
  | brk =>
    obtain ⟨σ', H', J', q⟩ := hsp
    exact ⟨σ', H', J'.ofTry ok, q⟩
  | cont =>
    obtain ⟨σ', H', J', q⟩ := hsp
    exact ⟨σ', H', J'.ofTry ok, q⟩
  | ret u =>
    obtain ⟨v, σ', H', J', r, q⟩ := hsp
    exact ⟨v, σ', H', J'.ofTry ok, r, q⟩
end
end Sm
namespace Sm
open PySem PySem.Spec PyProof.Rows L2
variable {F : F} {pos : Pos}
noncomputable def cTryV (mt : Nat → Option Bool) (i j : Nat) (cb : CS) : CS := fun E A => match cb E A with
  | .exc c ds E1 A1 => match mt c with
    | some true => .nx ((E1.set j (some (.exc c ds))).set i none) A1
    | some false => .exc c ds E1 A1
    | none => .no
  | r => r
theorem js_tryv {x n y : Str} {i j k : Nat} {body : List Stmt} {np nq py pos' ap : Pos} {cb : CS} {mt : Nat → Option Bool} (hi : F.N[i]? = some n) (hln : F.scope.names.lookup n = some .local) (hj : F.N[j]? = some y) (hly : F.scope.names.lookup y = some .local) (hij : i ≠ j)
    (hg : Gls F.scope x) (hm : F.g.mg x = some (.ref (F.g.ca k))) (hmt : ∀ c b, mt c = some b → PySem.W.exmOne F.g.K (.ref (F.g.ca c)) (.ref (F.g.ca k)) = some b) (hb : JL F body cb)
    (hdb : (x == ("__debug__" : Str)) = false := by decide) (hnd : (n == ("__debug__" : Str)) = false := by decide) (hcd : (n == ("__classdict__" : Str)) = false := by decide) :
    JS' F (.Try body [.ExceptHandler (some (.Name x np)) (some n) [.Assign [.Name y py] (.Name n nq) ap] pos'] [] [] pos) (cTryV mt i j cb) := by
  intro W X ok
  have nm : Names X x (.ref (F.g.ca k)) := ⟨ok.gl hg, hdb, .inl (by rw [ok.mg]; exact hm)⟩
  refine PS.imp (ps_tryv (i := i) (j := j) (tb := fun W' => TSx F.g W' cb) (Wout := W) ok.hs ok.hf ok.ex (by rw [ok.N]; exact ok.nd) (by rw [ok.N]; exact hi) (by show X.env.scope.names.lookup n = _; rw [ok.sc]; exact hln) (by rw [ok.N]; exact hj) (by rw [ok.sc]; exact hly) hij hnd hcd nm ok.tk (fun W' pn xe tk pass => ?_)) ?_
  · exact hb W' _ { prog := ok.prog, w := ok.w, K := ok.K, mg := ok.mg, base := ok.base, N := ok.N, sc := ok.sc, nd := ok.nd, room := ok.room, calm := ok.calm, gd := ok.gd, tk := tk, fnb := ok.fnb, tabB := ok.tabB, fn := ok.fn, hs := ok.hs, hf := ok.hf, ex := ok.ex, pass := pass }
  · rintro D σ H ⟨m, E, A, rh, rs, q⟩
    refine ⟨m, E, A, rh, rs, ?_⟩
    unfold cTryV at q
    cases hc : cb E A with
    | nx => simp only [hc] at q; exact q
    | rt => simp only [hc] at q; exact q
    | bk => simp only [hc] at q; exact q
    | ct => simp only [hc] at q; exact q
    | no => simp only [hc] at q; exact q
    | exc c ds E1 A1 =>
      simp only [hc] at q
      intro m' σ' H' cls d gr rh' rs' ex
      obtain ⟨rfl, dd, vs, rfl, hq, hqm, hl, dv⟩ := ex
      cases hmc : mt c with
      | none => simp only [hmc] at q; exact q.elim
      | some b =>
        simp only [hmc] at q
        refine ⟨b, by rw [ok.K]; exact hmt c b hmc, fun eb => ?_, fun eb => ?_⟩
        · subst eb
          refine ⟨F.g.ca c, dd, rfl, rfl, fun a na => ?_⟩
          have g2 : Gr m' m' H' (upd H' a (XO (F.g.ca c) dd a)) := Gr.new na
          have ne : dd ≠ a := ne_of_none hq na
          refine q m' _ _ (gr.trans g2) (rh'.upd na) (RS.unset (RS.set (rs'.mono g2) j (.exc upd_same (rh'.new na) ?_ hqm hl (dv.mono g2))) i)
          rw [upd_ne ne]; exact hq
        · subst eb
          exact q m' σ' H' _ _ gr rh' rs' ⟨rfl, dd, vs, rfl, hq, hqm, hl, dv⟩
end Sm
namespace Sm
open PySem PySem.Spec PyProof.Rows L2
mutual
noncomputable def pureD : D → Bool
  | .ref _ => false
  | .tup ds => pureDs ds
  | .lst ds => pureDs ds
  | .dct _ ds => pureDs ds
  | .exc _ ds => pureDs ds
  | .lam _ ds => pureDs ds
  | .wtp _ => false
  | _ => true
noncomputable def pureDs : List D → Bool
  | [] => true
  | d :: ds => pureD d && pureDs ds
end
mutual
/-- .. and no dicts -/
noncomputable def pureR : D → Bool
  | .ref _ => false
  | .dct _ _ => false
  | .lam _ _ => false
  | .wtp _ => false
  | .tup ds => pureRs ds
  | .lst ds => pureRs ds
  | .exc _ ds => pureRs ds
  | _ => true
noncomputable def pureRs : List D → Bool
  | [] => true
  | d :: ds => pureR d && pureRs ds
end
section
variable {g : G} {H : Hp} {m : List Addr}
theorem CellsV.to0 {cl : List (Str × Addr)} : ∀ {xs : List Str} {vs : List V}, CellsV H m cl xs vs → CellsV H [] cl xs vs
  | _, _, .nil => .nil
  | _, _, .cons h1 h2 h3 h4 h5 h6 => .cons h1 h2 (by simp) h4 h5 (CellsV.to0 h6)
theorem CellsQ.to0 {cl : List (Str × Addr)} {xs : List Str} {vs : List V} {df : Option Int} {T : Addr} (h : CellsQ H m cl xs vs df T) : CellsQ H [] cl xs vs df T := ⟨h.ok, h.v.to0, fun i e => let ⟨o, h1, h2, _⟩ := h.d i e; ⟨o, h1, h2, by simp⟩⟩
mutual
theorem DV.to0 : ∀ {d : D} {v : V}, pureD d = true → DV g H m d v → DV g H [] d v
  | _, _, _, .non => .non
  | _, _, _, .bl b => .bl b
  | _, _, _, .int i => .int i
  | _, _, _, .str x => .str x
  | _, _, _, .ty n => .ty n
  | _, _, e, .wtp _ _ _ => by unfold pureD at e; cases e
  | _, _, e, .tup h hs => .tup (h.imp (fun ⟨o, h1, h2, _⟩ => ⟨o, h1, h2, by simp⟩) id) (DVs.to0 (by unfold pureD at e; exact e) hs)
  | _, _, e, .lst h hs => .lst (h.imp (fun ⟨o, h1, _⟩ => ⟨o, h1, by simp⟩) id) (DVs.to0 (by unfold pureD at e; exact e) hs)
  | _, _, e, .dct ⟨o, h1, _⟩ hl hs => .dct ⟨o, h1, by simp⟩ hl (DVs.to0 (by unfold pureD at e; exact e) hs)
  | _, _, e, .ref h => by unfold pureD at e; cases e
  | _, _, _, .cls c => .cls c
  | _, _, _, .fn f => .fn f
  | _, _, e, .exc h1 h2 h3 h4 h6 h5 => .exc h1 (by simp) h3 (by simp) h6 (DVs.to0 (by unfold pureD at e; exact e) h5)
  | _, _, e, .lam h1 h2 h3 h4 h5 h6 => .lam h1 (by simp) h3 (by simp) h5.to0 (DVs.to0 (by unfold pureD at e; exact e) h6)
theorem DVs.to0 : ∀ {ds : List D} {vs : List V}, pureDs ds = true → DVs g H m ds vs → DVs g H [] ds vs
  | _, _, _, .nil => .nil
  | _, _, e, .cons h hs => by
    unfold pureDs at e
    rw [Bool.and_eq_true] at e
    exact .cons (DV.to0 e.1 h) (DVs.to0 e.2 hs)
end
/-- what stands at the abstract heap's addresses -/
theorem AOR.kind {o : AO} {p : Addr} (h : AOR g H m o p) : ∃ u, H p = some u ∧ (∀ ob xs, u ≠ .frz ob (.tup xs)) ∧ (∀ ob xs, u ≠ .frz ob (.lst xs)) ∧ (¬ SmX u) ∧ (∀ fs, u ≠ .xd fs) := by
  cases o with
  | lst ds => obtain ⟨_, h, _⟩ := h; exact ⟨_, h, by simp, by simp, (fun z => by obtain ⟨_, z⟩ := z.ext; cases z), by simp⟩
  | dct lk kvs =>
    cases lk with
    | false => obtain ⟨_, h, _⟩ := h; exact ⟨_, h, by simp, by simp, (fun z => by obtain ⟨_, z⟩ := z.ext; cases z), by simp⟩
    | true => obtain ⟨_, _, h, _⟩ := h; exact ⟨_, h, by simp, by simp, (fun z => by obtain ⟨_, z⟩ := z.ext; cases z), by simp⟩
  | dtt lk kvs =>
    cases lk with
    | false => obtain ⟨_, h, _⟩ := h; exact ⟨_, h, by unfold DTO; simp, by unfold DTO; simp, (fun z => z.ne rfl), by unfold DTO; simp⟩
    | true => obtain ⟨_, _, h, _⟩ := h; exact ⟨_, h, by unfold DTO; simp, by unfold DTO; simp, (fun z => by obtain ⟨_, z⟩ := z.ext; cases z), by simp⟩
  | ins c fs => obtain ⟨_, _, h, _⟩ := h; exact ⟨_, h, by simp, by simp, (fun z => by obtain ⟨_, z⟩ := z.ext; cases z), by simp⟩
theorem RH.not_in {A : HA} (rh : RH g H m A) {p : Addr} {u : HO} (e : H p = some u) (k : (∃ ob xs, u = .frz ob (.tup xs)) ∨ (∃ ob xs, u = .frz ob (.lst xs)) ∨ SmX u ∨ (∃ fs, u = .xd fs)) : p ∉ m := fun hp => by
  obtain ⟨o, h⟩ := Paired.memL rh.at_ hp
  obtain ⟨u', e', k1, k2, k3, k4⟩ := AOR.kind h
  rw [e] at e'
  cases e'
  rcases k with ⟨_, _, z⟩ | ⟨_, _, z⟩ | z | ⟨_, z⟩
  · exact k1 _ _ z
  · exact k2 _ _ z
  · exact k3 z
  · exact k4 _ z
mutual
theorem DV.toM {A : HA} {m' : List Addr} (rh : RH g H m' A) : ∀ {d : D} {v : V}, pureR d = true → DV g H m d v → DV g H m' d v
  | _, _, _, .non => .non
  | _, _, _, .bl b => .bl b
  | _, _, _, .int i => .int i
  | _, _, _, .str x => .str x
  | _, _, _, .ty n => .ty n
  | _, _, e, .wtp _ _ _ => by unfold pureR at e; cases e
  | _, _, e, .tup h hs => .tup (h.imp (fun ⟨o, h1, h2, _⟩ => ⟨o, h1, h2, rh.not_in h1 (.inl ⟨_, _, rfl⟩)⟩) id) (DVs.toM rh (by unfold pureR at e; exact e) hs)
  | _, _, e, .lst h hs => .lst (h.imp (fun ⟨o, h1, _⟩ => ⟨o, h1, rh.not_in h1 (.inr (.inl ⟨_, _, rfl⟩))⟩) id) (DVs.toM rh (by unfold pureR at e; exact e) hs)
  | _, _, e, .dct _ _ _ => by unfold pureR at e; cases e
  | _, _, e, .ref h => by unfold pureR at e; cases e
  | _, _, e, .lam _ _ _ _ _ _ => by unfold pureR at e; cases e
  | _, _, _, .cls c => .cls c
  | _, _, _, .fn f => .fn f
  | _, _, e, .exc h1 h2 h3 h4 h6 h5 => .exc h1 (rh.not_in h1 (.inr (.inr (.inl (.xo _ _ _))))) h3 (rh.not_in h3 (.inr (.inr (.inr ⟨_, rfl⟩)))) h6 (DVs.toM rh (by unfold pureR at e; exact e) h5)
theorem DVs.toM {A : HA} {m' : List Addr} (rh : RH g H m' A) : ∀ {ds : List D} {vs : List V}, pureRs ds = true → DVs g H m ds vs → DVs g H m' ds vs
  | _, _, _, .nil => .nil
  | _, _, e, .cons h hs => by
    unfold pureRs at e
    rw [Bool.and_eq_true] at e
    exact .cons (DV.toM rh e.1 h) (DVs.toM rh e.2 hs)
end
end
noncomputable def isoF (c : CF) : CF := fun ds A => if pureDs ds = true then match c ds [] with
    | .ok d _ => if pureR d = true then .ok d A else .no
    | .exc k es _ => if pureRs es = true then .exc k es A else .no
    | .no => .no
  else .no
theorem SpC.iso {g : G} {c : CF} {n : Nat} {vs : List V} {H : Hp} {Q : VK} {E : L2.XK} (h : SpC g (isoF c) n vs H Q E) : SpC g c n vs H Q E := by
  obtain ⟨m, ds, A, rh, dv, hl, q⟩ := h
  unfold isoF at q
  by_cases hp : pureDs ds = true
  · rw [if_pos hp] at q
    have grow : ∀ {m' : List Addr} {H' : Hp} {A' : HA}, Gr [] m' H H' → RH g H' m' A' → Gr m m H H' ∧ RH g H' m A := fun {m' H' A'} gr r' => by
      have g2 : Gr m m H H' := ⟨⟨[], by simp, by simp⟩, fun p o e _ ht => gr.keep p o e (by simp) ht, gr.tbl, gr.non, gr.lk⟩
      exact ⟨g2, rh.nd, Paired.mapR rh.at_ fun p o r => r.mono g2 (by obtain ⟨u, hu, k1, _⟩ := r.kinds; rw [gr.keep p u hu (by simp) k1, hu]), r'.tb, rh.tbm⟩
    refine ⟨[], ds, [], ⟨List.nodup_nil, .nil, rh.tb, fun _ _ => by simp⟩, DVs.to0 hp dv, hl, ?_⟩
    cases hc : c ds [] with
    | ok d h =>
      simp only [hc] at q
      by_cases hr : pureR d = true
      · rw [if_pos hr] at q
        intro m' v H' gr rh' dv'
        obtain ⟨g2, rh2⟩ := grow gr rh'
        exact q m v H' g2 rh2 (DV.toM rh2 hr dv')
      · rw [if_neg hr] at q; exact q.elim
    | exc k es h =>
      simp only [hc] at q
      by_cases hr : pureRs es = true
      · rw [if_pos hr] at q
        intro m' H' cls d gr rh' ex
        obtain ⟨g2, rh2⟩ := grow gr rh'
        obtain ⟨e1, dd, us, e2, e3, e4, e5, e6⟩ := ex
        exact q m H' cls d g2 rh2 ⟨e1, dd, us, e2, e3, rh2.not_in e3 (.inr (.inr (.inr ⟨_, rfl⟩))), e5, DVs.toM rh2 hr e6⟩
      · rw [if_neg hr] at q; exact q.elim
    | no => simp only [hc] at q
  · rw [if_neg hp] at q; exact q.elim
theorem CallOk.iso {g : G} {k : Nat} {a : Addr} {ps : List Str} {c : CF} (h : CallOk g k a ps c) : CallOk g k a ps (isoF c) := by
  obtain ⟨⟨fd, f, b⟩, kp⟩ := h
  exact ⟨⟨fd, ⟨fun vs H Q E q => f.len vs H Q E q.iso, fun A outer s H args us vs Q E hr hg e0 hb hv q => f.run A outer s H args us vs Q E hr hg e0 hb hv q.iso⟩, b⟩, kp⟩
theorem iso_ok {c : CF} {ds : List D} {d : D} {A0 A : HA} (hp : pureDs ds = true) (h : c ds [] = .ok d A0) (hr : pureR d = true) : isoF c ds A = .ok d A := by
  unfold isoF
  rw [if_pos hp, h]
  exact if_pos hr
theorem Paired.lenR {α β : Type} {R : α → β → Prop} : ∀ {l₁ : List α} {l₂ : List β}, Paired R l₁ l₂ → l₁.length = l₂.length
  | _, _, .nil => rfl
  | _, _, .cons _ p => by simp [Paired.lenR p]
end Sm
namespace Sm
open PySem PySem.Spec PyProof.Rows L2
variable {F : F} {pos : Pos}
/-- the class c has instances with own dicts -/
noncomputable abbrev ClsOk (g : G) (c : Nat) : Prop := Cls g.K (g.ca c)
end Sm
namespace Sm
open PySem PySem.Spec PyProof.Rows L2
variable {F : F} {pos : Pos}
/-- f() -/
theorem je_call0 {x : Str} {a : Addr} {c : CF} {p : Pos} (h : CallOk F.g F.k a [] c) (hg : Gls F.scope x) (hm : F.g.mg x = some (.ref a)) (hdb : (x == ("__debug__" : Str)) = false := by decide) : JE F (.Call (.Name x p) [] [] pos) (cCall c cNil) := by
  intro W X ok
  obtain ⟨fd, f, b⟩ := h.ex
  refine ⟨fun pins s σ H Q I hq => ?_⟩
  obtain ⟨m, E, A, rh, rs, q⟩ := hq
  refine wpAny_Call_Name_kw (ld_glob I (ok.gl hg) (by rw [ok.mg]; exact hm) ?_ hdb)
  refine PySem.W.callWith_K0 I.kIn (by rw [ok.K]; exact h.kp) (run_g (us := []) (vs := []) (E := fun σ cls d H2 => W cls d σ H2) ok f b (passAt ok.tk σ) I .nil ?_)
  refine ⟨m, [], A, rh, .nil, rfl, ?_⟩
  have q : Po (rE F.g) F.g m H W σ (c [] A) Q := q
  cases hc : c [] A with
  | ok d h => rw [hc] at q; exact q
  | exc => rw [hc] at q; exact q
  | no => rw [hc] at q; exact q.elim
structure MethOk (g : G) (k : Nat) (c : Nat) (m : Str) (n : Nat) (cf : CF) : Prop where
  cl : ClsOk g c
  ex : ∃ (f : Addr) (fd : FuncData) (ps : List Str), Meth g.K (g.ca c) m f ∧ FnG g k f fd ps (SpC g cf ps.length) ∧ Binds g.K fd ps [] ∧ ps.length = n + 1
theorem MethOk.mono {g : G} {j k c n : Nat} {m : Str} {cf : CF} (h : MethOk g j c m n cf) (z : j ≤ k) : MethOk g k c m n cf := ⟨h.cl, let ⟨f, fd, ps, a, b, c, d⟩ := h.ex; ⟨f, fd, ps, a, b.mono z, c, d⟩⟩
noncomputable def MethTab (g : G) (k : Nat) (m : Str) (n : Nat) (tbl : List (Nat × CF)) : Prop := ∀ p ∈ tbl, MethOk g k p.1 m n p.2
theorem SpC.of {g : G} {W : WX} {σ : St} {cf : CF} {n : Nat} {m : List Addr} {H : Hp} {A : HA} {ds : List D} {vs : List V} {Q : VK} (rh : RH g H m A) (dv : DVs g H m ds vs) (hl : ds.length = n) (q : Po (rE g) g m H W σ (cf ds A) Q) : SpC g cf n vs H Q (fun cls d H2 => W cls d σ H2) := by
  refine ⟨m, ds, A, rh, dv, hl, ?_⟩
  cases hc : cf ds A with
  | ok d h => rw [hc] at q; exact q
  | exc => rw [hc] at q; exact q
  | no => rw [hc] at q; exact q.elim
structure MkOk (g : G) (k : Nat) (c : Nat) (n : Nat) (cf : CF) : Prop where
  ex : ∃ (f : Addr) (fd : FuncData) (ps : List Str), Mk g.K (g.ca c) f ∧ FnG g k f fd ps (SpC g cf ps.length) ∧ Binds g.K fd ps [] ∧ ps.length = n + 1
theorem MkOk.mono {g : G} {j k c n : Nat} {cf : CF} (h : MkOk g j c n cf) (z : j ≤ k) : MkOk g k c n cf := ⟨let ⟨f, fd, ps, a, b, c, d⟩ := h.ex; ⟨f, fd, ps, a, b.mono z, c, d⟩⟩
end Sm
namespace Sm
open PySem PySem.Spec PyProof.Rows L2
mutual
/-- no reference, no lambda, no exception -/
noncomputable def pureL : D → Bool
  | .ref _ => false
  | .lam _ _ => false
  | .wtp _ => false
  | .exc _ _ => false
  | .tup ds => pureLs ds
  | .lst ds => pureLs ds
  | .dct _ ds => pureLs ds
  | _ => true
noncomputable def pureLs : List D → Bool
  | [] => true
  | d :: ds => pureL d && pureLs ds
end
/-- nothing is locked -/
noncomputable def noLk (A : HA) : Bool := A.all fun o => match o with
  | .dct true _ => false
  | .dtt true _ => false
  | _ => true
noncomputable abbrev Cs := List (Addr × Obj)
noncomputable def addC (cs : Cs) (H : Hp) : Hp := fun b => match cs.lookup b with
  | some o => some (CellX b o)
  | none => H b
noncomputable def remC (cs : Cs) (H : Hp) : Hp := fun b => match cs.lookup b with
  | some _ => none
  | none => H b
theorem addC_in {cs : Cs} {H : Hp} {b : Addr} {o : Obj} (h : cs.lookup b = some o) : addC cs H b = some (CellX b o) := by unfold addC; rw [h]
theorem addC_out {cs : Cs} {H : Hp} {b : Addr} (h : cs.lookup b = none) : addC cs H b = H b := by unfold addC; rw [h]
theorem remC_in {cs : Cs} {H : Hp} {b : Addr} {o : Obj} (h : cs.lookup b = some o) : remC cs H b = none := by unfold remC; rw [h]
theorem remC_out {cs : Cs} {H : Hp} {b : Addr} (h : cs.lookup b = none) : remC cs H b = H b := by unfold remC; rw [h]
/-- an object that is no other description's -/
noncomputable def NotX (u : HO) : Prop := ∀ φ, u ≠ .ext φ
/-- what H tells stands in H' -/
noncomputable def KeepX (H H' : Hp) : Prop := ∀ p u, H p = some u → NotX u → H' p = some u
section
variable {g : G} {H H' : Hp} {m m' : List Addr}
mutual
theorem DV.plain (k : KeepX H H') (nm : ∀ p u, H p = some u → ((∃ ob xs, u = .frz ob (.tup xs)) ∨ (∃ ob xs, u = .frz ob (.lst xs)) ∨ ∃ ob xs, u = .frz ob (.dK xs)) → p ∉ m → p ∉ m') : ∀ {d : D} {v : V}, pureL d = true → DV g H m d v → DV g H' m' d v
  | _, _, _, .non => .non
  | _, _, _, .bl b => .bl b
  | _, _, _, .int i => .int i
  | _, _, _, .str x => .str x
  | _, _, _, .ty n => .ty n
  | _, _, e, .wtp _ _ _ => by unfold pureL at e; cases e
  | _, _, e, .tup h hs => .tup (h.imp (fun ⟨o, h1, h2, h3⟩ => ⟨o, k _ _ h1 (fun _ z => by cases z), h2, nm _ _ h1 (.inl ⟨_, _, rfl⟩) h3⟩) id) (DVs.plain k nm (by unfold pureL at e; exact e) hs)
  | _, _, e, .lst h hs => .lst (h.imp (fun ⟨o, h1, h2⟩ => ⟨o, k _ _ h1 (fun _ z => by cases z), nm _ _ h1 (.inr (.inl ⟨_, _, rfl⟩)) h2⟩) id) (DVs.plain k nm (by unfold pureL at e; exact e) hs)
  | _, _, e, .dct ⟨o, h1, h2⟩ hl hs => .dct ⟨o, k _ _ h1 (fun _ z => by cases z), nm _ _ h1 (.inr (.inr ⟨_, _, rfl⟩)) h2⟩ hl (DVs.plain k nm (by unfold pureL at e; exact e) hs)
  | _, _, e, .ref h => by unfold pureL at e; cases e
  | _, _, _, .cls c => .cls c
  | _, _, _, .fn f => .fn f
  | _, _, e, .exc _ _ _ _ _ _ => by unfold pureL at e; cases e
  | _, _, e, .lam _ _ _ _ _ _ => by unfold pureL at e; cases e
theorem DVs.plain (k : KeepX H H') (nm : ∀ p u, H p = some u → ((∃ ob xs, u = .frz ob (.tup xs)) ∨ (∃ ob xs, u = .frz ob (.lst xs)) ∨ ∃ ob xs, u = .frz ob (.dK xs)) → p ∉ m → p ∉ m') : ∀ {ds : List D} {vs : List V}, pureLs ds = true → DVs g H m ds vs → DVs g H' m' ds vs
  | _, _, _, .nil => .nil
  | _, _, e, .cons h hs => by
    unfold pureLs at e
    rw [Bool.and_eq_true] at e
    exact .cons (DV.plain k nm e.1 h) (DVs.plain k nm e.2 hs)
end
/-- back into the caller's abstract heap -/
theorem nm_back {A : HA} {mx : List Addr} (rh : RH g H' m A) (k : KeepX H H') (lk : noLk A = true) : ∀ p u, H p = some u → ((∃ ob xs, u = .frz ob (.tup xs)) ∨ (∃ ob xs, u = .frz ob (.lst xs)) ∨ ∃ ob xs, u = .frz ob (.dK xs)) → p ∉ mx → p ∉ m := by
  intro p u e hu _ hp
  have e' : H' p = some u := k p u e (by rcases hu with ⟨_, _, rfl⟩ | ⟨_, _, rfl⟩ | ⟨_, _, rfl⟩ <;> exact fun _ z => by cases z)
  obtain ⟨i, hi⟩ := List.mem_iff_getElem?.mp hp
  have hil : i < A.length := by rw [← Paired.lenR rh.at_]; exact (List.getElem?_eq_some_iff.mp hi).1
  obtain ⟨q, hq, r⟩ := rh.get (List.getElem?_eq_getElem hil)
  rw [hi] at hq
  cases hq
  have hlk := List.all_eq_true.mp lk A[i] (List.getElem_mem hil)
  generalize A[i] = o at r hlk
  cases o with
  | lst ds => obtain ⟨_, h, _⟩ := r; rw [e'] at h; rcases hu with ⟨_, _, rfl⟩ | ⟨_, _, rfl⟩ | ⟨_, _, rfl⟩ <;> cases h
  | dct l kvs =>
    cases l with
    | false => obtain ⟨_, h, _⟩ := r; rw [e'] at h; rcases hu with ⟨_, _, rfl⟩ | ⟨_, _, rfl⟩ | ⟨_, _, rfl⟩ <;> cases h
    | true => cases hlk
  | dtt l kvs =>
    cases l with
    | false => obtain ⟨_, h, _⟩ := r; rw [e'] at h; rcases hu with ⟨_, _, rfl⟩ | ⟨_, _, rfl⟩ | ⟨_, _, rfl⟩ <;> cases h
    | true => cases hlk
  | ins c fs => obtain ⟨_, _, h, _⟩ := r; rw [e'] at h; rcases hu with ⟨_, _, rfl⟩ | ⟨_, _, rfl⟩ | ⟨_, _, rfl⟩ <;> cases h
end
section
variable {P : Program} {w : World} {H H' : Hp} {h h' : Heap} {cs : Cs}
/-- the cells stand in the heap and are not told by H -/
noncomputable def CsFree (cs : Cs) (H : Hp) (h : Heap) : Prop := ∀ b o, cs.lookup b = some o → H b = none ∧ h.get? b = some o
/-- .. are told -/
noncomputable def CsTold (cs : Cs) (H : Hp) : Prop := ∀ b o, cs.lookup b = some o → H b = some (CellX b o)
theorem cellX_ok {b : Addr} {o : Obj} (e : h.get? b = some o) : ObjOk P w H h b (CellX b o) := ⟨e, ⟨o, e⟩, fun h1 h2 x st => st _ x⟩
theorem hok_add (hok : HOk P w H h) (c : CsFree cs H h) : HOk P w (addC cs H) h := fun b u e => by
  cases hl : cs.lookup b with
  | some o =>
    rw [addC_in hl] at e
    cases e
    exact cellX_ok (c b o hl).2
  | none =>
    rw [addC_out hl] at e
    refine (hok b u e).stay (fun _ _ _ z => z) (fun d z => ?_) (fun d xs z => ?_)
    · cases hd : cs.lookup d with
      | some o => rw [(c d o hd).1] at z; cases z
      | none => rw [addC_out hd]; exact z
    · cases hd : cs.lookup d with
      | some o => rw [(c d o hd).1] at z; cases z
      | none => rw [addC_out hd]; exact z
theorem hok_rem (hok : HOk P w H h) (c : CsTold cs H) : HOk P w (remC cs H) h := fun b u e => by
  cases hl : cs.lookup b with
  | some o =>
    rw [remC_in hl] at e
    cases e
  | none =>
    rw [remC_out hl] at e
    refine (hok b u e).stay (fun _ _ _ z => z) (fun d z => ?_) (fun d xs z => ?_)
    · cases hd : cs.lookup d with
      | some o => rw [c d o hd] at z; cases z
      | none => rw [remC_out hd]; exact z
    · cases hd : cs.lookup d with
      | some o => rw [c d o hd] at z; cases z
      | none => rw [remC_out hd]; exact z
theorem told_get (hok : HOk P w H h) (c : CsTold cs H) {b : Addr} {o : Obj} (hl : cs.lookup b = some o) : h.get? b = some o := (hok b _ (c b o hl)).1
/-- a call entered with the cells told, seen from outside where they are not -/
theorem un_add {fs : List Addr} (c : CsFree cs H h) (hok : HOk P w H' h') (c' : CsTold cs H') (u : Un fs [] (addC cs H) H' h h') : Un fs [] H (remC cs H') h h' where
  keep := fun b o e n hb hx => by
    cases hl : cs.lookup b with
    | some o' =>
      rw [(c b o' hl).2] at e
      cases e
      exact told_get hok c' hl
    | none => exact u.keep b o e (by rw [addC_out hl]; exact n) hb hx
  slot := fun b o e n hb hx => by
    cases hl : cs.lookup b with
    | some o' =>
      rw [(c b o' hl).2] at e
      cases e
      exact ⟨o.slots, told_get hok c' hl⟩
    | none => exact u.slot b o e (by rw [addC_out hl]; exact n) hb hx
  free := fun b o e n hx => by
    cases hl : cs.lookup b with
    | some o' => exact remC_in hl
    | none => rw [remC_out hl]; exact u.free b o e (by rw [addC_out hl]; exact n) hx
  there := fun b o e hx => u.there b o e hx
  tups := fun b xs e => by
    cases hl : cs.lookup b with
    | some o' => rw [(c b o' hl).1] at e; cases e
    | none => rw [remC_out hl]; exact u.tups b xs (by rw [addC_out hl]; exact e)
  frzs := fun b o x e => by
    cases hl : cs.lookup b with
    | some o' => rw [(c b o' hl).1] at e; cases e
    | none => rw [remC_out hl]; exact u.frzs b o x (by rw [addC_out hl]; exact e)
  tbls := fun b ps e => by
    cases hl : cs.lookup b with
    | some o' => rw [(c b o' hl).1] at e; cases e
    | none => rw [remC_out hl]; exact u.tbls b ps (by rw [addC_out hl]; exact e)
/-- a call entered with the cells hidden, seen from outside where they are told -/
theorem un_rem {fs : List Addr} (hok : HOk P w H h) (c : CsTold cs H) (u : Un fs [] (remC cs H) H' h h') : Un fs [] H (addC cs H') h h' where
  keep := fun b o e n hb hx => u.keep b o e (by
    cases hl : cs.lookup b with
    | some o' => exact remC_in hl
    | none => rw [remC_out hl]; exact n) hb hx
  slot := fun b o e n hb hx => u.slot b o e (by
    cases hl : cs.lookup b with
    | some o' => exact remC_in hl
    | none => rw [remC_out hl]; exact n) hb hx
  free := fun b o e n hx => by
    cases hl : cs.lookup b with
    | some o' => rw [c b o' hl] at n; cases n
    | none => rw [addC_out hl]; exact u.free b o e (by rw [remC_out hl]; exact n) hx
  there := fun b o e hx => u.there b o e hx
  tups := fun b xs e => by
    cases hl : cs.lookup b with
    | some o' => rw [c b o' hl] at e; cases e
    | none => rw [addC_out hl]; exact u.tups b xs (by rw [remC_out hl]; exact e)
  frzs := fun b o x e => by
    cases hl : cs.lookup b with
    | some o' => rw [c b o' hl] at e; cases e
    | none => rw [addC_out hl]; exact u.frzs b o x (by rw [remC_out hl]; exact e)
  tbls := fun b ps e => by
    cases hl : cs.lookup b with
    | some o' => rw [c b o' hl] at e; cases e
    | none => rw [addC_out hl]; exact u.tbls b ps (by rw [remC_out hl]; exact e)
theorem ub_rem {fs : List Addr} {B : Heap} (c : CsTold cs H) (u : UB fs (remC cs H) H' h B h') : UB fs H (addC cs H') h B h' where
  keep := fun b o e n hb => u.keep b o e (by
    cases hl : cs.lookup b with
    | some o' => exact remC_in hl
    | none => rw [remC_out hl]; exact n) hb
  slot := fun b o e hb => u.slot b o e hb
  free := fun b o e n => by
    cases hl : cs.lookup b with
    | some o' => rw [c b o' hl] at n; cases n
    | none => rw [addC_out hl]; exact u.free b o e (by rw [remC_out hl]; exact n)
  there := fun b o e hb => u.there b o e hb
  tups := fun b xs e => by
    cases hl : cs.lookup b with
    | some o' => rw [c b o' hl] at e; cases e
    | none => rw [addC_out hl]; exact u.tups b xs (by rw [remC_out hl]; exact e)
  frzs := fun b o x e => by
    cases hl : cs.lookup b with
    | some o' => rw [c b o' hl] at e; cases e
    | none => rw [addC_out hl]; exact u.frzs b o x (by rw [remC_out hl]; exact e)
  tbls := fun b ps e => by
    cases hl : cs.lookup b with
    | some o' => rw [c b o' hl] at e; cases e
    | none => rw [addC_out hl]; exact u.tbls b ps (by rw [remC_out hl]; exact e)
theorem tabs_add {T : List (Addr × Str)} (t : LamX.Tabs T H) (n : ∀ b o, cs.lookup b = some o → H b = none) : LamX.Tabs T (addC cs H) := t.ext fun b u e => by
  cases hl : cs.lookup b with
  | some o => rw [n b o hl] at e; cases e
  | none => rw [addC_out hl]; exact e
/-- code objects are no cells -/
theorem codeX {h : Heap} {b : Addr} {q : Str} {o : Obj} {v : Option Value} (hg : h.get? b = some o) (e : H b = some (LamX.CodeO b q)) (e' : H b = some (CellX b o)) (hd : o.data = .cell v) : False := by
  rw [e] at e'
  have e2 : LamX.CodeO b q = CellX b o := Option.some.inj e'
  unfold LamX.CodeO CellX at e2
  injection e2 with e2
  have e3 : ∃ (oc : Obj) (vs : Array Value) (t : Tok), h.get? b = some oc ∧ oc.data = .fields vs ∧ vs[1]? = some (.str q t) := (congrFun e2 h).mpr hg
  obtain ⟨oc, vs, t, h1, h2, h3⟩ := e3
  rw [hg] at h1
  cases h1
  rw [h2] at hd
  cases hd
theorem tabs_rem {T : List (Addr × Str)} (hg : ∀ b o, cs.lookup b = some o → h.get? b = some o) (t : LamX.Tabs T H) (c : CsTold cs H) (hd : ∀ b o, cs.lookup b = some o → ∃ v, o.data = .cell v) : LamX.Tabs T (remC cs H) := fun p hp => by
  obtain ⟨ps, e1, e2, e3⟩ := t p hp
  refine ⟨ps, ?_, e2, fun pos cv hc => ?_⟩
  · cases hl : cs.lookup p.1 with
    | some o => rw [c _ o hl] at e1; cases e1
    | none => rw [remC_out hl]; exact e1
  · obtain ⟨a, k1, k2⟩ := e3 pos cv hc
    refine ⟨a, k1, ?_⟩
    cases hl : cs.lookup a with
    | some o =>
      obtain ⟨v, hv⟩ := hd a o hl
      exact (codeX (hg a o hl) k2 (c a o hl) hv).elim
    | none => rw [remC_out hl]; exact k2
end
end Sm
namespace Sm
open PySem PySem.Spec PyProof.Rows L2
structure GrL (H H1 : Hp) : Prop where
  keep : ∀ b o, H b = some o → (∀ ps, o ≠ .tbl ps) → H1 b = some o
  tbl : ∀ b ps, H b = some (.tbl ps) → ∃ more, H1 b = some (.tbl (ps ++ more))
  non : ∀ b, H1 b = none → H b = none
theorem lam_core {X : Cx} {pins : List (Addr × Obj)} {σ : L2.St} {H : Hp} {s : Shared} {T : List (Addr × Str)} {c P T0 : Addr} {L : LamRec} {pos : Pos} {E Q : Value → Shared → Prop} (I : Inv X pins σ H s) (TB : LamX.TabB X.base X.mg c P) (hcode : X.env.code = .ref c)
    (hm : (P, L.q) ∈ T) (hu : ∀ p ∈ T, p.1 = P → p.2 = L.q) (hT : LamX.Tabs T H) (hfree : ∀ y ∈ L.scope.names, y.2 = .free → ∃ c, X.env.cells.lookup y.1 = some c)
    (h : ∀ (f c' : Addr) (H1 : Hp) (s' : Shared), Inv X pins σ H1 s' → GrL H H1 → LamX.Tabs T H1 → H f = none → H c' ≠ some (.tbl #[]) → H1 f = some (LamO L (cloFrom X.env.cells L.scope.names []) c' T0 f) → H1 c' = some (LamX.CodeO c' L.q) → Q (.ref f) s') :
    wpAny (model X.prog X.w) X.A (makeTail "<lambda>" L.q L.params (.expr L.body) L.scope X.env (dfV L T0) .none none pos pos.line) Q E s := by
  obtain ⟨ps, hP, ht, ha⟩ := hT _ hm
  have bP : s.heap.BuiltinsAt X.mg P := TB.bm.keeps I.bk
  have gP : s.heap.get? P = some { cls := .none, data := .fields ps } := I.hok P _ hP
  have lay : ∀ {H1 : Hp} {h1 : Heap} {tk tk2 : Nat} {c' : Addr} {doc ctv : Value}, Inv X pins σ H1 { s with heap := h1, toks := tk } → Inv X pins σ (L2.upd H1 h1.objs.size (LamO L (cloFrom X.env.cells L.scope.names []) c' T0 h1.objs.size)) { s with heap := h1.push (PySem.W.kdv_obj "<lambda>" L.q L.params (.expr L.body) L.scope (cloFrom X.env.cells L.scope.names []) (dfV L T0) doc ((X.mg "__name__").getD .none) c' ctv), toks := tk2 } := by
    intro H1 h1 tk tk2 c' doc ctv J
    exact J.laid (t' := tk2) (a := h1.objs.size) (h' := h1.push (PySem.W.kdv_obj "<lambda>" L.q L.params (.expr L.body) L.scope (cloFrom X.env.cells L.scope.names []) (dfV L T0) doc ((X.mg "__name__").getD .none) c' ctv)) (o := LamO L (cloFrom X.env.cells L.scope.names []) c' T0 h1.objs.size) (fun b u e => Heap.get?_push_of_some _ e) (Nat.le_refl _) (by
      have e := Heap.get?_push_size h1 (o := PySem.W.kdv_obj "<lambda>" L.q L.params (.expr L.body) L.scope (cloFrom X.env.cells L.scope.names []) (dfV L T0) doc ((X.mg "__name__").getD .none) c' ctv) rfl
      exact ⟨⟨_, _, _, e⟩, ⟨_, e⟩, fun h1 h2 ⟨pm, dc, ct, z⟩ st => ⟨pm, dc, ct, st _ z⟩⟩)
  cases hc : codeAmong pos ps.toList with
  | none =>
    refine PySem.W.kdv_makeTail (mg := X.mg) (c := c) (P := P) (ps := ps) (L2.closure_ok hfree) I.ok.glob (I.mod.glob.keeps I.bk) hcode (TB.code.keeps I.bk) gP ht hc TB.gP bP fun c' ctv doc h' tk hx hge hlt hrec htb => ?_
    obtain ⟨c2, oc, vs, t, e2, hoc, hd, hv⟩ := hrec
    cases e2
    have nC : H c' = none := I.hok.fresh hge
    have nPc : P ≠ c' := ne_of_none hP nC
    have I1 := LamX.inv_table (t' := tk) (more := #[rawInt pos.line, rawInt pos.col, .ref c']) (h' := h') I hP (fun b o hb e => hx b o hb e) htb hge ⟨oc, vs, t, hoc, hd, hv⟩
    have nF : (L2.upd (L2.upd H P (.tbl (ps ++ #[rawInt pos.line, rawInt pos.col, .ref c']))) c' (LamX.CodeO c' L.q)) h'.objs.size = none := I1.hok.fresh (Nat.le_refl _)
    have nF0 : H h'.objs.size = none := I.hok.fresh (Nat.le_trans hge (Nat.le_of_lt hlt))
    have fc : c' ≠ h'.objs.size := Nat.ne_of_lt hlt
    have fP : P ≠ h'.objs.size := ne_of_none hP nF0
    refine h h'.objs.size c' _ _ (lay I1) ⟨fun b o e nt => ?_, fun b qs e => ?_, fun b e => ?_⟩ ?_ nF0 (by rw [nC]; simp) upd_same ?_
    · rw [upd_ne (ne_of_none e nF0), upd_ne (ne_of_none e nC), upd_ne (fun z => by rw [z, hP] at e; cases e; exact nt ps rfl)]
      exact e
    · by_cases hb : b = P
      · rw [hb, hP] at e
        cases e
        exact ⟨#[rawInt pos.line, rawInt pos.col, .ref c'], by rw [hb, upd_ne fP, upd_ne nPc, upd_same]⟩
      · exact ⟨#[], by rw [upd_ne (ne_of_none e nF0), upd_ne (ne_of_none e nC), upd_ne hb, e]; simp⟩
    · exact NdefX.upd_none (NdefX.upd_none (NdefX.upd_none e))
    · have keep : ∀ b q, H b = some (LamX.CodeO b q) → (L2.upd (L2.upd (L2.upd H P (.tbl (ps ++ #[rawInt pos.line, rawInt pos.col, .ref c']))) c' (LamX.CodeO c' L.q)) h'.objs.size (LamO L (cloFrom X.env.cells L.scope.names []) c' T0 h'.objs.size)) b = some (LamX.CodeO b q) := fun b q e => by
        rw [upd_ne (ne_of_none e nF0), upd_ne (ne_of_none e nC), upd_ne (fun z => by rw [z, hP] at e; exact LamX.codeO_ne _ (Option.some.inj e).symm)]
        exact e
      intro p hp
      by_cases hb : p.1 = P
      · rw [show p.2 = L.q from hu p hp hb, hb]
        have eL : (ps ++ #[rawInt pos.line, rawInt pos.col, .ref c']).toList = ps.toList ++ [rawInt pos.line, rawInt pos.col, .ref c'] := by simp
        refine ⟨_, by rw [upd_ne fP, upd_ne nPc, upd_same], by rw [eL]; exact PySem.TriplesOk_snoc _ _ _ _ ht, fun p' cv hcv => ?_⟩
        rw [eL] at hcv
        rcases LamX.among_app _ ht hcv with z | z
        · obtain ⟨c0, e1, e2⟩ := ha p' cv z
          exact ⟨c0, e1, keep c0 _ e2⟩
        · exact ⟨c', z, by rw [upd_ne fc, upd_same]⟩
      · obtain ⟨qs, a1, a2, a3⟩ := hT p hp
        refine ⟨qs, by rw [upd_ne (ne_of_none a1 nF0), upd_ne (ne_of_none a1 nC), upd_ne hb]; exact a1, a2, fun p' cv hcv => ?_⟩
        obtain ⟨c0, e1, e2⟩ := a3 p' cv hcv
        exact ⟨c0, e1, keep c0 _ e2⟩
    · rw [upd_ne fc, upd_same]
  | some cv =>
    obtain ⟨c', e, hco⟩ := ha pos cv hc
    subst e
    refine PySem.W.kdv_makeTailHit (mg := X.mg) (c := c) (P := P) (ps := ps) (L2.closure_ok hfree) I.ok.glob (I.mod.glob.keeps I.bk) hcode (TB.code.keeps I.bk) gP ht hc bP fun ctv doc h' tk hx hsz => ?_
    have I1 : Inv X pins σ H { s with heap := h', toks := tk } := I.kept hx
    have nF0 : H h'.objs.size = none := I.hok.fresh hsz
    have kp : ∀ b o, H b = some o → (L2.upd H h'.objs.size (LamO L (cloFrom X.env.cells L.scope.names []) c' T0 h'.objs.size)) b = some o := fun b o e => by rw [upd_ne (ne_of_none e nF0)]; exact e
    refine h h'.objs.size c' _ _ (lay I1) ⟨fun b o e _ => kp b o e, fun b qs e => ⟨#[], by rw [kp b _ e]; simp⟩, fun b e => NdefX.upd_none e⟩ (hT.ext kp) nF0 (by rw [hco]; intro z; exact LamX.codeO_ne _ (Option.some.inj z)) upd_same (kp _ _ hco)
theorem GrL.trans {H H1 H2 : Hp} (a : GrL H H1) (b : GrL H1 H2) : GrL H H2 :=
  ⟨fun p o h n => b.keep p o (a.keep p o h n) n, fun p ps h => by
    obtain ⟨m1, e1⟩ := a.tbl p ps h
    obtain ⟨m2, e2⟩ := b.tbl p _ e1
    exact ⟨m1 ++ m2, by rw [e2, Array.append_assoc]⟩, fun p h => a.non p (b.non p h)⟩
theorem GrL.new {H : Hp} {p : Addr} {o : HO} (h : H p = none) : GrL H (L2.upd H p o) :=
  ⟨fun q u e _ => by rw [upd_ne (ne_of_none e h)]; exact e, fun q ps e => ⟨#[], by rw [upd_ne (ne_of_none e h), e]; simp⟩, fun q e => NdefX.upd_none e⟩
/-- what its last name has of itself stands in the text -/
noncomputable def DfAt (L : LamRec) (X : Cx) : Prop := match L.df with
  | none => defaultsOf L.params X.env = ([], [])
  | some i => ∃ kk p, L.params.defaults = [.Constant (.int i) kk p] ∧ L.params.kw_defaults = []
theorem lam_new {X : Cx} {pins : List (Addr × Obj)} {σ : L2.St} {H : Hp} {s : Shared} {T : List (Addr × Str)} {c P : Addr} {L : LamRec} {pos : Pos} {E Q : Value → Shared → Prop} (I : Inv X pins σ H s) (TB : LamX.TabB X.base X.mg c P) (hcode : X.env.code = .ref c) (hq : X.env.qual ++ "<lambda>" = L.q)
    (hm : (P, L.q) ∈ T) (hu : ∀ p ∈ T, p.1 = P → p.2 = L.q) (hT : LamX.Tabs T H) (hdef : DfAt L X) (hfree : ∀ y ∈ L.scope.names, y.2 = .free → ∃ c, X.env.cells.lookup y.1 = some c)
    (h : ∀ (f c' T0 : Addr) (H1 : Hp) (s' : Shared), Inv X pins σ H1 s' → GrL H H1 → LamX.Tabs T H1 → H f = none → H1 f = some (LamO L (cloFrom X.env.cells L.scope.names []) c' T0 f) → H1 c' = some (LamX.CodeO c' L.q) → (∀ i, L.df = some i → H T0 = none ∧ ∃ o, H1 T0 = some (.frz o (.tup [.int i])) ∧ o.dict = none) → Q (.ref f) s') :
    wpAny (model X.prog X.w) X.A (eval (.Lambda L.params L.body L.scope pos) X.env) Q E s := by
  cases hd : L.df with
  | none =>
    unfold DfAt at hdef
    rw [hd] at hdef
    refine PySem.W.kla_eval hdef ?_
    rw [hq, makeFunction_eq]
    simp only [List.zip_nil_right, List.filterMap_nil, List.isEmpty_nil, if_true, pure_bind]
    have c0 := lam_core (T0 := 0) (pos := pos) (Q := Q) (E := E) I TB hcode hm hu hT hfree fun f c' H1 s' I1 a t n _ l1 l2 => h f c' 0 H1 s' I1 a t n l1 l2 fun i e => by rw [hd] at e; cases e
    have e0 : dfV L 0 = .none := by unfold dfV; rw [hd]
    rw [e0] at c0
    exact c0
  | some i =>
    unfold DfAt at hdef
    rw [hd] at hdef
    obtain ⟨kk, p, hd1, hk⟩ := hdef
    refine PySem.W.kdv_lam (by rw [hd1]; rfl) hk ?_
    rw [hd1]
    refine PySem.W.kdv_all1 (wpAny_Constant_int (PySem.W.kdv_all0 ?_))
    rw [hq, makeFunction_eq]
    simp only [List.zip_nil_right, List.filterMap_nil, List.isEmpty_nil, List.isEmpty_cons, Bool.false_eq_true, if_false, if_true, pure_bind]
    refine wpAny_bind (wpAny_newTextTuple ?_)
    have nT : H s.heap.objs.size = none := I.hok.fresh (Nat.le_refl _)
    have I1 := tup_laid (t' := s.toks + 1) (h' := s.heap.push { cls := .type "tuple", data := .seq #[.int i s.toks] }) (xs := [.int i]) (us := [.int i s.toks]) (p := s.heap.objs.size) I (fun b u e => Heap.get?_push_of_some _ e) (Nat.le_refl _) (.cons ⟨_, rfl⟩ .nil) (by show 1 ≤ sizeLine; decide) (Heap.get?_push_size _ rfl)
    have c0 := lam_core (T0 := s.heap.objs.size) (pos := pos) (Q := Q) (E := E) I1 TB hcode hm hu (hT.ext fun b o e => by rw [upd_ne (ne_of_none e nT)]; exact e) hfree fun f c' H1 s' I2 a t n _ l1 l2 => h f c' s.heap.objs.size H1 s' I2 ((GrL.new nT).trans a) t (NdefX.upd_none n) l1 l2 fun j e => by
      rw [hd] at e
      cases e
      exact ⟨nT, _, a.keep _ _ upd_same (fun ps z => by cases z), rfl⟩
    have e0 : dfV L s.heap.objs.size = .ref s.heap.objs.size := by unfold dfV; rw [hd]
    rw [e0] at c0
    exact c0
end Sm
section
set_option autoImplicit false
namespace Sm
open PySem PySem.Spec PyProof.Rows L2
variable {F : F} {pos : Pos}
noncomputable def rAL (X : Cx) (g : G) (j : Nat) : Rl (List D) (List V) := fun H m ds vs => ∃ vs1 f c' T0, vs = vs1 ++ [.ref f] ∧ DVs g H m ds vs1 ∧ H f = some (LamO (g.lm j) (cloFrom X.env.cells (g.lm j).scope.names []) c' T0 f) ∧ f ∉ m ∧ H c' = some (LamX.CodeO c' (g.lm j).q) ∧ c' ∉ m ∧ ∀ i, (g.lm j).df = some i → PTu H m T0 [.int i]
noncomputable def TALx (X : Cx) (g : G) (j : Nat) (W : WX) (c : CA) : TA := Tx (rAL X g j) g W c
/-- arguments, a lambda the last -/
noncomputable def JAL (F : Sm.F) (j : Nat) (es : List Expr) (c : CA) : Prop := ∀ W X, Ok F W X → PA X es (TALx X F.g j W c)
/-- what the text must show of a lambda where it stands -/
structure LamAt (F : Sm.F) (j : Nat) : Prop where
  tab : ∃ P, (P, (F.g.lm j).q) ∈ F.ltb ∧ (P, (F.g.lm j).q) ∈ F.g.tabs ∧ ∀ p ∈ F.g.tabs, p.1 = P → p.2 = (F.g.lm j).q
  dp : F.deep = false
  fr : ∀ y ∈ (F.g.lm j).scope.names, y.2 = .free → F.scope.names.lookup y.1 = some .cell ∨ F.scope.names.lookup y.1 = some .free
  sub : ∀ y ∈ (F.g.lm j).scope.names, y.2 = .free → y.1 ∈ (F.g.lm j).fr
  sup : ∀ y ∈ (F.g.lm j).fr, (y, NameKind.free) ∈ (F.g.lm j).scope.names
theorem Gr.ofL {m : List Addr} {H H1 : Hp} (a : GrL H H1) : Gr m m H H1 := ⟨⟨[], by simp, by simp⟩, fun p o h _ ht => a.keep p o h ht, a.tbl, a.non, fun p ob u h => a.keep p _ h (by simp)⟩
theorem RH.ofL {g : G} {m : List Addr} {H H1 : Hp} {A : HA} (a : GrL H H1) (t : LamX.Tabs g.tabs H1) (rh : RH g H m A) : RH g H1 m A :=
  ⟨rh.nd, Paired.mapR rh.at_ fun p o r => r.mono (Gr.ofL a) (by obtain ⟨u, hu, k1, _⟩ := r.kinds; rw [a.keep p u hu k1, hu]), t, rh.tbm⟩
theorem lam_free {j : Nat} {W : WX} {X : Cx} (ok : Ok F W X) (L : LamAt F j) {pins : List (Addr × Obj)} {σ : St} {H : Hp} {s : Shared} (I : Inv X pins σ H s) : ∀ y ∈ (F.g.lm j).scope.names, y.2 = .free → ∃ c, X.env.cells.lookup y.1 = some c := fun y hy e => by
  rcases L.fr y hy e with z | z
  · exact I.ok.has _ (.inl (by show X.env.scope.names.lookup y.1 = _; rw [ok.sc]; exact z))
  · exact I.ok.has _ (.inr (by show X.env.scope.names.lookup y.1 = _; rw [ok.sc]; exact z))
theorem jal_nil {j : Nat} {params : Arguments} {body : Expr} {scope : Scope} {lpos : Pos} (L : LamAt F j) (e1 : (F.g.lm j).params = params := by rfl) (e2 : (F.g.lm j).body = body := by rfl) (e3 : (F.g.lm j).scope = scope := by rfl)
    (hdef : ∀ X : Cx, DfAt (F.g.lm j) X)
    (hs : ∀ X : Cx, starEach [.Lambda params body scope lpos] X.env = (false, eval (.Lambda params body scope lpos) X.env) :: starEach [] X.env := by intro _; rfl) : JAL F j [.Lambda params body scope lpos] cNil := by
  subst e1 e2 e3
  intro W X ok
  obtain ⟨P, h1, h2, h3⟩ := L.tab
  obtain ⟨c, k1, k2, k3⟩ := ok.tabB _ h1
  have pl : PE X (.Lambda (F.g.lm j).params (F.g.lm j).body (F.g.lm j).scope lpos) (fun σ H Q => LamX.Tabs F.g.tabs H ∧ ∀ (f c' T0 : Addr) (H1 : Hp), GrL H H1 → LamX.Tabs F.g.tabs H1 → H f = none → H1 f = some (LamO (F.g.lm j) (cloFrom X.env.cells (F.g.lm j).scope.names []) c' T0 f) → H1 c' = some (LamX.CodeO c' (F.g.lm j).q) → (∀ i, (F.g.lm j).df = some i → H T0 = none ∧ ∃ o, H1 T0 = some (.frz o (.tup [.int i])) ∧ o.dict = none) → Q (.ref f) H1) :=
    ⟨fun pins s σ H Q I q => lam_new I k2 k1 k3 h2 h3 q.1 (hdef X) (lam_free ok L I) fun f c' T0 H1 s' I1 a t n l1 l2 l3 => ⟨.ref f, H1, I1, rfl, q.2 f c' T0 H1 a t n l1 l2 l3⟩⟩
  refine PA.imp (pa_cons pl pa_nil (hs X)) ?_
  rintro σ H Q ⟨m, E, A, rh, rs, q⟩
  refine ⟨rh.tb, fun f c' T0 H1 a t n l1 l2 l3 => ?_⟩
  have rh1 := rh.ofL a t
  refine q m [.ref f] H1 (Gr.ofL a) rh1 ⟨[], f, c', T0, rfl, .nil, l1, rh.new n, l2, fun z => ?_, fun i e => ?_⟩
  · obtain ⟨u, hu, _, k⟩ := rh1.kinds z
    rw [l2] at hu
    cases hu
    exact k (.code _ _)
  · obtain ⟨k1, o, k2, k3⟩ := l3 i e
    exact ⟨o, k2, k3, rh.new k1⟩
noncomputable def getCaps : List Nat → SA → Option (List D)
  | [], _ => some []
  | i :: r, E => match E[i]? with
    | some (some d) => (getCaps r E).map (d :: ·)
    | _ => none
inductive CellsW (cl : List (Str × Addr)) (cs : Cs) : List Str → List V → Prop
  | nil : CellsW cl cs [] []
  | cons {x : Str} {c : Addr} {o : Obj} {u : Value} {v : V} {xs : List Str} {vs : List V} : cl.lookup x = some c → (c, o) ∈ cs → o.data = .cell (some u) → RelV v u → CellsW cl cs xs vs → CellsW cl cs (x :: xs) (v :: vs)
theorem CellsW.more {cl : List (Str × Addr)} {cs cs' : Cs} (k : ∀ p ∈ cs, p ∈ cs') : ∀ {xs : List Str} {vs : List V}, CellsW cl cs xs vs → CellsW cl cs' xs vs
  | _, _, .nil => .nil
  | _, _, .cons h1 h2 h3 h4 h5 => .cons h1 (k _ h2) h3 h4 (CellsW.more k h5)
theorem lookup_memL : ∀ (cs : Cs) (c : Addr) (o : Obj), cs.lookup c = some o → (c, o) ∈ cs
  | [], _, _, h => by cases h
  | (a, b) :: r, c, o, h => by
    rw [List.lookup_cons] at h
    cases e : c == a with
    | true =>
      rw [e] at h
      have e2 : c = a := eq_of_beq e
      have h : some b = some o := h
      cases h
      rw [e2]
      exact List.mem_cons_self
    | false =>
      rw [e] at h
      exact List.mem_cons_of_mem _ (lookup_memL r c o h)
theorem lookup_mem {cs : Cs} {c : Addr} {o : Obj} (h : cs.lookup c = some o) : (c, o) ∈ cs := lookup_memL cs c o h
theorem mem_lookup' : ∀ (cs : Cs) (c : Addr) (o : Obj), (c, o) ∈ cs → ∃ o', cs.lookup c = some o'
  | [], _, _, h => absurd h (List.not_mem_nil)
  | (a, b) :: r, c, o, h => by
    rw [List.lookup_cons]
    cases e : c == a with
    | true => exact ⟨b, rfl⟩
    | false =>
      rcases List.mem_cons.mp h with z | z
      · have e2 : c = a := congrArg Prod.fst z
        rw [e2, beq_self_eq_true] at e
        cases e
      · exact mem_lookup' r c o z
/-- an object that a cell of the running frame is -/
structure CellAt (X : Cx) (H : Hp) (h : Heap) (p : Addr × Obj) : Prop where
  fr : H p.1 = none
  at_ : h.get? p.1 = some p.2
  cl : ∃ v, p.2.data = .cell v
  nm : ∃ x, X.env.cells.lookup x = some p.1
theorem caps_cells {W : WX} {X : Cx} (ok : Ok F W X) {pins : List (Addr × Obj)} {σ : St} {H : Hp} {s : Shared} (I : Inv X pins σ H s) {m : List Addr} {E : SA} (rs : RS F.g H m E σ) {cl : List (Str × Addr)} (hcl : ∀ y c, X.env.cells.lookup y = some c → (∃ z, cl.lookup y = some z) → cl.lookup y = some c)
    : ∀ (js : List Nat) (fr : List Str) (caps : List D), js.map (fun j => F.N[j]?) = fr.map some → (∀ y ∈ fr, (F.scope.names.lookup y = some .cell ∨ F.scope.names.lookup y = some .free) ∧ ∃ z, cl.lookup y = some z) → getCaps js E = some caps →
      ∃ (vs : List V) (cs : Cs), DVs F.g H m caps vs ∧ (∀ p ∈ cs, CellAt X H s.heap p) ∧ CellsW cl cs fr vs
  | [], fr, caps, e, _, hc => by
    cases fr with
    | nil => cases hc; exact ⟨[], [], .nil, by simp, .nil⟩
    | cons => cases e
  | j :: js, fr, caps, e, k, hc => by
    cases fr with
    | nil => cases e
    | cons y fr =>
      rw [List.map_cons, List.map_cons] at e
      injection e with e1 e2
      unfold getCaps at hc
      split at hc
      · rename_i d hd
        obtain ⟨caps', h1, rfl⟩ := Option.map_eq_some_iff.mp hc
        obtain ⟨vs, cs, dv, ca, cw⟩ := caps_cells ok I rs hcl js fr caps' e2 (fun y hy => k y (List.mem_cons_of_mem _ hy)) h1
        obtain ⟨v, hv, dvv⟩ := rs.at_ j d hd
        obtain ⟨hk, hz⟩ := k y List.mem_cons_self
        have hk' : X.env.scope.names.lookup y = some .cell ∨ X.env.scope.names.lookup y = some .free := by rw [ok.sc]; exact hk
        obtain ⟨mm, hn, hl⟩ := I.loc
        obtain ⟨u, ru, l⟩ := hl j y v (by rw [ok.N]; exact e1) hv (hk'.elim (fun z => .inr (.inl z)) fun z => .inr (.inr z))
        rcases l with ⟨z, _⟩ | ⟨_, c, hc', o, ho, hdat⟩
        · have z' : X.env.scope.names.lookup y = some .local := z
          rcases hk' with k | k <;> rw [k] at z' <;> cases z'
        · refine ⟨v :: vs, (c, o) :: cs, .cons dvv dv, fun p hp => ?_, .cons (hcl y c hc' hz) List.mem_cons_self hdat ru (cw.more fun p hp => List.mem_cons_of_mem _ hp)⟩
          rcases List.mem_cons.mp hp with rfl | hp
          · exact ⟨I.freeC y c hc', ho, ⟨_, hdat⟩, ⟨y, hc'⟩⟩
          · exact ca p hp
      · cases hc
theorem CellsW.told {cl : List (Str × Addr)} {cs : Cs} {H : Hp} {h : Heap} (ca : ∀ p ∈ cs, h.get? p.1 = some p.2) : ∀ {xs : List Str} {vs : List V}, CellsW cl cs xs vs → CellsV (addC cs H) [] cl xs vs
  | _, _, .nil => .nil
  | _, _, .cons (c := c) (o := o) h1 h2 h3 h4 h5 => by
    obtain ⟨o', ho⟩ := mem_lookup' _ _ _ h2
    have e1 := ca _ h2
    have e2 := ca _ (lookup_mem ho)
    have e1 : h.get? c = some o := e1
    have e2 : h.get? c = some o' := e2
    rw [e1] at e2
    cases e2
    exact .cons h1 (addC_in ho) (by simp) h3 h4 (CellsW.told ca h5)
noncomputable def okR (d : D) (A : HA) : Bool := pureL d && (pureR d || noLk A)
theorem dfD_rel {g : G} {H : Hp} {m : List Addr} (L : LamRec) : DVs g H m (dfD L) (dfL L) := by
  unfold dfD dfL
  cases L.df with
  | none => exact .nil
  | some i => exact .cons (.int i) .nil
/-- f(.., lambda), the lambda j with the captured slots js; pre: what its last name has of itself -/
noncomputable def cCallL (c : CF) (j : Nat) (pre : List D) (js : List Nat) (cpre : CA) : CE := fun E A => (cpre E A).bind fun ds A1 => match getCaps js E with
  | some caps => if pureLs ds = true ∧ pureLs caps = true then (match c (ds ++ [.lam j (pre ++ caps)]) [] with
    | .ok d _ => if okR d A1 = true then .ok d A1 else .no
    | _ => .no) else .no
  | none => .no
/-- a value that is kept beside the caller's heap -/
theorem okR_back {g : G} {H H' : Hp} {m mx : List Addr} {A : HA} {d : D} {v : V} (h : okR d A = true) (rh : RH g H' m A) (k : KeepX H H') (dv : DV g H mx d v) : DV g H' m d v := by
  unfold okR at h
  rw [Bool.and_eq_true, Bool.or_eq_true] at h
  rcases h.2 with z | z
  · exact DV.toM rh z (DV.plain (m' := []) k (fun _ _ _ _ _ => by simp) h.1 dv)
  · exact DV.plain k (nm_back rh k z) h.1 dv
theorem je_callL {x : Str} {a : Addr} {ps : List Str} {c : CF} {j n : Nat} {js : List Nat} {pre : List D} {e : Expr} {es : List Expr} {cpre : CA} {p : Pos} (h : CallOk F.g F.k a ps c) (hg : Gls F.scope x) (hm : F.g.mg x = some (.ref a)) (L : LamAt F j) (ha : JAL F j (e :: es) cpre) (hn : Len cpre n) (hpre : dfD (F.g.lm j) = pre)
    (hjs : js.map (fun i => F.N[i]?) = (F.g.lm j).fr.map some) (hl : n + 1 = ps.length := by rfl) (hdb : (x == ("__debug__" : Str)) = false := by decide)
    (he : ∀ X : Cx, starEach (e :: es) X.env = (false, eval e X.env) :: starEach es X.env := by intro _; rfl) (hpl : ∀ X : Cx, (backTo pos (starEach es X.env)).any (·.1) = false := by intro _; rfl) :
    JE F (.Call (.Name x p) (e :: es) [] pos) (cCallL c j pre js cpre) := by
  subst hpre
  intro W X ok
  obtain ⟨fd, fn, b⟩ := h.ex
  refine ⟨fun pins s σ H Q I hq => ?_⟩
  obtain ⟨m, E, A, rh, rs, q⟩ := hq
  have q : Po (rE F.g) F.g m H W σ ((cpre E A).bind fun ds A1 => match getCaps js E with
    | some caps => if pureLs ds = true ∧ pureLs caps = true then (match c (ds ++ [.lam j (dfD (F.g.lm j) ++ caps)]) [] with
      | .ok d _ => if okR d A1 = true then .ok d A1 else .no
      | _ => .no) else .no
    | none => .no) Q := q
  refine wpAny_Call_Name_kw (ld_glob I (ok.gl hg) (by rw [ok.mg]; exact hm) ?_ hdb)
  refine PySem.W.callWith_K (h₀ := X.base) I.ok.mod.kin (by rw [ok.K]; exact h.kp) (thn ((ha W X ok).run pos pins s σ H (fun vs H1 => ∃ m1 ds A1, RH F.g H1 m1 A1 ∧ RS F.g H1 m1 E σ ∧ rAL X F.g j H1 m1 ds vs ∧ ds.length = n ∧ Po (rE F.g) F.g m1 H1 W σ (match getCaps js E with
    | some caps => if pureLs ds = true ∧ pureLs caps = true then (match c (ds ++ [.lam j (dfD (F.g.lm j) ++ caps)]) [] with
      | .ok d _ => if okR d A1 = true then .ok d A1 else .no
      | _ => .no) else .no
    | none => .no) Q) I ⟨m, E, A, rh, rs, ?_⟩) fun us s1 ⟨vs, H1, I1, r1, m1, ds, A1, rh1, rs1, al, hl1, q1⟩ => ⟨I1.kIn, ?_⟩) (he X) (hpl X)
  · cases hc : cpre E A with
    | ok ds A1 =>
      rw [hc] at q
      intro m' vs H' gr rh' al
      exact ⟨m', ds, A1, rh', rs.mono gr, al, hn _ _ _ _ hc, Po.from gr q⟩
    | exc => rw [hc] at q; exact q
    | no => rw [hc] at q; exact q
  · obtain ⟨vs1, f, c', T0, rfl, dv, l1, l2, l3, l4, l5⟩ := al
    cases hcap : getCaps js E with
    | none => rw [hcap] at q1; exact q1.elim
    | some caps =>
    simp only [hcap] at q1
    split at q1
    rotate_left
    · exact q1.elim
    rename_i hp
    have lf := lam_free ok L I1
    have hcl : ∀ y c, X.env.cells.lookup y = some c → (∃ z, (cloFrom X.env.cells (F.g.lm j).scope.names []).lookup y = some z) → (cloFrom X.env.cells (F.g.lm j).scope.names []).lookup y = some c := fun y c e ⟨z, hz⟩ => by
      have := NdefX.clo_cm lf hz
      rw [e] at this
      cases this
      exact hz
    obtain ⟨cvs, cs, dvc, ca, cw⟩ := caps_cells ok I1 rs1 hcl js (F.g.lm j).fr caps hjs (fun y hy => ⟨L.fr _ (L.sup y hy) rfl, by
      obtain ⟨z, hz⟩ := lf _ (L.sup y hy) rfl
      exact ⟨z, NdefX.clo_has lf (L.sup y hy) hz⟩⟩) hcap
    have cat : ∀ b o, cs.lookup b = some o → CellAt X H1 s1.heap (b, o) := fun b o z => ca _ (lookup_mem z)
    have free : CsFree cs H1 s1.heap := fun b o z => ⟨(cat b o z).fr, (cat b o z).at_⟩
    have newer : ∀ b o, cs.lookup b = some o → X.s_0.heap.objs.size ≤ b := fun b o z => by
      obtain ⟨y, hy⟩ := (cat b o z).nm
      exact I1.ok.cab y b (ok.fnb L.dp y) hy
    have noBase : ∀ b o, X.base.get? b = some o → cs.lookup b = none := fun b o e => by
      cases z : cs.lookup b with
      | none => rfl
      | some o' =>
        have := newer b o' z
        have := Heap.lt_size e
        have := I1.ok.bsz
        exact absurd (Nat.lt_of_lt_of_le (Heap.lt_size e) (Nat.le_trans I1.ok.bsz (newer b o' z))) (Nat.lt_irrefl _)
    have noFr : ∀ b ∈ frs X.stack, cs.lookup b = none := fun b hb => by
      cases z : cs.lookup b with
      | none => rfl
      | some o' =>
        rcases List.mem_cons.mp (I1.stkSub b hb) with e | e
        · obtain ⟨y, hy⟩ := (cat b o' z).nm
          exact absurd e (I1.cne y b hy)
        · obtain ⟨_, o2, ho2, _⟩ := I1.ok.funs.mem e
          exact absurd (Nat.lt_of_lt_of_le (Heap.lt_size ho2) (newer b o' z)) (Nat.lt_irrefl _)
    have e1 := I1.env0
    have e0 : Env0 F.g.prog F.g.w F.g.K F.g.mg F.g.base X.A X.stack s1 (addC cs H1) := by
      rw [← ok.prog, ← ok.w, ← ok.K, ← ok.mg, ← ok.base]
      exact ⟨e1.frames, e1.mod, fun b o e => ⟨(e1.bs b o e).1, by rw [addC_out (noBase b o e)]; exact (e1.bs b o e).2⟩, e1.bsz, e1.funs, fun b hb => by rw [addC_out (noFr b hb)]; exact e1.frf b hb, hok_add e1.hok free, e1.bare⟩
    have keepA : ∀ b o, H1 b = some o → addC cs H1 b = some o := fun b o e => by
      cases z : cs.lookup b with
      | none => rw [addC_out z]; exact e
      | some o' => rw [(free b o' z).1] at e; cases e
    have dargs : DVs F.g (addC cs H1) [] (ds ++ [.lam j (dfD (F.g.lm j) ++ caps)]) (vs1 ++ [.ref f]) := by
      refine DVs.append (DVs.plain (fun b o e _ => keepA b o e) (fun _ _ _ _ _ => by simp) hp.1 dv) (.cons (.lam (keepA _ _ l1) (by simp) (keepA _ _ l3) (by simp) ⟨⟨fun y z hz => ?_, fun y y2 z h1 h2 => ?_⟩, cw.told fun p hp => (ca p hp).at_, fun i e => let ⟨o, h1, h2, _⟩ := l5 i e; ⟨o, keepA _ _ h1, h2, by simp⟩⟩ (DVs.append (dfD_rel _) (DVs.plain (fun b o e _ => keepA b o e) (fun _ _ _ _ _ => by simp) hp.2 dvc))) .nil)
      · rcases cloFrom_mem (PySem.mem_of_lookup hz) with hmm | ⟨h1, _⟩
        · cases hmm
        · exact L.sub _ h1 rfl
      · exact I1.ok.inj y y2 z (NdefX.clo_cm lf h1) (NdefX.clo_cm lf h2)
    have cdat : ∀ b o, cs.lookup b = some o → ∃ v, o.data = .cell v := fun b o z => (cat b o z).cl
    cases hcr : c (ds ++ [.lam j (dfD (F.g.lm j) ++ caps)]) [] with
    | exc => rw [hcr] at q1; exact q1.elim
    | no => rw [hcr] at q1; exact q1.elim
    | ok d hA =>
    simp only [hcr] at q1
    split at q1
    rotate_left
    · exact q1.elim
    rename_i hok
    let Q' : VK := fun v H' => CsTold cs H' ∧ Q v (remC cs H')
    have hsp : SpC F.g c ps.length (vs1 ++ [.ref f]) (addC cs H1) Q' (fun _ _ _ => False) := by
      refine ⟨[], ds ++ [.lam j (dfD (F.g.lm j) ++ caps)], [], ⟨List.nodup_nil, .nil, tabs_add rh1.tb fun b o z => (free b o z).1, fun _ _ => by simp⟩, dargs, by rw [List.length_append, hl1]; exact hl, ?_⟩
      rw [hcr]
      intro m' v H' gr rh' dv'
      have told : CsTold cs H' := fun b o z => gr.keep b _ (addC_in z) (by simp)
      refine ⟨told, ?_⟩
      have outR : ∀ b o, H1 b = some o → remC cs H' b = H' b := fun b o e => by
        cases z : cs.lookup b with
        | none => exact remC_out z
        | some o' => rw [(free b o' z).1] at e; cases e
      have g2 : Gr m1 m1 H1 (remC cs H') := by
        refine ⟨⟨[], by simp, by simp⟩, fun b o e _ nt => ?_, fun b qs e => ?_, fun b e => ?_, fun b ob u e => by rw [outR b _ e]; exact gr.lk b ob u (keepA b _ e)⟩
        · rw [outR b o e]; exact gr.keep b o (keepA b o e) (by simp) nt
        · rw [outR b _ e]; exact gr.tbl b qs (keepA b _ e)
        · cases z : cs.lookup b with
          | none => rw [remC_out z] at e; have := gr.non b e; rw [addC_out z] at this; exact this
          | some o' => exact (free b o' z).1
      have rh2 : RH F.g (remC cs H') m1 A1 := ⟨rh1.nd, Paired.mapR rh1.at_ fun b o r => r.mono g2 (by obtain ⟨u, hu, k1, _⟩ := r.kinds; rw [outR b u hu, gr.keep b u (keepA b u hu) (by simp) k1, hu]), tabs_rem (fun b o z => (free b o z).2) rh'.tb told cdat, rh1.tbm⟩
      have kx : KeepX H' (remC cs H') := fun b u e nx => by
        cases z : cs.lookup b with
        | none => rw [remC_out z]; exact e
        | some o' => rw [told b o' z] at e; cases e; exact absurd rfl (nx _)
      exact q1 m1 v _ g2 rh2 (okR_back hok rh2 kx dv')
    have r2 : Vals (vs1 ++ [.ref f]) us := r1
    have hlen : us.length = ps.length := by rw [← r2.length]; exact fn.len _ _ _ _ hsp
    have bb := b s1 us (ok.K ▸ I1.kIn) (by rw [List.append_nil]; exact hlen)
    rw [List.append_nil] at bb
    have run := fn.run X.A X.stack s1 (addC cs H1) ⟨us, []⟩ us (vs1 ++ [.ref f]) Q' (fun _ _ _ => False) ok.room ok.gd e0 bb r2 hsp
    rw [← ok.prog, ← ok.w] at run
    refine wpAny_call (codeAny_mono run fun r s' hq => ?_)
    cases r with
    | error e =>
      obtain ⟨_, _, _, _, _, _, _, _, _, _, _, _, z⟩ := hq
      exact z.elim
    | ok fl =>
      cases fl with
      | ret u =>
        obtain ⟨v, H', os, bare, un, hok', rv, told, hQ⟩ := hq
        exact I1.after ⟨v, remC cs H', os, bare, un_add free hok' told un, hok_rem hok' told, rv, hQ⟩
      | next => exact False.elim hq
      | brk => exact False.elim hq
      | cont => exact False.elim hq
end Sm
end
section
set_option autoImplicit false
namespace Sm
open PySem PySem.Spec PyProof.Rows L2
variable {pos : Pos}
/-- a lambda's body run apart, its captured values behind its arguments -/
noncomputable def lamRun (n : Nat) (cb : CE) (caps : List D) : CF := fun ds A => if pureLs ds = true ∧ pureLs caps = true then (match cb (startA n (ds ++ caps)) [] with
    | .ok d _ => if okR d A = true then .ok d A else .no
    | .exc k es _ => if pureLs es = true ∧ (pureRs es = true ∨ noLk A = true) then .exc k es A else .no
    | .no => .no) else .no
/-- the fixed data of a lambda's body -/
noncomputable abbrev lamF (g : G) (N : List Str) (j k : Nat) : Sm.F := ⟨g, N, (g.lm j).scope, k, [], true, []⟩
/-- how its arguments are bound -/
noncomputable def LBnd (L : LamRec) (n : Nat) : Prop := ∀ (cl : List (Str × Addr)) (T0 : Addr) (doc pm cv ct : Value) (us : List Value), us.length = n → match L.df with
  | none => bindArgs (PySem.W.kdv_fn "<lambda>" L.q L.params (.expr L.body) L.scope cl .none doc pm cv ct) ⟨us, []⟩ = pure (L.ps.zip us)
  | some _ => ∀ u : Value, ∃ k, bindArgs (PySem.W.kdv_fn "<lambda>" L.q L.params (.expr L.body) L.scope cl (.ref T0) doc pm cv ct) ⟨us, []⟩ = seqItems? (.ref T0) >>= k ∧ k (some #[u]) = pure (L.ps.zip (us ++ [u]))
theorem LBnd.to {L : LamRec} {n : Nat} (b : LBnd L n) {cl : List (Str × Addr)} {T0 : Addr} {doc pm cv ct : Value} {us : List Value} {s : Shared} (hl : us.length = n) (h : ∀ i, L.df = some i → ∃ o u n', s.heap.get? T0 = some o ∧ o.data = .seq #[u] n' ∧ RelV (.int i) u) :
    ∃ ws, Vals (dfL L) ws ∧ BindsTo s (PySem.W.kdv_fn "<lambda>" L.q L.params (.expr L.body) L.scope cl (dfV L T0) doc pm cv ct) ⟨us, []⟩ (L.ps.zip (us ++ ws)) := by
  have b := b cl T0 doc pm cv ct us hl
  unfold dfL dfV
  cases hd : L.df with
  | none =>
    rw [hd] at b
    exact ⟨[], .nil, BindsTo.of_eq (by rw [List.append_nil]; exact b)⟩
  | some i =>
    rw [hd] at b
    obtain ⟨o, u, n', h1, h2, h3⟩ := h i hd
    obtain ⟨k, k1, k2⟩ := b u
    exact ⟨[u], .cons h3 .nil, BindsTo.of_defaults (T := T0) rfl h1 h2 k1 k2⟩
/-- the lambda j may be called at level k with n arguments -/
structure LamOk (g : G) (k j n : Nat) (N : List Str) (cb : CE) : Prop where
  sc : NdefX.NScope N (g.lm j).ps (g.lm j).fr (g.lm j).scope
  bnd : LBnd (g.lm j) n
  np : (g.lm j).ps.length = n + (dfL (g.lm j)).length
  body : ∃ k', k' + 1 ≤ k ∧ JE (lamF g N j k') (g.lm j).body cb
theorem LamOk.mono {g : G} {i k j n : Nat} {N : List Str} {cb : CE} (h : LamOk g i j n N cb) (z : i ≤ k) : LamOk g k j n N cb := ⟨h.sc, h.bnd, h.np, let ⟨k', a, b⟩ := h.body; ⟨k', by omega, b⟩⟩
theorem cellsW_of {H : Hp} {m : List Addr} {cl : List (Str × Addr)} : ∀ {fr : List Str} {vs : List V}, CellsV H m cl fr vs → ∃ cs : Cs, (∀ p ∈ cs, H p.1 = some (CellX p.1 p.2) ∧ p.1 ∉ m ∧ (∃ v, p.2.data = .cell v)) ∧ CellsW cl cs fr vs
  | _, _, .nil => ⟨[], by simp, .nil⟩
  | _, _, .cons (c := c) (o := o) h1 h2 h3 h4 h5 h6 => by
    obtain ⟨cs, k1, k2⟩ := cellsW_of h6
    refine ⟨(c, o) :: cs, fun p hp => ?_, .cons h1 List.mem_cons_self h4 h5 (k2.more fun p hp => List.mem_cons_of_mem _ hp)⟩
    rcases List.mem_cons.mp hp with rfl | hp
    · exact ⟨h2, h3, _, h4⟩
    · exact k1 p hp
theorem cellsW_len {cl : List (Str × Addr)} {cs : Cs} : ∀ {fr : List Str} {vs : List V}, CellsW cl cs fr vs → vs.length = fr.length
  | _, _, .nil => rfl
  | _, _, .cons _ _ _ _ h => by rw [List.length_cons, List.length_cons, cellsW_len h]
theorem cellsW_at {cl : List (Str × Addr)} {cs : Cs} : ∀ {fr : List Str} {vs : List V}, CellsW cl cs fr vs → ∀ (i : Nat) (y : Str), fr[i]? = some y → ∃ c o u v, cl.lookup y = some c ∧ (c, o) ∈ cs ∧ o.data = .cell (some u) ∧ vs[i]? = some v ∧ RelV v u
  | _, _, .nil, i, y, e => by simp at e
  | _, _, .cons h1 h2 h3 h4 h5, 0, y, e => by
    simp at e
    subst e
    exact ⟨_, _, _, _, h1, h2, h3, rfl, h4⟩
  | _, _, .cons h1 h2 h3 h4 h5, i + 1, y, e => by
    obtain ⟨c, o, u, v, k1, k2, k3, k4, k5⟩ := cellsW_at h5 i y (by simpa using e)
    exact ⟨c, o, u, v, k1, k2, k3, by simpa using k4, k5⟩
theorem startF_eq (N : List Str) (vs cvs : List V) : NdefX.startF N vs (cvs.map some) = L2.start N (vs ++ cvs) := by
  unfold NdefX.startF L2.start
  rw [List.map_append, List.append_assoc, List.length_map, List.length_append, Nat.sub_sub]
/-- the lambda runs -/
theorem lam_run {g : G} {k j n : Nat} {N : List Str} {cb : CE} (L : LamOk g k j n N cb) {W : WX} {σ : St} {f c' T0 : Addr} {cl : List (Str × Addr)} {A : Around} {outer : List Env} {s : Shared} {H : Hp} {m : List Addr} {HA0 : HA} {us : List Value} {vs cvs : List V} {ds caps : List D} {Q : VK}
    (hr : Room k A) (hgd : A.guards = some []) (e0 : Env0 g.prog g.w g.K g.mg g.base A outer s H) (rh : RH g H m HA0) (l1 : H f = some (LamO (g.lm j) cl c' T0 f)) (l2 : H c' = some (LamX.CodeO c' (g.lm j).q)) (cq : CellsQ H m cl (g.lm j).fr cvs (g.lm j).df T0) (dc : DVs g H m caps (dfL (g.lm j) ++ cvs)) (dv : DVs g H m ds vs) (r : Vals vs us) (hn : ds.length = n)
    (q : Po (rE g) g m H W σ (lamRun N.length cb caps ds HA0) Q) : codeAny (model g.prog g.w) A (.call (.ref f) ⟨us, []⟩) (CR (L2.CX g.prog g.w) outer g.prog g.w H s Q (fun cls d H2 => W cls d σ H2)) s := by
  obtain ⟨k', hk, body⟩ := L.body
  obtain ⟨cs, cin, cw⟩ := cellsW_of cq.v
  have told : CsTold cs H := fun b o z => (cin _ (lookup_mem z)).1
  have cdat : ∀ b o, cs.lookup b = some o → ∃ v, o.data = .cell v := fun b o z => (cin _ (lookup_mem z)).2.2
  have gets : ∀ b o, cs.lookup b = some o → s.heap.get? b = some o := fun b o z => told_get e0.hok told z
  have getm : ∀ b o, (b, o) ∈ cs → s.heap.get? b = some o := fun b o z => (e0.hok b _ (cin _ z).1).1
  let H0 := remC cs H
  have e1 : Env0 g.prog g.w g.K g.mg g.base A outer s H0 := ⟨e0.frames, e0.mod, fun b o e => ⟨(e0.bs b o e).1, by
      cases z : cs.lookup b with
      | none => show remC cs H b = none; rw [remC_out z]; exact (e0.bs b o e).2
      | some o' => exact remC_in z⟩, e0.bsz, e0.funs, fun b hb => by
      cases z : cs.lookup b with
      | none => show remC cs H b = none; rw [remC_out z]; exact e0.frf b hb
      | some o' => exact remC_in z, hok_rem e0.hok told, e0.bare⟩
  unfold lamRun at q
  split at q
  rotate_left
  · exact q.elim
  rename_i hp
  have kx0 : KeepX H H0 := fun b u e nx => by
    cases z : cs.lookup b with
    | none => show remC cs H b = some u; rw [remC_out z]; exact e
    | some o' => rw [told b o' z] at e; cases e; exact absurd rfl (nx _)
  have dv0 : DVs g H0 [] (ds ++ caps) (vs ++ (dfL (g.lm j) ++ cvs)) := DVs.append (DVs.plain kx0 (fun _ _ _ _ _ => by simp) hp.1 dv) (DVs.plain kx0 (fun _ _ _ _ _ => by simp) hp.2 dc)
  have rh0 : RH g H0 [] [] := ⟨List.nodup_nil, .nil, tabs_rem gets rh.tb told cdat, fun _ _ => by simp⟩
  have C : NdefX.CellsAt cl (g.lm j).fr (cvs.map some) s.heap H0 := by
    refine ⟨by rw [List.length_map]; exact cellsW_len cw, fun y c e => ?_, fun x y c e e' => cq.ok.inj x y c e e', fun i y e => ?_⟩
    · obtain ⟨i, hi⟩ := List.mem_iff_getElem?.mp (cq.ok.sub y c e)
      obtain ⟨c2, o, u, v, k1, k2, k3, _, _⟩ := cellsW_at cw i y hi
      rw [e] at k1
      cases k1
      obtain ⟨o', ho⟩ := mem_lookup' _ _ _ k2
      exact ⟨remC_in ho, some u, o, getm c o k2, k3⟩
    · obtain ⟨c2, o, u, v, k1, k2, k3, k4, k5⟩ := cellsW_at cw i y e
      refine ⟨c2, k1, fun v' ev => ?_⟩
      rw [List.getElem?_map, k4] at ev
      cases ev
      exact ⟨u, k5, o, getm c2 o k2, k3⟩
  have lim : s.heap.NoLimit := e0.mod.nolimit.keeps fun b o e => (e0.bs b o e).1
  obtain ⟨⟨pm, doc, ctv, ho⟩, _⟩ := e0.hok f _ l1
  obtain ⟨⟨oc, vs', t, hoc, hdc, hvc⟩, _⟩ := e0.hok c' _ l2
  have hlen : us.length = n := by rw [← r.length, ← dv.length, hn]
  obtain ⟨ws, rw0, bt⟩ := L.bnd.to (cl := cl) (T0 := T0) (doc := doc) (pm := pm) (cv := .ref c') (ct := ctv) (us := us) (s := s) hlen fun i e => by
    obtain ⟨o, k1, _, _⟩ := cq.d i e
    obtain ⟨_, _, us2, k4, ⟨o2, k5, _, n2, k6⟩⟩ := e0.hok T0 _ k1
    cases k4 with
    | cons k7 k8 => cases k8; exact ⟨o2, _, n2, k5, k6, k7⟩
  have rr : Vals (vs ++ dfL (g.lm j)) (us ++ ws) := Vals.append r rw0
  have hlen2 : (vs ++ dfL (g.lm j)).length = (g.lm j).ps.length := by rw [List.length_append, ← dv.length, hn, L.np]
  -- within
  let Q0 : VK := fun v H' => ∃ m' A', Gr [] m' H0 H' ∧ RH g H' m' A' ∧ ∃ d, cb (startA N.length (ds ++ caps)) [] = .ok d A' ∧ DV g H' m' d v
  let E0 : L2.XK := fun cls dd H' => ∃ m' A', Gr [] m' H0 H' ∧ RH g H' m' A' ∧ ∃ kk es, cb (startA N.length (ds ++ caps)) [] = .exc kk es A' ∧ EXR g H' m' kk es cls dd
  have inner : codeAny (model g.prog g.w) A (.call (.ref f) ⟨us, []⟩) (CR (L2.CX g.prog g.w) outer g.prog g.w H0 s Q0 E0) s := by
    have hrk : Room (k' + 1) A := hr.mono hk
    refine PySem.W.kla_callFunE hrk.depth ho rfl L.sc.co L.sc.gen rfl ⟨c', oc, vs', t, rfl, hoc, hdc, hvc⟩ ?_
    refine bt _ _ _ _ (wpAny_newFunctionEnv L.sc.nocell (fun ⟨y, _⟩ hy => L.sc.par y (List.of_mem_zip hy).1) (fun h₁ hns hsb => ⟨lim.fresh _ hsb, ?_⟩) L.sc.kind)
    let NF0 : NdefX.NF := ⟨"<lambda>", (g.lm j).q, (g.lm j).params, [], (g.lm j).scope, cl, c'⟩
    show codeAny _ _ (.expr (g.lm j).body (NdefX.envF NF0 f s.heap.objs.size)) _ _
    have kp : ∀ b o, s.heap.get? b = some o → h₁.get? b = some o := fun b o e => hsb.extBut b o (Nat.ne_of_lt (Heap.lt_size e)) (Heap.get?_push_of_some _ e)
    have I : Inv (NdefX.ncx (L2.CX g.prog g.w) g.prog g.w g.K g.mg g.base N NF0 f A outer s H0 E0) [] (NdefX.startF N (vs ++ dfL (g.lm j)) (cvs.map some)) H0 { s with heap := h₁, toks := s.toks + ((g.lm j).ps.zip (us ++ ws)).length } := NdefX.inv_startN L.sc hr.hd e1 hlen2 rr C hns kp
    generalize hX : NdefX.ncx (L2.CX g.prog g.w) g.prog g.w g.K g.mg g.base N NF0 f A outer s H0 E0 = X at I
    have ok : Ok (lamF g N j k') (fun cls d _ H => E0 cls d H) X := by
      subst hX
      exact { prog := rfl, w := rfl, K := rfl, mg := rfl, base := rfl, N := rfl, sc := rfl, nd := L.sc.nd, room := hrk.deeper _, calm := rfl, gd := hgd, tk := takes_of rfl rfl rfl rfl, fnb := (fun z => by cases z), tabB := fun t z => by cases z }
    rw [startF_eq, List.append_assoc] at I
    have po : Po (rE g) g [] H0 (fun cls d _ H => E0 cls d H) (L2.start N (vs ++ (dfL (g.lm j) ++ cvs))) (cb (startA N.length (ds ++ caps)) []) Q0 := by
      cases hc : cb (startA N.length (ds ++ caps)) [] with
      | ok d A' => exact fun m' v H' gr rh' dv' => ⟨m', A', gr, rh', d, hc, dv'⟩
      | exc kk es A' => exact fun m' H' cls dd gr rh' ex => ⟨m', A', gr, rh', kk, es, hc, ex⟩
      | no => rw [hc] at q; exact q.elim
    have run := (body _ X ok).run [] _ _ H0 Q0 I ⟨[], startA N.length (ds ++ caps), [], rh0, rs_start dv0, po⟩
    subst hX
    refine PySem.W.kla_codeExpr (wpAny_mono run (fun u s' hq => ?_) fun e s' hq => hq)
    obtain ⟨v, H', J, rv, qq⟩ := hq
    exact ⟨v, H', J.os, J.bare, J.base, J.hok, rv, qq⟩
  -- from outside
  have free0 : ∀ {b : Addr} {o' : Obj}, cs.lookup b = some o' → H0 b = none := fun z => remC_in z
  have keepC : ∀ {m' : List Addr} {H' : Hp}, Gr [] m' H0 H' → ∀ b o, H b = some o → (∀ ps, o ≠ .tbl ps) → addC cs H' b = some o := fun {m' H'} gr b o e nt => by
    cases z : cs.lookup b with
    | none => rw [addC_out z]; exact gr.keep b o (by show remC cs H b = some o; rw [remC_out z]; exact e) (by simp) nt
    | some o' => rw [addC_in z]; rw [told b o' z] at e; exact e
  have grO : ∀ {m' : List Addr} {H' : Hp}, Gr [] m' H0 H' → Gr m m H (addC cs H') := fun {m' H'} gr => by
    refine ⟨⟨[], by simp, by simp⟩, fun b o e _ nt => keepC gr b o e nt, fun b qs e => ?_, fun b e => ?_, fun b ob u e => keepC gr b _ e (by simp)⟩
    · cases z : cs.lookup b with
      | none => rw [addC_out z]; exact gr.tbl b qs (by show remC cs H b = _; rw [remC_out z]; exact e)
      | some o' => rw [told b o' z] at e; cases e
    · cases z : cs.lookup b with
      | none => rw [addC_out z] at e; have := gr.non b e; rwa [show H0 b = H b from remC_out z] at this
      | some o' => rw [addC_in z] at e; cases e
  have rhO : ∀ {m' : List Addr} {H' : Hp} {A' : HA}, Gr [] m' H0 H' → RH g H' m' A' → (∀ b o, cs.lookup b = some o → H' b = none) → RH g (addC cs H') m HA0 := fun {m' H' A'} gr rh' n =>
    ⟨rh.nd, Paired.mapR rh.at_ fun b o r => r.mono (grO gr) (by obtain ⟨u, hu, k1, _⟩ := r.kinds; rw [keepC gr b u hu k1, hu]), tabs_add rh'.tb n, rh.tbm⟩
  have kxO : ∀ {H' : Hp}, (∀ b o, cs.lookup b = some o → H' b = none) → KeepX H' (addC cs H') := fun {H'} n b u e _ => by
    cases z : cs.lookup b with
    | none => rw [addC_out z]; exact e
    | some o' => rw [n b o' z] at e; cases e
  refine codeAny_mono inner fun r s' hq => ?_
  cases r with
  | error e =>
    obtain ⟨a, B, H', cls, dd, e1, fz, hok, ub, na, os, bare, m', A', gr, rh', kk, es, hc, ex⟩ := hq
    have nn : ∀ b o, cs.lookup b = some o → H' b = none := fun b o z => ub.free b o (gets b o z) (free0 z)
    have toldB : ∀ b o, cs.lookup b = some o → B.get? b = some o := fun b o z => ub.keep b o (gets b o z) (free0 z) fun hb => by
      have := e0.frf b hb
      rw [told b o z] at this
      cases this
    rw [hc] at q
    split at q
    · rename_i h2; cases h2
    · rename_i h2
      cases h2
      split at q
      · rename_i hpe
        refine ⟨a, B, addC cs H', cls, dd, e1, fz, hok_add hok fun b o z => ⟨nn b o z, toldB b o z⟩, ub_rem told ub, ?_, os, bare, ?_⟩
        · cases z : cs.lookup a with
          | none => rw [addC_out z]; exact na
          | some o' =>
            obtain ⟨_, fa, _⟩ := fz
            rw [toldB a o' z] at fa
            cases fa
        · obtain ⟨x1, q2, us2, x2, x3, x4, x5, x6⟩ := ex
          have kx := kxO nn
          have rh2 := rhO gr rh' nn
          refine q m (addC cs H') cls dd (grO gr) rh2 ⟨x1, q2, us2, x2, kx _ _ x3 (fun φ z => by cases z), rh2.not_in (kx _ _ x3 (fun φ z => by cases z)) (.inr (.inr (.inr ⟨_, rfl⟩))), x5, ?_⟩
          rcases hpe.2 with z | z
          · exact DVs.toM rh2 z (DVs.plain (m' := []) kx (fun _ _ _ _ _ => by simp) hpe.1 x6)
          · exact DVs.plain kx (nm_back rh2 kx z) hpe.1 x6
      · exact q.elim
    · rename_i h2; cases h2
  | ok fl =>
    cases fl with
    | next => exact False.elim hq
    | brk => exact False.elim hq
    | cont => exact False.elim hq
    | ret u =>
      obtain ⟨v, H', os, bare, un, hok, rv, m', A', gr, rh', d, hc, dv'⟩ := hq
      have nn : ∀ b o, cs.lookup b = some o → H' b = none := fun b o z => un.free b o (gets b o z) (free0 z) (by simp)
      have keepH : ∀ b o, cs.lookup b = some o → s'.heap.get? b = some o := fun b o z => un.keep b o (gets b o z) (free0 z) (fun hb => by
        have := e0.frf b hb
        rw [told b o z] at this
        cases this) (by simp)
      rw [hc] at q
      split at q
      · rename_i h2
        cases h2
        split at q
        · rename_i hok2
          have rh2 := rhO gr rh' nn
          exact ⟨v, addC cs H', os, bare, un_rem e0.hok told un, hok_add hok fun b o z => ⟨nn b o z, keepH b o z⟩, rv, q m v _ (grO gr) rh2 (okR_back hok2 rh2 (kxO nn) dv')⟩
        · exact q.elim
      · rename_i h2; cases h2
      · rename_i h2; cases h2
end Sm
end
section
set_option autoImplicit false
namespace Sm
open PySem PySem.Spec PyProof.Rows L2
variable {F : F} {pos : Pos}
noncomputable def TabF (g : G) (k n : Nat) (tf : Nat → Option CF) : Prop := ∀ f c, tf f = some c → ∃ ps : List Str, ps.length = n ∧ CallOk g k (g.fa f) ps c
noncomputable def TabL (g : G) (k n : Nat) (tl : Nat → Option (Nat × CE)) : Prop := ∀ j N cb, tl j = some (N, cb) → ∃ Ns : List Str, Ns.length = N ∧ LamOk g k j n Ns cb
theorem TabF.mono {g : G} {i k n : Nat} {tf : Nat → Option CF} (h : TabF g i n tf) (z : i ≤ k) : TabF g k n tf := fun f c e => let ⟨ps, a, b⟩ := h f c e; ⟨ps, a, b.mono z⟩
theorem TabL.mono {g : G} {i k n : Nat} {tl : Nat → Option (Nat × CE)} (h : TabL g i n tl) (z : i ≤ k) : TabL g k n tl := fun f c d e => let ⟨ps, a, b⟩ := h f c d e; ⟨ps, a, b.mono z⟩
theorem TabF.non {g : G} {k n : Nat} : TabF g k n fun _ => none := fun _ _ e => by cases e
theorem TabL.non {g : G} {k n : Nat} : TabL g k n fun _ => none := fun _ _ _ e => by cases e
theorem TabF.one {g : G} {k n f : Nat} {c : CF} {ps : List Str} {tf : Nat → Option CF} (h : CallOk g k (g.fa f) ps c) (r : TabF g k n tf) (hn : ps.length = n := by rfl) : TabF g k n fun i => if i = f then some c else tf i := fun i c' e => by
  dsimp only at e
  split at e
  · rename_i z; subst z; cases e; exact ⟨ps, hn, h⟩
  · exact r i c' e
theorem TabL.one {g : G} {k n j : Nat} {cb : CE} {N : List Str} {tl : Nat → Option (Nat × CE)} (h : LamOk g k j n N cb) (r : TabL g k n tl) : TabL g k n fun i => if i = j then some (N.length, cb) else tl i := fun i N' c' e => by
  dsimp only at e
  split at e
  · rename_i z; subst z; cases e; exact ⟨N, rfl, h⟩
  · exact r i N' c' e
noncomputable def vSel (tf : Nat → Option CF) (tl : Nat → Option (Nat × CE)) : D → Option CF
  | .fn f => tf f
  | .lam j caps => (tl j).map fun p => lamRun p.1 p.2 caps
  | _ => none
noncomputable def cCallV (tf : Nat → Option CF) (tl : Nat → Option (Nat × CE)) (i : Nat) (ca : CA) : CE := fun E A => match E[i]? with
  | some (some d) => match vSel tf tl d with
    | some c => (ca E A).bind fun ds A1 => c ds A1
    | none => .no
  | _ => .no
theorem je_callV0 {tf : Nat → Option CF} {tl : Nat → Option (Nat × CE)} {i : Nat} {x : Str} {p : Pos} (hN : F.N[i]? = some x) (hv : Vis F.scope x) (tF : TabF F.g F.k 0 tf) (tL : TabL F.g F.k 0 tl)
    (hd : (x == ("__debug__" : Str)) = false := by decide) (hcd : (x == ("__classdict__" : Str)) = false := by decide) :
    JE F (.Call (.Name x p) [] [] pos) (cCallV tf tl i cNil) := by
  intro W X ok
  refine ⟨fun pins s σ H Q I hq => ?_⟩
  obtain ⟨m, E, A, rh, rs, q⟩ := hq
  unfold cCallV at q
  split at q
  rotate_left
  · exact q.elim
  rename_i d ed
  obtain ⟨v, hv1, dv⟩ := rs.at_ i d ed
  refine wpAny_Call_Name_kw (thn ((pe_var (pos := p) (by rw [ok.N]; exact hN) (by rw [ok.sc]; exact hv) hd hcd).run pins s σ H (fun w H1 => w = v ∧ H1 = H) I ⟨v, hv1, rfl, rfl⟩) fun u s1 ⟨w, H1, I1, r1, q1⟩ => ?_)
  obtain ⟨ev, eH⟩ := q1
  subst ev
  rw [eH] at I1
  split at q
  rotate_left
  · exact q.elim
  rename_i c hc
  have q : Po (rE F.g) F.g m H W σ (c [] A) Q := q
  cases d with
  | fn f =>
    have hc : tf f = some c := hc
    obtain ⟨ps, hl, h⟩ := tF f c hc
    obtain ⟨fd, fn, b⟩ := h.ex
    cases dv
    obtain rfl : u = .ref (F.g.fa f) := r1
    refine PySem.W.callWith_K0 (first := []) I1.kIn (by rw [ok.K]; exact h.kp) (run_g (us := []) (vs := []) (E := fun σ cls d H2 => W cls d σ H2) ok fn b (passAt ok.tk σ) I1 .nil ?_)
    refine ⟨m, [], A, rh, .nil, hl.symm, ?_⟩
    cases hc : c [] A with
    | ok d h => rw [hc] at q; exact q
    | exc => rw [hc] at q; exact q
    | no => rw [hc] at q; exact q.elim
  | lam j caps =>
    obtain ⟨⟨N, cb⟩, hj, rfl⟩ := Option.map_eq_some_iff.mp (show (tl j).map (fun p => lamRun p.1 p.2 caps) = some c from hc)
    obtain ⟨Ns, rfl, L⟩ := tL j N cb hj
    cases dv with
    | lam h1 h2 h3 h4 h5 h6 =>
    rename_i f c' T0 cl cvs
    obtain rfl : u = .ref f := r1
    obtain ⟨⟨pm, doc, ctv, ho⟩, _⟩ := I1.hok f _ h1
    refine PySem.W.callWith_F0 (first := []) ⟨_, _, _, _, ho⟩ ?_
    show wpAny _ _ (call (.ref f) []) _ _ _
    have e0 : Env0 F.g.prog F.g.w F.g.K F.g.mg F.g.base X.A X.stack s1 H := by
      have := I1.env0
      rw [ok.prog, ok.w, ok.K, ok.mg, ok.base] at this
      exact this
    have run := lam_run L ok.room ok.gd e0 rh h1 h3 h5 h6 .nil .nil rfl q
    rw [← ok.prog, ← ok.w] at run
    refine wpAny_call (codeAny_mono run fun r s' hq => ?_)
    cases r with
    | error e => exact passAt ok.tk σ pins H s1 e s' I1 hq
    | ok fl =>
      cases fl with
      | ret u => exact I1.after hq
      | next => exact False.elim hq
      | brk => exact False.elim hq
      | cont => exact False.elim hq
  | _ => cases hc
end Sm
end
section
set_option autoImplicit false
namespace Sm
open PySem PySem.Spec PyProof.Rows L2
variable {F : F} {pos : Pos}
noncomputable def bool1 : D → Option Bool
  | .bl b => some b
  | _ => none
noncomputable def int1 : D → Option Int
  | .int i => some i
  | _ => none
noncomputable def optL {α : Type} (f : D → Option α) : List D → Option (List α)
  | [] => some []
  | d :: ds => match f d, optL f ds with
    | some x, some xs => some (x :: xs)
    | _, _ => none
section
variable {g : G} {H : Hp} {m : List Addr}
theorem bools_rel : ∀ {ds : List D} {bs : List Bool} {vs : List V}, optL bool1 ds = some bs → DVs g H m ds vs → vs = bs.map V.bl
  | [], bs, vs, e, r => by cases e; cases r; rfl
  | d :: ds, bs, vs, e, r => by
    cases r with
    | cons h hs =>
    unfold optL at e
    split at e
    · rename_i b bs' e1 e2
      cases e
      cases d <;> first | cases e1 | skip
      cases h
      rw [bools_rel e2 hs]
      rfl
    · cases e
theorem ints_rel : ∀ {ds : List D} {ns : List Int} {vs : List V}, optL int1 ds = some ns → DVs g H m ds vs → vs = ns.map V.int
  | [], bs, vs, e, r => by cases e; cases r; rfl
  | d :: ds, bs, vs, e, r => by
    cases r with
    | cons h hs =>
    unfold optL at e
    split at e
    · rename_i b bs' e1 e2
      cases e
      cases d <;> first | cases e1 | skip
      cases h
      rw [ints_rel e2 hs]
      rfl
    · cases e
end
noncomputable def pBools (f : List Bool → Bool) : PF := fun ds A => match ds with
  | [d] => match (listOf A d).bind (optL bool1) with
    | some bs => .ok (.bl (f bs)) A
    | none => .no
  | _ => .no
noncomputable abbrev pAll : PF := pBools fun bs => bs.all id
theorem pBools_in {g : G} {W : WX} {σ : St} {m : List Addr} {H : Hp} {A : HA} {ds : List D} {vs : List V} {Q : VK} {f : List Bool → Bool} (rh : RH g H m A) (dv : DVs g H m ds vs) (q : Po (rE g) g m H W σ (pBools f ds A) Q) : ∃ a bs, vs = [.ref a] ∧ SqL g.K H a (bs.map V.bl) ∧ Q (.bl (f bs)) H := by
  unfold pBools at q
  split at q
  · obtain ⟨v, rfl, dv1⟩ := dv.one
    split at q
    · rename_i bs hb
      obtain ⟨ds, h1, h2⟩ := Option.bind_eq_some_iff.mp hb
      obtain ⟨p, ws, rfl, s, r⟩ := listOf_rel rh dv1 h1
      have := bools_rel h2 r
      subst this
      exact ⟨p, bs, rfl, s, Po.ok q rh (.bl _)⟩
    · exact q.elim
  · exact q.elim
theorem callF_all {g : G} : CallF g (.builtin "all") pAll := by
  refine callF_of (fun X hK hc => hK ▸ cr_all hc) ?_
  intro W σ m H A ds vs Q rh dv q sz
  exact pBools_in rh dv q
noncomputable def pTupOf : PF := fun ds A => match ds with
  | [.tup xs] => .ok (.tup xs) A
  | [d] => match listOf A d with
    | some xs => .ok (.tup xs) A
    | none => .no
  | _ => .no
/-- tuple(xs): the new tuple's object is known -/
theorem call_tupF {X : Cx} : CallR X (.type "tuple") (fun xs H Q => ∃ p ys, xs = [.ref p] ∧ ((SqL X.K H p ys ∧ ∀ l o, H l = none → o.dict = none → Q (.ref l) (upd H l (.frz o (.tup ys)))) ∨ (SqT X.K H p ys ∧ Q (.ref p) H))) := by
  intro pins s σ H xs us Q I r h
  obtain ⟨p, ys, rfl, ⟨hq, q⟩ | ⟨hq, q⟩⟩ := h
  · obtain ⟨u, rfl, rx⟩ := vals1 r
    obtain rfl : u = Value.ref p := rx
    obtain ⟨its, r', pl, hz⟩ := I.list hq
    have hlen := r'.length
    refine call_tuple_list pl.isList (fun h' kp => ?_) (by simp only [List.size_toArray] <;> omega)
    have I1 : Inv X pins σ H { s with heap := h' } := I.kept (t' := s.toks) kp
    have I2 := tup_laid (t' := s.toks) I1 (h' := h'.push { cls := .type "tuple", data := .seq its.toArray }) (fun b o e => Heap.get?_push_of_some _ e) (Nat.le_refl _) r' hz (Heap.get?_push_size _ rfl)
    exact ⟨.ref h'.objs.size, _, I2, rfl, q _ _ (I1.hok.fresh (Nat.le_refl _)) rfl⟩
  · obtain ⟨u, rfl, rx⟩ := vals1 r
    obtain rfl : u = Value.ref p := rx
    obtain ⟨its, r', pl, hz⟩ := I.tuple hq
    exact call_tuple_same pl ⟨.ref p, H, I, rfl, q⟩
theorem callF_tupOf {g : G} : CallF g (.type "tuple") pTupOf := by
  refine callF_of (fun X hK hc => hK ▸ call_tupF) ?_
  intro W σ m H A ds vs Q rh dv q sz
  unfold pTupOf at q
  split at q
  · obtain ⟨v, rfl, dv1⟩ := dv.one
    cases dv1 with
    | tup h hs => exact ⟨_, _, rfl, .inr ⟨sqT_of h, Po.ok q rh (.tup h hs)⟩⟩
  · obtain ⟨v, rfl, dv1⟩ := dv.one
    split at q
    · rename_i xs hx
      obtain ⟨p, ws, rfl, s, r⟩ := listOf_rel rh dv1 hx
      refine ⟨p, ws, rfl, .inl ⟨s, fun l o hl ho => ?_⟩⟩
      have gr : Gr m m H (upd H l (.frz o (.tup ws))) := Gr.new hl
      exact Po.ok' q gr (rh.upd hl) (.tup (.inl ⟨o, upd_same, ho, rh.new hl⟩) (r.mono gr))
    · exact q.elim
  · exact q.elim
noncomputable def pLstOf (hot : Bool) : PF := fun ds A => match ds with
  | [d] => match (match d with | .tup xs => some xs | _ => listOf A d) with
    | some xs => if hot = true then .ok (.ref A.length) (A ++ [.lst xs]) else .ok (.lst xs) A
    | none => .no
  | _ => .no
theorem callF_lstOf {g : G} {hot : Bool} : CallF g (.type "list") (pLstOf hot) := by
  intro F W X e ok pins s σ H m A ds vs us Q I rh dv r q
  have hK : X.K = g.K := ok.K.trans (congrArg G.K e)
  unfold pLstOf at q
  split at q
  · rename_i d
    obtain ⟨v, rfl, dv1⟩ := dv.one
    split at q
    · rename_i xs hx
      have key : ∃ p ws, v = .ref p ∧ (SqL g.K H p ws ∨ SqT g.K H p ws) ∧ DVs g H m xs ws := by
        split at hx
        · cases hx
          cases dv1 with
          | tup h hs => exact ⟨_, _, rfl, .inr (sqT_of h), hs⟩
        · obtain ⟨p, ws, rfl, s, r⟩ := listOf_rel rh dv1 hx
          exact ⟨p, ws, rfl, .inl s, r⟩
      obtain ⟨p, ws, rfl, sq, rr⟩ := key
      cases hot with
      | true =>
        simp only [if_true] at q
        refine call_list_of (X := X) pins s σ H _ us Q I r ⟨p, ws, rfl, hK ▸ sq, fun l hl => ?_⟩
        have gr : Gr m (m ++ [l]) H (upd H l (.lst ws)) := Gr.push hl
        refine Po.ok' q gr (rh.push hl ⟨_, upd_same, rr.mono gr⟩) (.ref ?_)
        rw [← rh.len]; simp
      | false =>
        simp only [Bool.false_eq_true, if_false] at q
        refine ep_frz (call_list_of (X := X) pins s σ H _ us _ I r ⟨p, ws, rfl, hK ▸ sq, fun l hl => ⟨l, _, rfl, upd_same, fun o => ?_⟩⟩)
        rw [upd_upd]
        have gr : Gr m m H (upd H l (.frz o (.lst ws))) := Gr.new hl
        exact Po.ok' q gr (rh.upd hl) (.lst (.inl ⟨o, upd_same, rh.new hl⟩) (rr.mono gr))
    · exact q.elim
  · exact q.elim
noncomputable abbrev CO := SA → HA → R (Option Int)
noncomputable abbrev rO : Rl (Option Int) (Option Int) := fun _ _ a b => a = b
noncomputable def JO (F : Sm.F) (e : Option Expr) (c : CO) : Prop := ∀ W X, Ok F W X → PO X e (Tx rO F.g W c)
theorem PO.imp {X : Cx} {e : Option Expr} {t t' : TO} (h : PO X e t) (k : ∀ σ H Q, t' σ H Q → t σ H Q) : PO X e t' := ⟨fun pins s σ H Q I q => h.run pins s σ H Q I (k σ H Q q)⟩
noncomputable def cONone : CO := fun _ A => .ok none A
noncomputable def cOSome (c : CE) : CO := fun E A => (c E A).bind fun d A1 => match d with
  | .int i => .ok (some i) A1
  | _ => .no
theorem jo_none : JO F none cONone := fun W X ok => PO.imp po_none fun σ H Q ⟨m, E, A, rh, rs, q⟩ => Po.ok q rh rfl
theorem jo_some {e : Expr} {c : CE} (h : JE F e c) : JO F (some e) (cOSome c) := by
  intro W X ok
  refine PO.imp (po_some (h W X ok)) ?_
  rintro σ H Q ⟨m, E, A, rh, rs, q⟩
  refine ⟨m, E, A, rh, rs, Po.bind q fun m1 H1 d x A1 g1 rh1 dx q1 => ?_⟩
  split at q1
  · have := dx.int_inv
    subst this
    exact ⟨_, rfl, Po.ok q1 rh1 rfl⟩
  · exact q1.elim
noncomputable def rSlF (K : PySem.W.Frag) : V → Option Int → Option Int → Hp → VK → Prop := fun x lo hi H Q => ∃ a xs, x = .ref a ∧ SqL K H a xs ∧ ∀ p o, H p = none → Q (.ref p) (upd H p (.frz o (.lst (cutV xs lo hi))))
theorem sl_listF {X : Cx} : SlR X (rSlF X.K) := by
  intro pins s σ H x v vl vu lo hi sl Q I rx hs pl pu ⟨a, xs, e, hx, q⟩
  obtain ⟨T, id, h1, h2, h3⟩ := sl_list pins s σ H x v vl vu lo hi sl (fun v H' => ∃ p xs, v = .ref p ∧ H' p = some (.lst xs) ∧ ∀ o, Q v (upd H' p (.frz o (.lst xs)))) I rx hs pl pu ⟨a, xs, e, hx, fun p hp => ⟨p, _, rfl, upd_same, fun o => by rw [upd_upd]; exact q p o hp⟩⟩
  exact ⟨T, id, h1, h2, ep_frz h3⟩
noncomputable def cutD (xs : List D) (lo hi : Option Int) : List D := (xs.drop (HT.sIx xs.length 0 lo)).take (HT.sIx xs.length xs.length hi - HT.sIx xs.length 0 lo)
theorem cut_rel {g : G} {H : Hp} {m : List Addr} {ds : List D} {vs : List V} (r : DVs g H m ds vs) (lo hi : Option Int) : DVs g H m (cutD ds lo hi) (cutV vs lo hi) := by
  unfold cutD cutV
  rw [r.length]
  exact (r.drop _).take _
noncomputable def cSl (ce : CE) (cl ch : CO) : CE := fun E A => (ce E A).bind fun d A1 => (cl E A1).bind fun lo A2 => (ch E A2).bind fun hi A3 => match d with
  | .tup xs => .ok (.tup (cutD xs lo hi)) A3
  | _ => match listOf A3 d with
    | some xs => .ok (.lst (cutD xs lo hi)) A3
    | none => .no
/-- t[lo:hi]: the new tuple's object is known -/
noncomputable def rSlU (K : PySem.W.Frag) : V → Option Int → Option Int → Hp → VK → Prop := fun x lo hi H Q => ∃ a xs, x = .ref a ∧ SqT K H a xs ∧
  (HT.sIx xs.length 0 lo = 0 ∧ HT.sIx xs.length xs.length hi = xs.length → Q (.ref a) H) ∧ (¬ (HT.sIx xs.length 0 lo = 0 ∧ HT.sIx xs.length xs.length hi = xs.length) → ∀ p o, H p = none → o.dict = none → Q (.ref p) (upd H p (.frz o (.tup (cutV xs lo hi)))))
theorem sl_tupU {X : Cx} : SlR X (rSlU X.K) := by
  intro pins s σ H x v vl vu lo hi sl Q I rx hs pl pu h
  obtain ⟨a, xs, rfl, hx, q1, q2⟩ := h
  by_cases hw : HT.sIx xs.length 0 lo = 0 ∧ HT.sIx xs.length xs.length hi = xs.length
  · exact sl_tupA pins s σ H _ v vl vu lo hi sl Q I rx hs pl pu ⟨a, xs, rfl, hx, q1, fun z => absurd hw z⟩
  · obtain ⟨its, r, ht, hz⟩ := I.tuple hx
    obtain rfl : v = Value.ref a := rx
    have hlen : its.toArray.size = xs.length := by rw [List.size_toArray]; exact r.length.symm
    refine ⟨"tuple", _, PyProof.Rows.slot_tuple_getitem.lookup, ht.typeIs, HT.getItem_tuple_cut ht hs pl pu (by rw [hlen]; exact hw) ?_ (by rw [hlen]; exact hz)⟩
    rw [hlen]
    have I2 := tup_laid (t' := s.toks) I (h' := s.heap.push { cls := .type "tuple", data := .seq ((its.drop (HT.sIx xs.length 0 lo)).take (HT.sIx xs.length xs.length hi - HT.sIx xs.length 0 lo)).toArray }) (fun b ob q => Heap.get?_push_of_some _ q) (Nat.le_refl _)
      ((r.drop (HT.sIx xs.length 0 lo)).take (HT.sIx xs.length xs.length hi - HT.sIx xs.length 0 lo)) (Nat.le_trans (cutV_length xs lo hi) hz) (Heap.get?_push_size _ rfl)
    exact ⟨.ref s.heap.objs.size, _, I2, rfl, q2 hw _ _ (I.hok.fresh (Nat.le_refl _)) rfl⟩
theorem je_slice {e : Expr} {lo hi : Option Expr} {ce : CE} {cl ch : CO} {p2 : Pos} (he : JE F e ce) (hl : JO F lo cl) (hh : JO F hi ch) : JE F (.Subscript e (.Slice lo hi none p2) pos) (cSl ce cl ch) := by
  intro W X ok
  have h := pe_slice (pos := pos) (p2 := p2) (SlR.or (sl_listF (X := X)) (sl_tupU (X := X))) (he W X ok) (hl W X ok) (hh W X ok)
  rw [ok.K] at h
  refine PE.imp h ?_
  rintro σ H Q ⟨m, E, A, rh, rs, q⟩
  refine ⟨m, E, A, rh, rs, Po.bind q fun m1 H1 d x A1 g1 rh1 dx q1 => ⟨m1, E, A1, rh1, rs.mono g1, Po.bind (ρ := rO) q1 fun m2 H2 l l' A2 g2 rh2 el q2 => ⟨m2, E, A2, rh2, (rs.mono g1).mono g2, Po.bind (ρ := rO) q2 fun m3 H3 u u' A3 g3 rh3 eu q3 => ?_⟩⟩⟩
  cases el
  cases eu
  have dx := (dx.mono g2).mono g3
  split at q3
  · cases dx with
    | tup h hs =>
    rename_i xs vs p
    refine .inr ⟨p, vs, rfl, sqT_of h, fun hw => ?_, fun hw t o ht ho => ?_⟩
    · have e2 : cutD xs l u = xs := by
        unfold cutD
        rw [hs.length, hw.1, hw.2, ← hs.length]
        simp
      rw [e2] at q3
      exact Po.ok q3 rh3 (.tup h hs)
    · have gr : Gr m3 m3 H3 (upd H3 t (.frz o (.tup (cutV vs l u)))) := Gr.new ht
      exact Po.ok' q3 gr (rh3.upd ht) (.tup (.inl ⟨o, upd_same, ho, rh3.new ht⟩) ((cut_rel hs l u).mono gr))
  · split at q3
    · rename_i xs hx
      obtain ⟨p, ws, rfl, s, r⟩ := listOf_rel rh3 dx hx
      refine .inl ⟨p, ws, rfl, s, fun t o ht => ?_⟩
      have gr : Gr m3 m3 H3 (upd H3 t (.frz o (.lst (cutV ws l u)))) := Gr.new ht
      exact Po.ok' q3 gr (rh3.upd ht) (.lst (.inl ⟨o, upd_same, rh3.new ht⟩) ((cut_rel r l u).mono gr))
    · exact q3.elim
noncomputable def lettersD (x : Str) : List D := x.cps.toList.map fun c => .str ⟨#[c]⟩
theorem wk_str {g : G} {H : Hp} {m : List Addr} {x : Str} (hz : x.cps.size ≤ sizeLine) : rI g H m (.fix (lettersD x)) (Its x) := by
  refine ⟨?_, fun _ => by show (lettersD x).length ≤ sizeLine; unfold lettersD; simpa using hz⟩
  intro i m1 H1 A a rh o e
  have e : some (lettersD x)[i]? = some o := e
  cases e
  unfold lettersD
  rw [List.getElem?_map, Array.getElem?_toList]
  by_cases hi : i < x.cps.size
  · rw [Array.getElem?_eq_getElem hi]
    refine ⟨hi, fun y H' z => ?_⟩
    obtain ⟨rfl, c, hc, rfl⟩ := z
    rw [Array.getElem?_eq_getElem hi] at hc
    cases hc
    exact ⟨fun _ _ h => h, Gr.refl _ _, .str _⟩
  · rw [Array.getElem?_eq_none (Nat.le_of_not_lt hi)]
    exact Nat.le_of_not_lt hi
noncomputable def iAny (ce : CE) : CI := fun E A => (ce E A).bind fun d A1 => match d with
  | .str x => if x.cps.size ≤ sizeLine then .ok (.fix (lettersD x)) A1 else .no
  | .tup ds => .ok (.fix ds) A1
  | .lst ds => .ok (.fix ds) A1
  | .ref a => match A1[a]? with
    | some (.lst ds) => .ok (.live a ds.length) A1
    | _ => .no
  | _ => .no
theorem ji_any {tg e : Expr} {ce : CE} (he : JE F e ce) : JI F tg e (iAny ce) := by
  intro W X ok
  refine PI.imp (PI.or (ji_seq (tg := tg) he W X ok) (pi_str (tg := tg) (he W X ok))) ?_
  rintro σ H Q ⟨m, E, A, rh, rs, q⟩
  have q : Po (rI F.g) F.g m H W σ (iAny ce E A) Q := q
  unfold iAny at q
  by_cases hx : ∃ x A1, ce E A = .ok (.str x) A1
  · obtain ⟨x, A1, hc⟩ := hx
    refine .inr ⟨m, E, A, rh, rs, ?_⟩
    rw [hc] at q ⊢
    intro m1 v H1 gr r dv
    have := dv.str_inv
    subst this
    have q : Po (rI F.g) F.g m H W σ (if x.cps.size ≤ sizeLine then .ok (.fix (lettersD x)) A1 else .no) Q := q
    split at q
    · rename_i hz
      exact ⟨x, rfl, q m1 _ H1 gr r (wk_str hz)⟩
    · exact q.elim
  · refine .inl ⟨m, E, A, rh, rs, ?_⟩
    have e1 : iSeq ce E A = iAny ce E A := by
      unfold iSeq iAny
      cases hc : ce E A with
      | ok d A1 =>
        cases d with
        | str x => exact absurd ⟨x, A1, hc⟩ hx
        | _ => rfl
      | exc => rfl
      | no => rfl
    show Po (rI F.g) F.g m H W σ (iSeq ce E A) Q
    rw [e1]
    exact q
end Sm
end
section
set_option autoImplicit false
namespace Sm
open PySem PySem.Spec PyProof.Rows L2
variable {F : F} {pos : Pos}
theorem RS.monoW {g : G} {H H' : Hp} {m m' : List Addr} {E : SA} {σ : St} (a : GrW m m' H H') (h : RS g H m E σ) : RS g H' m' E σ := ⟨h.len, fun i d e => let ⟨v, h1, h2⟩ := h.at_ i d e; ⟨v, h1, h2.monoW a⟩⟩
end Sm
end
section
set_option autoImplicit false
namespace Sm
open PySem PySem.Spec PyProof.Rows L2
section
variable {P : Program} {w : World} {A : Around} {E : Value → Shared → Prop} {s : Shared}
/-- a new set -/
noncomputable abbrev newSetO (w : World) : Obj := { cls := .type "set", dict := none, data := .set #[] 0 (.fresh 0 0 (!w.params.followText "set-order")) }
/-- the heap at the loop's beginning: a new set, a list's iterator behind it -/
noncomputable abbrev loopHeap (w : World) (h : Heap) (l : Addr) : Heap := (h.push (newSetO w)).push { cls := .type "list_iterator", data := .fields #[.ref l, .int 0 0] }
set_option maxHeartbeats 3200000 in
theorem set_of_list {l : Addr} {items : Array Value} {Q : Value → Shared → Prop} {Good : Heap → Prop} (hh : A.handled = none) (hl : s.heap.IsList l items)
    (loop : ∀ (A' : Around) (R : Result → Shared → Prop), A'.handled = none → A'.units ≤ A.units + 3 → (∀ s' : Shared, s'.gens = s.gens → s'.drawn = s.drawn → s'.os = s.os → Good s'.heap → (∀ b o, s.heap.get? b = some o → s'.heap.get? b = some o) → R (.ok (.ret .none)) s') →
      codeAny (model P w) A' (.builtin "set.update.loop" ⟨[.ref s.heap.objs.size, .ref (s.heap.push (newSetO w)).objs.size], []⟩) R { s with heap := loopHeap w s.heap l })
    (h : ∀ (h' : Heap) (tk : Nat), Good h' → (∀ b o, s.heap.get? b = some o → h'.get? b = some o) → Q (.ref s.heap.objs.size) { s with heap := h', toks := tk }) :
    wpAny (model P w) A (call (.type "set") [.ref l]) Q E s := by
  obtain ⟨c, tl, hmro⟩ := F.called_set.mro
  have hmade := F.called_set.made
  have hsub := F.called_set.sub
  refine wpAny_call (codeAny_of_tree ?_)
  show wpAny _ _ (callAny (.type "set") _) _ _ _
  refine wpAny_pure ⟨Code.quiet_builtin _ (by decide +kernel), codeAny_builtin F.entry_type_call ?_⟩
  rw [Around.under_plain (weight_type_call_type "set" [.ref l] []) rfl]
  have h1 := F.called_set.notType
  have h2 := F.called_set.canCreate
  have hct := F.typeCall_set_1 (.ref l)
  repeat (any_goals (first | assumption | wp_step))
  refine codeAny_mono (L2.code_set_led1 (.ref l) (E := E) (Q₁ := fun obj s₁ => obj = .ref s.heap.objs.size ∧ s₁ = { s with heap := s.heap.push (newSetO w) }) ⟨rfl, rfl⟩) fun r s₁ hr => ?_
  cases r with
  | error e => exact hr
  | ok fl =>
    cases fl with
    | ret obj =>
      obtain ⟨rfl, rfl⟩ := hr
      have hS : (s.heap.push (newSetO w)).get? s.heap.objs.size = some (newSetO w) := Heap.get?_push_size _ rfl
      have hT : Shared.TypeIs { s with heap := s.heap.push (newSetO w) } (.ref s.heap.objs.size) "set" := ⟨_, hS, rfl⟩
      have hli := F.called_set.init.lookup
      have hbi := F.called_set.init.bind (.ref s.heap.objs.size)
      repeat (any_goals (first | assumption | wp_step))
      refine codeAny_mono (codeAny_call_builtin (R := wants (fun r s₂ => r = .none ∧ ∃ h' tk, s₂ = { s with heap := h', toks := tk } ∧ Good h' ∧ (∀ b o, s.heap.get? b = some o → h'.get? b = some o)) E) F.called_set.init.plain F.entry_set_init (check_set_init_1 hT ?_)) fun r₂ s₂ hr₂ => ?_
      · obtain ⟨ol, hol, hcl, nl, hdl⟩ := hl
        obtain ⟨ocls, odict, odata, oslots⟩ := ol
        simp only at hcl hdl
        subst hcl; subst hdl
        have hol' : (s.heap.push (newSetO w)).get? l = some { cls := .type "list", dict := odict, data := .seq items nl, slots := oslots } := Heap.get?_push_of_some _ hol
        have hsls := F.sub_list_set
        have hslf := F.sub_list_frozenset
        have hne : (Value.type "list" == Value.type "dict") = false := by decide
        have hl1 : (s.heap.push (newSetO w)).IsList l items := ⟨_, hol', rfl, nl, rfl⟩
        unfold Builtin.«set.__init__» noKeywords Builtin.Frozenset.updateFrom
        generalize hPI : pyIter = PI
        wp_walk
        subst hPI
        refine wpAny_pyIter_list hl1 ?_
        refine wpAny_bind (wpAny_runValue ?_)
        refine loop _ _ (by simp [hh]) ?units fun s' e1 e2 e3 gd kp => ?_
        case units => show A.units + 1 + 1 ≤ A.units + 3; omega
        obtain ⟨h', g2, d', tk', os'⟩ := s'
        have e1 : g2 = s.gens := e1
        have e2 : d' = s.drawn := e2
        have e3 : os' = s.os := e3
        subst e1; subst e2; subst e3
        show wpAny _ _ _ _ _ _
        refine wpAny_pure ?_
        show wpAny _ _ (ret Value.none) _ _ _
        exact wpAny_pure ⟨rfl, h', tk', rfl, gd, kp⟩
      · cases r₂ with
        | error e => exact hr₂
        | ok fl₂ =>
          cases fl₂ with
          | ret r =>
            obtain ⟨rfl, h', tk, rfl, gd, kp⟩ := hr₂
            repeat (any_goals (first | assumption | wp_step))
            exact h _ _ gd kp
          | _ => exact hr₂.elim
    | _ => exact hr.elim
/-- set(xs) of a list of ints -/
theorem call_set_ints {l : Addr} {items : Array Value} (ns : List Int) {Q : Value → Shared → Prop} (hh : A.handled = none) (hl : s.heap.IsList l items) (hit : IntsAre items.toList ns) (hb : ns.length + 1 < scanBound)
    (h : ∀ (h' : Heap) (tk c : Nat), SetR w h' s.heap.objs.size (fun j => decide (j ∈ ns)) c → c ≤ ns.length → (∀ b o, s.heap.get? b = some o → h'.get? b = some o) → Q (.ref s.heap.objs.size) { s with heap := h', toks := tk }) :
    wpAny (model P w) A (call (.type "set") [.ref l]) Q E s := by
  have hisz : items.size = ns.length := by
    have q := IntsAre.length hit
    rw [Array.length_toList] at q
    exact q
  refine set_of_list (Good := fun h' => ∃ c, SetR w h' s.heap.objs.size (fun j => decide (j ∈ ns)) c ∧ c ≤ ns.length) hh hl (fun A' R hA _ k => ?_) fun h' tk ⟨c, g1, g2⟩ kp => h h' tk c g1 g2 kp
  have hlS : l < s.heap.objs.size := by
    obtain ⟨o, e, _⟩ := hl
    exact Heap.lt_size e
  have hl1 : (s.heap.push (newSetO w)).IsList l items := hl.push _
  have hz : (s.heap.push (newSetO w)).objs.size = s.heap.objs.size + 1 := Heap.size_push ..
  have hneI : l ≠ (s.heap.push (newSetO w)).objs.size := by rw [hz]; exact Nat.ne_of_lt (Nat.lt_succ_of_lt hlS)
  have hSf : s.heap.objs.size ∉ [(s.heap.push (newSetO w)).objs.size, l] := by
    rw [hz]
    simp only [List.mem_cons, List.not_mem_nil, or_false, not_or]
    exact ⟨Nat.ne_of_lt (Nat.lt_succ_self _), Nat.ne_of_gt hlS⟩
  have hval : ∀ (i : Nat) (v : Value), items[i]? = some v → ∃ k t, ns[i]? = some k ∧ v = .int k t := fun i v hv => by
    have hi : i < ns.length := by rw [← hisz]; exact (Array.getElem?_eq_some_iff.mp hv).1
    obtain ⟨t, e⟩ := PyProof.Rows.IntsAre.int_at hit i v (by rw [Array.getElem?_toList]; exact hv)
    refine ⟨ns[i], t, List.getElem?_eq_getElem hi, ?_⟩
    rw [e, List.getD_eq_getElem?_getD, List.getElem?_eq_getElem hi] <;> rfl
  have hS : (s.heap.push (newSetO w)).get? s.heap.objs.size = some (newSetO w) := Heap.get?_push_size _ rfl
  have hget : (loopHeap w s.heap l).get? s.heap.objs.size = some (newSetO w) := Heap.get?_push_of_some _ hS
  refine set_update_ints ((Walks.list (A := A'.in1) (by simp [hA]) _ l hneI items).toS) s.heap.objs.size hSf ns hisz hb hval (items.size - 0) 0 _ (by omega) (Nat.zero_le _)
    ⟨⟨_, Heap.get?_push_size _ rfl, rfl, rfl⟩, (hl1.push _)⟩ ⟨0, Nat.le_refl 0, setR_new_at hget⟩ fun s' c hm hc hS' => ?_
  refine k s' hm.gens hm.drawn hm.os ⟨c, hS', by rw [← hisz]; exact hc⟩ fun b o e => ?_
  have hb0 : b < s.heap.objs.size := Heap.lt_size e
  exact hm.heap b o (by
    simp only [List.mem_cons, List.not_mem_nil, or_false, not_or]
    rw [hz]
    exact ⟨Nat.ne_of_lt hb0, Nat.ne_of_lt (Nat.lt_succ_of_lt hb0)⟩) (Heap.get?_push_of_some _ (Heap.get?_push_of_some _ e))
end
/-- sorted, each number once -/
noncomputable def insI (k : Int) : List Int → List Int
  | [] => [k]
  | x :: r => if k < x then k :: x :: r else if k = x then x :: r else x :: insI k r
noncomputable def sortI : List Int → List Int
  | [] => []
  | x :: r => insI x (sortI r)
theorem insI_mem {k y : Int} : ∀ {r : List Int}, y ∈ insI k r ↔ y = k ∨ y ∈ r
  | [] => by simp [insI]
  | x :: r => by
    unfold insI
    split
    · simp
    · split
      · rename_i h; subst h; simp
      · simp only [List.mem_cons, insI_mem (r := r)]
        constructor
        · rintro (h | h | h) <;> simp [h]
        · rintro (h | h | h) <;> simp [h]
theorem insI_sorted {k : Int} : ∀ {r : List Int}, r.Pairwise (· < ·) → (insI k r).Pairwise (· < ·)
  | [], _ => by simp [insI]
  | x :: r, h => by
    obtain ⟨h1, h2⟩ := List.pairwise_cons.mp h
    unfold insI
    split
    · rename_i hk
      exact List.pairwise_cons.mpr ⟨fun y hy => by
        rcases List.mem_cons.mp hy with rfl | hy
        · exact hk
        · have := h1 y hy; omega, h⟩
    · split
      · exact h
      · refine List.pairwise_cons.mpr ⟨fun y hy => ?_, insI_sorted h2⟩
        rcases insI_mem.mp hy with rfl | hy
        · omega
        · exact h1 y hy
theorem sortI_mem {y : Int} : ∀ {l : List Int}, y ∈ sortI l ↔ y ∈ l
  | [] => by simp [sortI]
  | x :: r => by unfold sortI; rw [insI_mem, sortI_mem (l := r), List.mem_cons]
theorem sortI_sorted : ∀ (l : List Int), (sortI l).Pairwise (· < ·)
  | [] => .nil
  | x :: r => insI_sorted (sortI_sorted r)
theorem sorted_eq : ∀ {a b : List Int}, a.Pairwise (· < ·) → b.Pairwise (· < ·) → (∀ k, k ∈ a ↔ k ∈ b) → a = b
  | [], [], _, _, _ => rfl
  | [], y :: b, _, _, h => absurd ((h y).mpr List.mem_cons_self) (by simp)
  | x :: a, [], _, _, h => absurd ((h x).mp List.mem_cons_self) (by simp)
  | x :: a, y :: b, ha, hb, h => by
    obtain ⟨a1, a2⟩ := List.pairwise_cons.mp ha
    obtain ⟨b1, b2⟩ := List.pairwise_cons.mp hb
    have e : x = y := by
      rcases List.mem_cons.mp ((h x).mp List.mem_cons_self) with e | e
      · exact e
      · rcases List.mem_cons.mp ((h y).mpr List.mem_cons_self) with e' | e'
        · exact e'.symm
        · have := b1 x e; have := a1 y e'; omega
    subst e
    congr 1
    refine sorted_eq a2 b2 fun k => ⟨fun hk => ?_, fun hk => ?_⟩
    · rcases List.mem_cons.mp ((h k).mp (List.mem_cons_of_mem _ hk)) with e | e
      · subst e; have := a1 k hk; omega
      · exact e
    · rcases List.mem_cons.mp ((h k).mpr (List.mem_cons_of_mem _ hk)) with e | e
      · subst e; have := b1 k hk; omega
      · exact e
/-- a set of ints that is only passed on -/
noncomputable abbrev rSI (w : World) : Rl (List Int) V := fun H m ns v => ∃ a S n, v = .ref a ∧ H a = some (SetO w a S n) ∧ (∀ k, S k = true ↔ k ∈ ns) ∧ n ≤ ns.length
noncomputable def JSI (F : Sm.F) (e : Expr) (c : SA → HA → R (List Int)) : Prop := ∀ W X, Ok F W X → PE X e (Tx (rSI F.g.w) F.g W c)
variable {F : F} {pos : Pos}
noncomputable def cSetI (ca : CA) : SA → HA → R (List Int) := fun E A => (ca E A).bind fun ds A1 => match ds with
  | [d] => match (listOf A1 d).bind (optL int1) with
    | some ns => if ns.length < 4000 then .ok ns A1 else .no
    | none => .no
  | _ => .no
theorem jsi_set {x : Expr} {ca : CA} {q : Pos} (hg : Gls F.scope "set") (hm : F.g.mg "set" = none) (ha : JA F [x] ca)
    (he : ∀ X : Cx, starEach [x] X.env = (false, eval x X.env) :: starEach [] X.env := by intro _; rfl) (hpl : ∀ X : Cx, (backTo pos (starEach ([] : List Expr) X.env)).any (·.1) = false := by intro _; rfl) : JSI F (.Call (.Name "set" q) [x] [] pos) (cSetI ca) := by
  intro W X ok
  refine ⟨fun pins s σ H Q I hq => ?_⟩
  obtain ⟨m, E, A, rh, rs, q⟩ := hq
  have q : Po (rSI F.g.w) F.g m H W σ ((ca E A).bind fun ds A1 => match ds with
    | [d] => match (listOf A1 d).bind (optL int1) with
      | some ns => if ns.length < 4000 then .ok ns A1 else .no
      | none => .no
    | _ => .no) Q := q
  refine wpAny_Call_Name_kw (ld_blt I (ok.gl hg) (by rw [ok.mg]; exact hm) (by decide +kernel : bootBuiltins "set" = some (.type "set")) ?_ (by decide) (by decide))
  refine PyProof.Rows.callWith_type1 (thn ((ha W X ok).run pos pins s σ H (fun vs H1 => ∃ m1 ds A1, RH F.g H1 m1 A1 ∧ DVs F.g H1 m1 ds vs ∧ Po (rSI F.g.w) F.g m1 H1 W σ (match ds with
    | [d] => match (listOf A1 d).bind (optL int1) with
      | some ns => if ns.length < 4000 then .ok ns A1 else .no
      | none => .no
    | _ => .no) Q) I ⟨m, E, A, rh, rs, Po.bind q fun m1 H1 ds xs A1 g1 rh1 dxs q1 => ⟨m1, ds, A1, rh1, dxs, q1⟩⟩) fun us s1 ⟨vs, H1, I1, r1, m1, ds, A1, rh1, dxs, q1⟩ => ?_) (he X) (hpl X)
  split at q1
  · obtain ⟨v, rfl, dv⟩ := dxs.one
    split at q1
    · rename_i ns hns
      split at q1
      · rename_i hz
        obtain ⟨ds, h1, h2⟩ := Option.bind_eq_some_iff.mp hns
        obtain ⟨p, ws, rfl, sq, r⟩ := listOf_rel rh1 dv h1
        have e := ints_rel h2 r
        subst e
        rw [← ok.K] at sq
        obtain ⟨its, rv, hl, _⟩ := I1.list sq
        rw [Vals.ref1 r1]
        refine call_set_ints ns (I1.ok.hd ok.calm) hl.isList (by simpa using rv.ints) (by unfold scanBound; omega) fun h' tk c R hc kp => ?_
        have ht : H1 s1.heap.objs.size = none := I1.hok.fresh (Nat.le_refl _)
        refine ⟨.ref s1.heap.objs.size, upd H1 s1.heap.objs.size (SetO X.w s1.heap.objs.size (fun j => decide (j ∈ ns)) c), I1.laid (t' := tk) kp (Nat.le_refl _) (setO_new R), rfl, ?_⟩
        rw [ok.w]
        exact q1 m1 _ _ (Gr.new ht) (rh1.upd ht) ⟨_, _, _, rfl, upd_same, fun k => by simp, hc⟩
      · exact q1.elim
    · exact q1.elim
  · exact q1.elim
noncomputable def cSortI (c : SA → HA → R (List Int)) : CE := fun E A => (c E A).bind fun ns A1 => if ns.length < 64 then .ok (.lst ((sortI ns).map .int)) A1 else .no
theorem dvs_ints {g : G} {H : Hp} {m : List Addr} : ∀ ns : List Int, DVs g H m (ns.map D.int) (ns.map V.int)
  | [] => .nil
  | n :: ns => .cons (.int n) (dvs_ints ns)
theorem je_sortI {x : Expr} {c : SA → HA → R (List Int)} {q : Pos} (hg : Gls F.scope "sorted") (hm : F.g.mg "sorted" = none) (hx : JSI F x c)
    (he : ∀ X : Cx, starEach [x] X.env = (false, eval x X.env) :: starEach [] X.env := by intro _; rfl) (hpl : ∀ X : Cx, (backTo pos (starEach ([] : List Expr) X.env)).any (·.1) = false := by intro _; rfl) : JE F (.Call (.Name "sorted" q) [x] [] pos) (cSortI c) := by
  intro W X ok
  refine ⟨fun pins s σ H Q I hq => ?_⟩
  obtain ⟨m, E, A, rh, rs, q⟩ := hq
  have q : Po (rE F.g) F.g m H W σ ((c E A).bind fun ns A1 => if ns.length < 64 then .ok (.lst ((sortI ns).map .int)) A1 else .no) Q := q
  refine wpAny_Call_Name_kw (ld_blt I (ok.gl hg) (by rw [ok.mg]; exact hm) (by decide +kernel : bootBuiltins "sorted" = some (.builtin "sorted")) ?_ (by decide) (by decide))
  have pa : PA X [x] (fun σ H R => Tx (rSI F.g.w) F.g W c σ H fun v H' => R [v] H') := PA.imp (pa_cons (hx W X ok) pa_nil (he X)) fun σ H R h => h
  refine PyProof.Rows.callWith_builtin1 (thn (pa.run pos pins s σ H (fun vs H1 => ∃ m1 ns A1 v, vs = [v] ∧ RH F.g H1 m1 A1 ∧ rSI F.g.w H1 m1 ns v ∧ Po (rE F.g) F.g m1 H1 W σ (if ns.length < 64 then .ok (.lst ((sortI ns).map .int)) A1 else .no) Q) I ⟨m, E, A, rh, rs, Po.bind (ρ := rSI F.g.w) q fun m1 H1 ns v A1 g1 rh1 dxs q1 => ⟨m1, ns, A1, v, rfl, rh1, dxs, q1⟩⟩) fun us s1 ⟨vs, H1, I1, r1, m1, ns, A1, v, ev, rh1, dxs, q1⟩ => ?_) (he X) (hpl X)
  subst ev
  obtain ⟨a, S, n, rfl, ha, hS, hn⟩ := dxs
  split at q1
  · rename_i hz
    refine ep_frz (cr_sortedSet ok.calm pins s1 σ H1 _ us _ I1 r1 ⟨a, S, n, rfl, by rw [ok.w]; exact ha, by omega, fun ks p k1 k2 k3 hp => ⟨p, _, rfl, upd_same, fun o => ?_⟩⟩)
    rw [upd_upd]
    have e : ks = sortI ns := sorted_eq k1 (sortI_sorted ns) fun k => by rw [k2, hS, sortI_mem]
    subst e
    exact Po.ok' q1 (Gr.new hp) (rh1.upd hp) (.lst (.inl ⟨o, upd_same, rh1.new hp⟩) (dvs_ints _))
  · exact q1.elim
end Sm
end
section
set_option autoImplicit false
namespace Sm
open PySem PySem.Spec PyProof.Rows L2
variable {F : F} {pos : Pos}
theorem je_gstr {x y : Str} (hg : Gls F.scope x) (hm : ∃ t, F.g.mg x = some (.str y t)) (hd : (x == ("__debug__" : Str)) = false := by decide) : JE F (.Name x pos) (cC (.str y)) := by
  obtain ⟨t, hm⟩ := hm
  exact je_glob (v := .str y) hg hm ⟨t, rfl⟩ (fun _ _ => .str y) hd
noncomputable abbrev noE : Expr := .Name "" ⟨0, 0, 0, 0⟩
noncomputable def pExpr : Stmt → Expr | .Expr e _ => e | _ => noE
noncomputable def pAsg : Stmt → Expr | .Assign _ e _ => e | _ => noE
noncomputable def pForB (i : Nat) : Stmt → Stmt | .For _ _ b _ p => b.getD i (.Pass p) | s => s
noncomputable def pArg (i : Nat) : Expr → Expr | .Call _ as _ _ => as.getD i noE | _ => noE
noncomputable def pBinR : Expr → Expr | .BinOp _ _ e _ => e | _ => noE
noncomputable def pLst (i : Nat) : Expr → Expr | .List es _ => es.getD i noE | _ => noE
noncomputable def pBody (i : Nat) (st : Stmt) : Stmt := (defBody st).getD i (.Pass ⟨0, 0, 0, 0⟩)
/-- the lambda that stands there -/
noncomputable def lamRec (q : Str) (ps fr : List Str) : Expr → LamRec
  | .Lambda a b s _ => ⟨q, a, b, s, ps, fr, match a.defaults with | [.Constant (.int i) _ _] => some i | _ => none⟩
  | e => ⟨q, ⟨[], [], none, [], [], none, []⟩, e, default, ps, fr, none⟩
end Sm
end
section
set_option autoImplicit false
namespace Sm
open PySem PySem.Spec PyProof.Rows L2
variable {F : F} {pos : Pos}
noncomputable def isDct (A : HA) : D → Bool
  | .ref a => match A[a]? with
    | some (.dct _ _) => true
    | _ => false
  | _ => false
noncomputable def sign1 : D → Option Nat
  | .str z => match z.cps.toList with
    | [c] => some c
    | _ => none
  | _ => none
theorem sign1_eq {d : D} {c : Nat} (h : sign1 d = some c) : d = .str ⟨#[c]⟩ := by
  unfold sign1 at h
  split at h
  · rename_i z
    split at h
    · rename_i c' e
      cases h
      obtain ⟨⟨l⟩⟩ := z
      have e : l = [c] := e
      rw [e]
    · cases h
  · cases h
/-- one sign in a text; a key in a dict; an item in a sequence -/
noncomputable def pInX (neg : Bool) : P2 := fun d e A => match e with
  | .str z => match sign1 d with
    | some c => .ok (.bl (xor neg (decide (c ∈ z.cps.toList)))) A
    | none => .no
  | _ => if isDct A e = true then match toKey d with
    | some k => match dgetOf A e k with
      | some o => .ok (.bl (xor neg o.isSome)) A
      | none => .no
    | none => .no
    else pIn neg d e A
theorem odv_some {g : G} {H : Hp} {m : List Addr} {o : Option D} {vo : Option V} (h : ODV g H m o vo) : vo.isSome = o.isSome := by
  cases o <;> cases vo <;> first | rfl | exact h.elim
theorem opF_inX {g : G} : OpF g (compareOp .In) (pInX false) := by
  intro F W X e ok pins s σ H m A d e' x y v u Q I rh dx dy rx ry q
  have hu : X.A.units + 1 < cLine := by have := ok.room.un; omega
  unfold pInX at q
  split at q
  · rename_i z
    split at q
    · rename_i c hs
      have := sign1_eq hs; subst this
      rw [Bool.false_xor] at q
      have := dx.str_inv; subst this
      have := dy.str_inv; subst this
      exact op_in_sign pins s σ H _ _ v u Q I rx ry ⟨c, z, rfl, rfl, Po.ok q rh (.bl _)⟩
    · exact q.elim
  · split at q
    · split at q
      · rename_i k hk
        split at q
        · rename_i o ho
          rw [Bool.false_xor] at q
          obtain ⟨a, vo, rfl, g1, od⟩ := dget_rel rh dy dx hk ho
          obtain rfl : u = .ref a := ry
          refine d_in hu I g1 rx fun s' I' => ⟨.bl vo.isSome, H, I', rfl, ?_⟩
          rw [odv_some od]
          exact Po.ok q rh (.bl _)
        · exact q.elim
      · exact q.elim
    · exact opF_in F W X e ok pins s σ H m A d e' x y v u Q I rh dx dy rx ry q
theorem opF_notInX {g : G} : OpF g (compareOp .NotIn) (pInX true) := by
  intro F W X e ok pins s σ H m A d e' x y v u Q I rh dx dy rx ry q
  have hu : X.A.units + 1 < cLine := by have := ok.room.un; omega
  unfold pInX at q
  split at q
  · rename_i z
    split at q
    · rename_i c hs
      have := sign1_eq hs; subst this
      rw [Bool.true_xor] at q
      have := dx.str_inv; subst this
      have := dy.str_inv; subst this
      exact op_notIn_sign pins s σ H _ _ v u Q I rx ry ⟨c, z, rfl, rfl, Po.ok q rh (.bl _)⟩
    · exact q.elim
  · split at q
    · split at q
      · rename_i k hk
        split at q
        · rename_i o ho
          rw [Bool.true_xor] at q
          obtain ⟨a, vo, rfl, g1, od⟩ := dget_rel rh dy dx hk ho
          obtain rfl : u = .ref a := ry
          refine d_notIn hu I g1 rx fun s' I' => ⟨.bl (!vo.isSome), H, I', rfl, ?_⟩
          rw [odv_some od]
          exact Po.ok q rh (.bl _)
        · exact q.elim
      · exact q.elim
    · exact opF_notIn F W X e ok pins s σ H m A d e' x y v u Q I rh dx dy rx ry q
theorem isDct_rel {g : G} {H : Hp} {m : List Addr} {A : HA} {d : D} {v : V} (rh : RH g H m A) (dv : DV g H m d v) (h : isDct A d = true) : ∃ p, v = .ref p ∧ IsD H p := by
  unfold isDct at h
  split at h
  · rename_i a
    obtain ⟨p, rfl, hp⟩ := dv.ref_inv
    split at h
    · rename_i lk kvs hd
      obtain ⟨q, hq, r⟩ := rh.get hd
      rw [hp] at hq; cases hq
      cases lk with
      | false => obtain ⟨ks, h1, r⟩ := r; exact ⟨p, rfl, .inl ⟨ks, .inl h1⟩⟩
      | true => obtain ⟨ob, ks, h1, r⟩ := r; exact ⟨p, rfl, .inl ⟨ks, .inr ⟨ob, h1⟩⟩⟩
    · cases h
  · cases h
/-- an unlocked dict of the heap -/
noncomputable def freeD (A : HA) : D → Option (Nat × List (D × D))
  | .ref a => match A[a]? with
    | some (.dct false kvs) => some (a, kvs)
    | _ => none
  | _ => none
theorem freeD_rel {g : G} {H : Hp} {m : List Addr} {A : HA} {d : D} {v : V} {a : Nat} {kvs : List (D × D)} (rh : RH g H m A) (dv : DV g H m d v) (h : freeD A d = some (a, kvs)) : ∃ p ks, v = .ref p ∧ m[a]? = some p ∧ H p = some (.dK ks) ∧ KVR g H m kvs ks := by
  unfold freeD at h
  split at h
  · split at h
    · rename_i hd
      cases h
      obtain ⟨p, rfl, hp⟩ := dv.ref_inv
      obtain ⟨q, hq, ks, h1, r⟩ := rh.get hd
      rw [hp] at hq; cases hq
      exact ⟨p, ks, rfl, hp, h1, r⟩
    · cases h
  · cases h
end Sm
end
section
set_option autoImplicit false
namespace Sm
open PySem PySem.Spec PyProof.Rows L2
variable {F : F} {pos : Pos}
noncomputable def chainB {α : Type} (lt : α → α → Bool) : List α → Bool
  | x :: y :: r => lt x y && chainB lt (y :: r)
  | _ => true
theorem chain_pw {α : Type} {lt : α → α → Bool} (tr : ∀ a b c, lt a b = true → lt b c = true → lt a c = true) : ∀ {l : List α}, chainB lt l = true → l.Pairwise (fun x y => lt x y = true)
  | [], _ => .nil
  | [x], _ => by simp
  | x :: y :: r, h => by
    unfold chainB at h
    rw [Bool.and_eq_true] at h
    have ih := chain_pw tr h.2
    refine List.pairwise_cons.mpr ⟨fun z hz => ?_, ih⟩
    rcases List.mem_cons.mp hz with rfl | hz
    · exact h.1
    · exact tr _ _ _ h.1 ((List.pairwise_cons.mp ih).1 z hz)
theorem sort_uniq {α : Type} {lt : α → α → Bool} : ∀ {a b : List α}, a.Perm b → a.Pairwise (fun x y => lt y x = false) → b.Pairwise (fun x y => lt x y = true) → a = b
  | [], b, p, _, _ => (List.nil_perm.mp p).symm
  | x :: a, [], p, _, _ => absurd p.length_eq (by simp)
  | x :: a, y :: b, p, ha, hb => by
    obtain ⟨a1, a2⟩ := List.pairwise_cons.mp ha
    obtain ⟨b1, b2⟩ := List.pairwise_cons.mp hb
    have e : x = y := by
      rcases List.mem_cons.mp (p.mem_iff.mp List.mem_cons_self) with e | e
      · exact e
      · rcases List.mem_cons.mp (p.mem_iff.mpr List.mem_cons_self) with e' | e'
        · exact e'.symm
        · have h1 := b1 x e
          have h2 := a1 y e'
          rw [h1] at h2; cases h2
    subst e
    rw [sort_uniq ((List.perm_cons x).mp p) a2 b2]
/-- put in its place -/
noncomputable def insB {α : Type} (lt : α → α → Bool) (x : α) : List α → List α
  | [] => [x]
  | y :: r => if lt y x = true then y :: insB lt x r else x :: y :: r
noncomputable def sortB {α : Type} (lt : α → α → Bool) : List α → List α
  | [] => []
  | x :: r => insB lt x (sortB lt r)
theorem insB_perm {α : Type} {lt : α → α → Bool} {x : α} : ∀ {l : List α}, (insB lt x l).Perm (x :: l)
  | [] => .refl _
  | y :: r => by
    unfold insB
    split
    · exact ((insB_perm (l := r)).cons y).trans (.swap ..)
    · exact .refl _
theorem sortB_perm {α : Type} {lt : α → α → Bool} : ∀ {l : List α}, (sortB lt l).Perm l
  | [] => .refl _
  | x :: r => by
    unfold sortB
    exact insB_perm.trans (sortB_perm.cons x)
mutual
noncomputable def ofPy : PyData → D
  | .none => .non
  | .bool b => .bl b
  | .int i => .int i
  | .str x => .str x
  | .tuple xs => .tup (ofPys xs)
  | .list xs => .lst (ofPys xs)
  | .dict _ => .dct [] []
noncomputable def ofPys : List PyData → List D
  | [] => []
  | x :: xs => ofPy x :: ofPys xs
end
theorem optAll_back {f : D → Option PyData} (ih : ∀ d p, f d = some p → noLst p = true → ofPy p = d) : ∀ {ds : List D} {ps : List PyData}, optAll f ds = some ps → noLstAll ps = true → ofPys ps = ds
  | [], ps, e, _ => by cases e; rfl
  | d :: ds, ps, e, z => by
    unfold optAll at e
    split at e
    · rename_i p ps' e1 e2
      cases e
      unfold noLstAll at z
      rw [Bool.and_eq_true] at z
      show ofPy p :: ofPys ps' = _
      rw [ih _ _ e1 z.1, optAll_back ih e2 z.2]
    · cases e
theorem toPy_back (A : HA) : ∀ (n : Nat) (d : D) (p : PyData), toPy A n d = some p → noLst p = true → ofPy p = d := by
  intro n
  induction n with
  | zero => intro d p e; cases e
  | succ n ih =>
    intro d p e z
    cases d with
    | non => cases e; rfl
    | bl => cases e; rfl
    | int => cases e; rfl
    | str => cases e; rfl
    | tup ds =>
      obtain ⟨ps, e1, rfl⟩ := Option.map_eq_some_iff.mp (show (optAll (toPy A n) ds).map PyData.tuple = some p from e)
      show D.tup (ofPys ps) = _
      rw [optAll_back ih e1 (by unfold noLst at z; exact z)]
    | lst ds =>
      obtain ⟨ps, e1, rfl⟩ := Option.map_eq_some_iff.mp (show (optAll (toPy A n) ds).map PyData.list = some p from e)
      unfold noLst at z; cases z
    | dct ks ds =>
      cases ks with
      | cons => cases ds <;> cases e
      | nil =>
        cases ds with
        | cons => cases e
        | nil => cases e; rfl
    | ref a =>
      have e : (match A[a]? with | some (.lst ds) => (optAll (toPy A n) ds).map PyData.list | _ => none) = some p := e
      split at e
      · obtain ⟨ps, e1, rfl⟩ := Option.map_eq_some_iff.mp e
        unfold noLst at z; cases z
      · cases e
    | cls => cases e
    | fn => cases e
    | exc => cases e
    | ty => cases e
    | lam => cases e
    | wtp => cases e
noncomputable def sortableB (ps : List PyData) : Bool := ps.all (fun p => match p with | .tuple (_ :: _) => true | _ => false) || ps.all (fun p => match p with | .none => false | .tuple _ => false | _ => true)
noncomputable def pltB : PyData → PyData → Bool := W.dataLt
theorem plt_trans (a b c : PyData) (h1 : pltB a b = true) (h2 : pltB b c = true) : pltB a c = true := lex_trans (O := itemOrd) _ _ _ h1 h2
noncomputable def alikeB (ps : List PyData) : Bool := ps.all fun x => ps.all fun y => W.alike x y
theorem alikeB_ok {ps : List PyData} (h : alikeB ps = true) : W.AllAlike ps := fun d hd d' hd' => List.all_eq_true.mp (List.all_eq_true.mp h d hd) d' hd'
theorem sortableB_ok {ps : List PyData} (h : sortableB ps = true) : W.Sortable ps := by
  unfold sortableB at h
  rw [Bool.or_eq_true] at h
  rcases h with h | h
  · refine .inl fun d hd => ?_
    have := List.all_eq_true.mp h d hd
    cases d with
    | tuple xs =>
      cases xs with
      | nil => cases this
      | cons x r => exact ⟨x, r, rfl⟩
    | _ => cases this
  · refine .inr fun d hd => ?_
    have := List.all_eq_true.mp h d hd
    cases d with
    | none => cases this
    | tuple xs => cases this
    | _ => exact ⟨by simp, by simp⟩
/-- sorted(xs): the values of a list, as data without lists -/
noncomputable def sortPs (A : HA) (ds : List D) : Option (List PyData) := match optAll (toPy A 32) ds with
  | some ps => if ps.length ≤ sizeLine ∧ noLstAll ps = true ∧ alikeB ps = true ∧ sortableB ps = true ∧ chainB pltB (sortB pltB ps) = true then some (sortB pltB ps) else none
  | none => none
theorem each_of {g : G} {X : Cx} {pins : List (Addr × Obj)} {σ : St} {H : Hp} {s : Shared} {m : List Addr} {A : HA} (hK : X.K = g.K) (I : Inv X pins σ H s) (rh : RH g H m A) : ∀ {ds : List D} {ps : List PyData} {vs : List V} {us : List Value}, optAll (toPy A 32) ds = some ps → noLstAll ps = true → DVs g H m ds vs → Vals vs us →
    W.EachIs (fun u p => ∃ v, RelV v u ∧ DV g H m (ofPy p) v) us ps ∧ W.EachIs (fun u p => ∃ as, Reads s.heap u p as) us ps
  | [], ps, vs, us, e, z, dv, r => by
    cases dv; cases r; cases e
    exact ⟨.nil, .nil⟩
  | d :: ds, ps, vs, us, e, z, dv, r => by
    cases dv with
    | cons d1 d2 =>
    obtain ⟨u, us', rfl, r1, r2⟩ := vals_cons r
    unfold optAll at e
    split at e
    · rename_i p ps' e1 e2
      cases e
      unfold noLstAll at z
      rw [Bool.and_eq_true] at z
      obtain ⟨h1, h2⟩ := each_of hK I rh e2 z.2 d2 r2
      obtain ⟨as, k1, _⟩ := rd_of hK I rh 32 _ _ _ _ e1 d1 r1
      exact ⟨.cons ⟨_, r1, by rw [toPy_back A 32 _ _ e1 z.1]; exact d1⟩ h1, .cons ⟨as, k1⟩ h2⟩
    · cases e
theorem dvs_back {g : G} {H : Hp} {m : List Addr} : ∀ {us : List Value} {ps : List PyData}, W.EachIs (fun u p => ∃ v, RelV v u ∧ DV g H m (ofPy p) v) us ps → ∃ vs, Vals vs us ∧ DVs g H m (ofPys ps) vs
  | _, _, .nil => ⟨[], .nil, .nil⟩
  | _, _, .cons h t => by
    obtain ⟨v, h1, h2⟩ := h
    obtain ⟨vs, k1, k2⟩ := dvs_back t
    exact ⟨v :: vs, .cons h1 k1, .cons h2 k2⟩
theorem sortPs_eq {A : HA} {ds : List D} {qs : List PyData} (h : sortPs A ds = some qs) : ∃ ps, optAll (toPy A 32) ds = some ps ∧ ps.length ≤ sizeLine ∧ noLstAll ps = true ∧ W.AllAlike ps ∧ W.Sortable ps ∧ ps.mergeSort (W.dataLe false fun p => p) = qs := by
  unfold sortPs at h
  split at h
  · rename_i ps hp
    split at h
    · rename_i c
      cases h
      obtain ⟨c0, c1, c2, c3, c4⟩ := c
      refine ⟨ps, hp, c0, c1, alikeB_ok c2, sortableB_ok c3, ?_⟩
      have hle : ∀ a b, W.dataLe false (fun p => p) a b = !pltB b a := fun a b => by rw [W.dataLe_eq]; rfl
      refine sort_uniq (lt := pltB) ((List.mergeSort_perm _ _).trans sortB_perm.symm) ?_ (chain_pw plt_trans c4)
      refine (List.pairwise_mergeSort (le := W.dataLe false fun p => p) ?_ ?_ ps).imp fun {a b} z => ?_
      · intro a b c h1 h2
        rw [hle] at h1 h2 ⊢
        cases h3 : pltB c a with
        | false => rfl
        | true =>
          rcases lex_negTrans (O := itemOrd) _ (W.keyToks b) _ h3 with k | k
          · rw [show pltB c b = true from k] at h2; cases h2
          · rw [show pltB b a = true from k] at h1; cases h1
      · intro a b
        rw [hle, hle]
        cases h3 : pltB b a with
        | false => rfl
        | true =>
          cases h4 : pltB a b with
          | false => rfl
          | true =>
            have := plt_trans _ _ _ h3 h4
            rw [show pltB b b = false from lex_irrefl (O := itemOrd) _] at this
            cases this
      · rw [hle] at z
        simpa using z
    · cases h
  · cases h
/-- a dict's keys, all texts, or all ints -/
noncomputable def txtKeys : List (D × D) → Option (List Str)
  | [] => some []
  | (.str x, _) :: r => (txtKeys r).map (x :: ·)
  | _ :: _ => none
noncomputable def intKeys : List (D × D) → Option (List Int)
  | [] => some []
  | (.int x, _) :: r => (intKeys r).map (x :: ·)
  | _ :: _ => none
noncomputable def sltB (x y : Str) : Bool := ltCps x.cps.toList y.cps.toList
theorem slt_trans (a b c : Str) (h1 : sltB a b = true) (h2 : sltB b c = true) : sltB a c = true := by
  unfold sltB at *
  rw [ltCps_eq, decide_eq_true_eq] at *
  exact List.lt_trans h1 h2
theorem slt_irr (a : Str) : sltB a a = false := by
  unfold sltB
  rw [ltCps_eq, decide_eq_false_iff_not]
  exact List.lt_irrefl _
noncomputable def dictOf (A : HA) : D → Option (List (D × D))
  | .ref a => match A[a]? with
    | some (.dct _ kvs) => some kvs
    | _ => none
  | _ => none
theorem dictOf_rel {g : G} {H : Hp} {m : List Addr} {A : HA} {d : D} {v : V} {kvs : List (D × D)} (rh : RH g H m A) (dv : DV g H m d v) (h : dictOf A d = some kvs) : ∃ p ks, v = .ref p ∧ Rd H p (.dK ks) ∧ KVR g H m kvs ks := by
  unfold dictOf at h
  split at h
  · split at h
    · rename_i lk _ hd
      cases h
      obtain ⟨p, rfl, hp⟩ := dv.ref_inv
      obtain ⟨q, hq, r⟩ := rh.get hd
      rw [hp] at hq; cases hq
      cases lk with
      | false => obtain ⟨ks, h1, r⟩ := r; exact ⟨p, ks, rfl, .inl h1, r⟩
      | true => obtain ⟨o, ks, h1, r⟩ := r; exact ⟨p, ks, rfl, .inr ⟨o, h1⟩, r⟩
    · cases h
  · cases h
theorem txtKeys_rel {g : G} {H : Hp} {m : List Addr} : ∀ {kvs : List (D × D)} {ks : List (Key × V)} {xs : List Str}, KVR g H m kvs ks → txtKeys kvs = some xs → ks.map (·.1) = xs.map Sum.inr
  | [], _, xs, .nil, e => by cases e; rfl
  | (d, w) :: kvs, (k, v) :: ks, xs, .cons h t, e => by
    cases d with
    | str x =>
      obtain ⟨ys, e1, rfl⟩ := Option.map_eq_some_iff.mp (show (txtKeys kvs).map (x :: ·) = some xs from e)
      have h1 : toKey (.str x) = some k := h.1
      cases h1
      rw [List.map_cons, List.map_cons, txtKeys_rel t e1]
    | _ => cases e
theorem intKeys_rel {g : G} {H : Hp} {m : List Addr} : ∀ {kvs : List (D × D)} {ks : List (Key × V)} {xs : List Int}, KVR g H m kvs ks → intKeys kvs = some xs → ks.map (·.1) = xs.map Sum.inl
  | [], _, xs, .nil, e => by cases e; rfl
  | (d, w) :: kvs, (k, v) :: ks, xs, .cons h t, e => by
    cases d with
    | int x =>
      obtain ⟨ys, e1, rfl⟩ := Option.map_eq_some_iff.mp (show (intKeys kvs).map (x :: ·) = some xs from e)
      have h1 : toKey (.int x) = some k := h.1
      cases h1
      rw [List.map_cons, List.map_cons, intKeys_rel t e1]
    | _ => cases e
/-- an adjacent order of things that can be compared -/
theorem rising_pw {lt : Str → Str → Bool} (tr : ∀ a b c, lt a b = true → lt b c = true → lt a c = true) (ir : ∀ a, lt a a = false) (hl : lt = sltB) : ∀ {p : Str} {l : List Str}, (∀ x ∈ p :: l, ∀ y ∈ p :: l, x = y ∨ lt x y = true ∨ lt y x = true) → risingS p l = true → (p :: l).Pairwise (fun x y => lt y x = false)
  | p, [], _, _ => by simp
  | p, x :: r, c, h => by
    have h : (!ltCps x.cps.toList p.cps.toList && risingS x r) = true := h
    rw [Bool.and_eq_true] at h
    have ih := rising_pw tr ir hl (fun a ha b hb => c a (List.mem_cons_of_mem _ ha) b (List.mem_cons_of_mem _ hb)) h.2
    have h1 : lt x p = false := by subst hl; simpa [sltB] using h.1
    refine List.pairwise_cons.mpr ⟨fun z hz => ?_, ih⟩
    cases e : lt z p with
    | false => rfl
    | true =>
      rcases List.mem_cons.mp hz with rfl | hz
      · rw [h1] at e; cases e
      · have h2 := (List.pairwise_cons.mp ih).1 z hz
        rcases c x (by simp) z (by simp [hz]) with q | q | q
        · subst q; rw [h1] at e; cases e
        · rw [tr _ _ _ q e] at h1; cases h1
        · rw [q] at h2; cases h2
theorem sortedS_pw {l b : List Str} (p : l.Perm b) (hb : b.Pairwise (fun x y => sltB x y = true)) (h : sortedS l = true) : l.Pairwise (fun x y => sltB y x = false) := by
  cases l with
  | nil => exact .nil
  | cons x r =>
    refine rising_pw slt_trans slt_irr rfl (fun a ha b' hb' => ?_) h
    have ha := p.mem_iff.mp ha
    have hb' := p.mem_iff.mp hb'
    have key : ∀ {l : List Str}, l.Pairwise (fun x y => sltB x y = true) → ∀ x ∈ l, ∀ y ∈ l, x = y ∨ sltB x y = true ∨ sltB y x = true := by
      intro l
      induction l with
      | nil => intro _ x hx; cases hx
      | cons z t ih =>
        intro hl x hx y hy
        obtain ⟨h1, h2⟩ := List.pairwise_cons.mp hl
        rcases List.mem_cons.mp hx with e | hx1 <;> rcases List.mem_cons.mp hy with e' | hy1
        · exact .inl (e.trans e'.symm)
        · rw [e]; exact .inr (.inl (h1 _ hy1))
        · rw [e']; exact .inr (.inr (h1 _ hx1))
        · exact ih h2 x hx1 y hy1
    exact key hb a ha b' hb'
noncomputable def pSorted : PF := fun ds A => match ds with
  | [d] => match dictOf A d with
    | some kvs => match txtKeys kvs with
      | some xs => if xs.length < 64 ∧ chainB sltB (sortB sltB xs) = true then .ok (.lst ((sortB sltB xs).map .str)) A else .no
      | none => match intKeys kvs with
        | some xs => if xs.length < 64 then .ok (.lst ((sortB (fun x y => decide (x < y)) xs).map .int)) A else .no
        | none => .no
    | none => match listOf A d with
      | some xs => match sortPs A xs with
        | some qs => .ok (.lst (ofPys qs)) A
        | none => .no
      | none => .no
  | _ => .no
theorem dvs_strs {g : G} {H : Hp} {m : List Addr} : ∀ ns : List Str, DVs g H m (ns.map D.str) (ns.map V.str)
  | [] => .nil
  | n :: ns => .cons (.str n) (dvs_strs ns)
theorem insB_pw : ∀ {x : Int} {l : List Int}, l.Pairwise (· ≤ ·) → (insB (fun x y => decide (x < y)) x l).Pairwise (· ≤ ·)
  | x, [], _ => by simp [insB]
  | x, y :: r, h => by
    obtain ⟨h1, h2⟩ := List.pairwise_cons.mp h
    unfold insB
    split
    · rename_i hk
      rw [decide_eq_true_eq] at hk
      refine List.pairwise_cons.mpr ⟨fun z hz => ?_, insB_pw h2⟩
      rcases List.mem_cons.mp (insB_perm.mem_iff.mp hz) with rfl | hz
      · omega
      · exact h1 z hz
    · rename_i hk
      rw [decide_eq_true_eq] at hk
      refine List.pairwise_cons.mpr ⟨fun z hz => ?_, h⟩
      rcases List.mem_cons.mp hz with rfl | hz
      · omega
      · have := h1 z hz; omega
theorem sortB_pw : ∀ (l : List Int), (sortB (fun x y => decide (x < y)) l).Pairwise (· ≤ ·)
  | [] => .nil
  | x :: r => insB_pw (sortB_pw r)
theorem dpt_mem : ∀ {ps : List PyData} {p : PyData}, p ∈ ps → p.depth ≤ PyData.depthAll ps
  | q :: ps, p, h => by
    unfold PyData.depthAll
    rcases List.mem_cons.mp h with rfl | h
    · omega
    · have := dpt_mem h; omega
theorem callF_sorted {g : G} : CallF g (.builtin "sorted") pSorted := by
  intro F W X e ok pins s σ H m A ds vs us Q I rh dv r q
  have hK : X.K = g.K := ok.K.trans (congrArg G.K e)
  unfold pSorted at q
  split at q
  · rename_i d
    obtain ⟨v, rfl, dv1⟩ := dv.one
    split at q
    · rename_i kvs hd
      obtain ⟨p, ks, rfl, hr, kr⟩ := dictOf_rel rh dv1 hd
      split at q
      · rename_i xs hx
        split at q
        · rename_i hz
          refine ep_frz (call_sortedD ok.calm pins s σ H _ us _ I r ⟨p, ks, xs, rfl, hr, txtKeys_rel kr hx, hz.1, fun ys l hp hs hl => ⟨l, _, rfl, upd_same, fun o => ?_⟩⟩)
          rw [upd_upd]
          have hb := chain_pw slt_trans hz.2
          have hpp : ys.Perm (sortB sltB xs) := hp.trans sortB_perm.symm
          have := sort_uniq hpp (sortedS_pw hpp hb hs) hb
          subst this
          exact Po.ok' q (Gr.new hl) (rh.upd hl) (.lst (.inl ⟨o, upd_same, rh.new hl⟩) (dvs_strs _))
        · exact q.elim
      · split at q
        · rename_i xs hx
          split at q
          · rename_i hz
            refine ep_frz (call_sortedDI ok.calm pins s σ H _ us _ I r ⟨p, ks, xs, rfl, hr, intKeys_rel kr hx, hz, fun ys l hp hs hl => ⟨l, _, rfl, upd_same, fun o => ?_⟩⟩)
            rw [upd_upd]
            have := List.Perm.eq_of_pairwise (le := fun (x y : Int) => x ≤ y) (fun a b _ _ h1 h2 => by omega) hs (sortB_pw xs) (hp.trans sortB_perm.symm)
            subst this
            exact Po.ok' q (Gr.new hl) (rh.upd hl) (.lst (.inl ⟨o, upd_same, rh.new hl⟩) (dvs_ints _))
          · exact q.elim
        · exact q.elim
    · split at q
      · rename_i xs hx
        split at q
        · rename_i qs hq
          obtain ⟨p, ws, rfl, sq, rr⟩ := listOf_rel rh dv1 hx
          obtain ⟨ps, h1, h2, h3, h4, h5, h6⟩ := sortPs_eq hq
          obtain ⟨its, rv, hl, _⟩ := I.list (hK ▸ sq)
          rw [Vals.ref1 r]
          obtain ⟨e1, e2⟩ := each_of hK I rh h1 h3 rr rv
          have hu : X.A.units + 200 < cLine := by have := ok.room.un; omega
          have hd32 : ∀ p ∈ ps, p.depth ≤ 32 := by
            have := depthAll_le (n := 32) (fun d p e => toPy_depth A 32 d p e) xs ps h1
            exact fun p hp => Nat.le_trans (dpt_mem hp) this
          refine ep_frz (PySem.W.sorted_data (bs := ps) (enc := fun p => p) hl.isList e1 e2 (by simpa using h4) (by simpa using h5) h2 (fun b hb => by have := hd32 b hb; omega) fun out ho he => ?_)
          rw [h6] at he
          obtain ⟨vs', k1, k2⟩ := dvs_back he
          obtain ⟨ep, he'⟩ := PyProof.Rows.sortedAll_at s.heap its out.toArray
          have hn : H (s.heap.objs.size + 1) = none := I.hok.fresh (Nat.le_succ _)
          have hlen : vs'.length ≤ sizeLine := by rw [k1.length, ho]; exact h2
          refine ⟨.ref _, upd H (s.heap.objs.size + 1) (.lst vs'), I.laid (t' := s.toks) (fun _ _ => PyProof.Rows.sortedAll_old) (Nat.le_succ _) ⟨hlen, out, ep, k1, by simpa using he'⟩, rfl, _, vs', rfl, upd_same, fun o => ?_⟩
          rw [upd_upd]
          exact Po.ok' q (Gr.new hn) (rh.upd hn) (.lst (.inl ⟨o, upd_same, rh.new hn⟩) (k2.mono (Gr.new hn)))
        · exact q.elim
      · exact q.elim
  · exact q.elim
end Sm
end
section
set_option autoImplicit false
namespace Sm
open PySem PySem.Spec PyProof.Rows L2
variable {F : F} {pos : Pos}
noncomputable abbrev tK (P : Program) (w : World) := tupleKind (mixKind P w)
noncomputable def lookT (kvs : List (D × D)) (k : List Key) : Option D := match kvs with
  | [] => none
  | p :: r => if toKeyT p.1 = some k then some p.2 else lookT r k
/-- pairs, and how they lie -/
noncomputable def KYR (g : G) (H : Hp) (m : List Addr) (kvs : List (D × D)) (ys : List (List Key × Addr × Value)) : Prop := Paired (fun p q => toKeyT p.1 = some q.1 ∧ DV g H m p.1 (.ref q.2.1) ∧ ∃ v, DV g H m p.2 v ∧ RelV v q.2.2) kvs ys
/-- a dict with tuple keys (the empty one is one, too) -/
noncomputable def ttOf (A : HA) : D → Option (Nat × Bool × List (D × D))
  | .ref a => match A[a]? with
    | some (.dtt lk kvs) => some (a, lk, kvs)
    | some (.dct lk []) => some (a, lk, [])
    | _ => none
  | _ => none
section
variable {g : G} {H : Hp} {m : List Addr} {kvs : List (D × D)} {ys : List (List Key × Addr × Value)} {k : List Key}
theorem lookT_rel (r : KYR g H m kvs ys) : (∀ d, lookT kvs k = some d → ∃ p v, atKey ys k = some p ∧ DV g H m d v ∧ RelV v p.2) ∧ (lookT kvs k = none → atKey ys k = none) := by
  unfold KYR at r
  induction r with
  | nil => exact ⟨fun d e => (by cases e), fun _ => rfl⟩
  | @cons p q l l' h t ih =>
    have e0 : atKey (q :: l') k = if q.1 = k then some q.2 else atKey l' k := by
      unfold atKey
      rw [List.find?_cons]
      by_cases e : q.1 = k
      · rw [if_pos e, decide_eq_true e]; rfl
      · rw [if_neg e, decide_eq_false e]
    rw [e0]
    unfold lookT
    by_cases e : q.1 = k
    · rw [if_pos (by rw [h.1, e]), if_pos e]
      refine ⟨fun d z => ?_, fun z => (by cases z)⟩
      cases z
      obtain ⟨v, h2, h3⟩ := h.2.2
      exact ⟨q.2, v, rfl, h2, h3⟩
    · rw [if_neg (by rw [h.1]; simpa using e), if_neg e]
      exact ih
theorem keys_vals : ∀ {ds : List D} {ks : List Key} {vs : List V}, toKeys ds = some ks → DVs g H m ds vs → vs = ks.map kV
  | [], ks, vs, e, dv => by cases e; cases dv; rfl
  | d :: ds, ks, vs, e, dv => by
    cases dv with
    | cons h t =>
    unfold toKeys at e
    split at e
    · rename_i k ks' e1 e2
      cases e
      rw [List.map_cons, ← toKey_rel e1 h, ← keys_vals e2 t]
    · cases e
variable {X : Cx} {pins : List (Addr × Obj)} {σ : St} {s : Shared}
/-- a tuple of ints and texts is a key -/
theorem tkey_is (hK : X.K = g.K) (I : Inv X pins σ H s) {d : D} {x : V} (hk : toKeyT d = some k) (dv : DV g H m d x) : ∃ b, x = .ref b ∧ (tK X.prog X.w).is s.heap k b := by
  unfold toKeyT at hk
  split at hk
  · cases dv with
    | tup h hs =>
      rename_i ds vs p
      have e := keys_vals hk hs
      subst e
      obtain ⟨its, rv, ⟨o, h1, h2, n, h3⟩, _⟩ := I.tuple (hK ▸ sqT_of h)
      exact ⟨p, rfl, o, its.toArray, n, h1, h2, h3, by simpa using items_are rv⟩
  · cases hk
theorem KTR.kyr {xs : List (List Key × Addr × V)} : ∀ {kvs : List (D × D)} {ys : List (List Key × Addr × Value)}, KTR g H m kvs xs → Paired (fun x y => x.1 = y.1 ∧ x.2.1 = y.2.1 ∧ RelV x.2.2 y.2.2) xs ys → KYR g H m kvs ys := by
  intro kvs ys r q
  unfold KTR at r
  induction r generalizing ys with
  | nil => cases q; exact .nil
  | @cons p x l l' h t ih =>
    cases q with
    | @cons _ y _ _ h2 t2 =>
      refine .cons ?_ (ih t2)
      obtain ⟨e1, e2, e3⟩ := h2
      exact ⟨e1 ▸ h.1, e2 ▸ h.2.1, x.2.2, h.2.2, e3⟩
theorem KYR.keys (hK : X.K = g.K) (I : Inv X pins σ H s) : ∀ {kvs : List (D × D)} {ys : List (List Key × Addr × Value)}, KYR g H m kvs ys → ∀ y ∈ ys, (tK X.prog X.w).is s.heap y.1 y.2.1 := by
  intro kvs ys r
  unfold KYR at r
  induction r with
  | nil => intro y hy; cases hy
  | @cons p y l l' h t ih =>
    intro z hz
    rcases List.mem_cons.mp hz with rfl | hz
    · obtain ⟨b, e, q⟩ := tkey_is hK I h.1 h.2.1
      cases e
      exact q
    · exact ih z hz
/-- what stands at a dict with tuple keys -/
theorem tt_read (hK : X.K = g.K) (hP : X.prog = g.prog) (hw : X.w = g.w) (I : Inv X pins σ H s) {A : HA} (rh : RH g H m A) {d : D} {x : V} {a : Nat} {lk : Bool} (dx : DV g H m d x) (h : ttOf A d = some (a, lk, kvs)) :
    ∃ p ys, x = .ref p ∧ m[a]? = some p ∧ (p == sysModules) = false ∧ kvs.length ≤ sizeLine ∧ s.heap.DictOfH (tK X.prog X.w) p ys ∧ KYR g H m kvs ys ∧ (lk = false → Mut (H p) ∧ (∃ o, H p = some o ∧ (∀ ps, o ≠ .tbl ps) ∧ ∀ ob u, o ≠ .frz ob u)) := by
  unfold ttOf at h
  split at h
  · rename_i a0
    obtain ⟨p, rfl, hp⟩ := dx.ref_inv
    split at h
    · rename_i lk' kvs' hd
      cases h
      obtain ⟨q, hq, r⟩ := rh.get hd
      rw [hp] at hq; cases hq
      have key : ∀ xs, ObjOk X.prog X.w H s.heap p (DTO g.prog g.w p xs) → KTR g H m kvs xs → (p == sysModules) = false ∧ kvs.length ≤ sizeLine ∧ ∃ ys, s.heap.DictOfH (tK X.prog X.w) p ys ∧ KYR g H m kvs ys := by
        rintro xs ⟨⟨z1, z2, o, es, ep, ys, e1, e2, e3, e4, e5, e6⟩, _⟩ r
        have ky := KTR.kyr r e6
        rw [← hP, ← hw] at e4
        exact ⟨z2, by rw [Paired.length r]; exact z1, ys, ⟨o, es, ep, e1, e2, e3, e4, fun y hy => KYR.keys hK I ky y hy, e5⟩, ky⟩
      cases lk with
      | false =>
        obtain ⟨xs, h1, r⟩ := r
        obtain ⟨k1, k2, ys, k3, k4⟩ := key xs (I.hok p _ h1) r
        exact ⟨p, ys, rfl, hp, k1, k2, k3, k4, fun _ => ⟨by rw [h1]; exact True.intro, _, h1, by unfold DTO; simp, by unfold DTO; simp⟩⟩
      | true =>
        obtain ⟨o, xs, h1, r⟩ := r
        obtain ⟨k1, k2, ys, k3, k4⟩ := key xs (I.hok p _ h1).2 r
        exact ⟨p, ys, rfl, hp, k1, k2, k3, k4, fun z => by cases z⟩
    · rename_i lk' hd
      cases h
      obtain ⟨q, hq, r⟩ := rh.get hd
      rw [hp] at hq; cases hq
      have key : ∀ ks, Rd H p (.dK ks) → KVR g H m [] ks → (p == sysModules) = false ∧ ∃ ys, s.heap.DictOfH (tK X.prog X.w) p ys ∧ KYR g H m [] ys := by
        intro ks e r
        cases r
        obtain ⟨z, hd, vs, rel, o, es, ep, e1, e2, e3, e4⟩ := dk_rd I.hok e
        cases rel
        have e0 : es.toList = [] := by
          have hp0 := e4.2.1.length
          simpa using hp0
        exact ⟨hd, [], ⟨o, es, ep, e1, e2, e3, by rw [e0]; rfl, (fun y hy => absurd hy (by simp)), List.nodup_nil⟩, .nil⟩
      cases lk with
      | false =>
        obtain ⟨ks, h1, r⟩ := r
        obtain ⟨k1, ys, k3, k4⟩ := key ks (.inl h1) r
        exact ⟨p, ys, rfl, hp, k1, Nat.zero_le _, k3, k4, fun _ => ⟨by rw [h1]; exact True.intro, _, h1, by simp, by simp⟩⟩
      | true =>
        obtain ⟨o, ks, h1, r⟩ := r
        obtain ⟨k1, ys, k3, k4⟩ := key ks (.inr ⟨o, h1⟩) r
        exact ⟨p, ys, rfl, hp, k1, Nat.zero_le _, k3, k4, fun z => by cases z⟩
    · cases h
  · cases h
end
end Sm
end
section
set_option autoImplicit false
namespace Sm
open PySem PySem.Spec PyProof.Rows L2
variable {F : F} {pos : Pos}
theorem Ok.u1 {W : WX} {X : Cx} (ok : Ok F W X) : X.A.units + 1 < cLine := by have := ok.room.un; omega
/-- a dict with tuple keys and a key -/
noncomputable def ttAt (A : HA) (d e : D) : Option (Nat × Bool × List (D × D) × List Key) := match ttOf A d, toKeyT e with
  | some (a, lk, kvs), some k => some (a, lk, kvs, k)
  | _, _ => none
theorem ttAt_eq {A : HA} {d e : D} {a : Nat} {lk : Bool} {kvs : List (D × D)} {k : List Key} (h : ttAt A d e = some (a, lk, kvs, k)) : ttOf A d = some (a, lk, kvs) ∧ toKeyT e = some k := by
  unfold ttAt at h
  split at h
  · rename_i h1 h2
    cases h
    exact ⟨h1, h2⟩
  · cases h
noncomputable def pGetT (kvs : List (D × D)) (k : List Key) (A : HA) : R D := match lookT kvs k with
  | some x => .ok x A
  | none => .no
noncomputable def pGetX : P2 := fun d e A => match ttAt A d e with
  | some (_, _, kvs, k) => pGetT kvs k A
  | none => pGet d e A
theorem pGet_rel {g : G} {W : WX} {σ : St} {m : List Addr} {H : Hp} {A : HA} {d e : D} {x y : V} {Q : VK} (rh : RH g H m A) (dx : DV g H m d x) (dy : DV g H m e y) (q : Po (rE g) g m H W σ (pGet d e A) Q) :
    rIx g.K x y H Q ∨ ∃ a v, x = .ref a ∧ DGet H a y (some v) ∧ Q v H := by
  have seq : Po (rE g) g m H W σ (pIx d e A) Q → rIx g.K x y H Q := fun q => op2_ix W σ m H A d e x y Q rh dx dy q
  unfold pGet at q
  split at q
  · rename_i z
    unfold pIxS at q
    split at q
    · rename_i z' i e1
      cases e1
      split at q
      · rename_i hz
        split at q
        · rename_i c hc
          have := dx.str_inv; subst this
          have := dy.int_inv; subst this
          exact .inl (.inr (.inr ⟨z, i, c, rfl, rfl, hz, hc, Po.ok q rh (.str _)⟩))
        · exact q.elim
      · exact q.elim
    · exact q.elim
  · split at q
    · unfold pIxD at q
      split at q
      · rename_i k hk
        split at q
        · rename_i r hr
          obtain ⟨a, vo, rfl, g, z⟩ := dget_rel rh dx dy hk hr
          cases vo with
          | none => exact z.elim
          | some v => exact .inr ⟨a, v, rfl, g, Po.ok q rh z⟩
        · exact q.elim
      · exact q.elim
    · exact .inl (seq q)
  · exact .inl (seq q)
noncomputable def rPack (g : G) (W : WX) (p : P2) : R2 := fun x y H Q => ∃ σ m A d e, RH g H m A ∧ DV g H m d x ∧ DV g H m e y ∧ Po (rE g) g m H W σ (p d e A) Q
theorem ix_X {W : WX} {X : Cx} (ok : Ok F W X) : IxR X (rPack F.g W pGetX) := by
  intro value slice pins s σ H x y v u Q I rx ry h hs
  obtain ⟨σ0, m, A, d, e, rh, dx, dy, q⟩ := h
  unfold pGetX at q
  split at q
  · rename_i a lk kvs k ht
    obtain ⟨h1, h2⟩ := ttAt_eq ht
    obtain ⟨p, ys, rfl, hp, hs1, hl, dd, ky, _⟩ := tt_read ok.K ok.prog ok.w I rh dx h1
    obtain ⟨b, rfl, hk⟩ := tkey_is ok.K I h2 dy
    obtain rfl : v = Value.ref p := rx
    obtain rfl : u = Value.ref b := ry
    unfold pGetT at q
    split at q
    · rename_i r hr
      obtain ⟨pv, w, k1, k2, k3⟩ := (lookT_rel ky).1 r hr
      exact PyProof.Rows.tail_any dd.typeIs PySem.F.slot_dict_getitem.lookup (wpAny_getItem_heap (tupleKind_room_in1 ok.u1) hk dd k1 ⟨w, H, I.tok _, k3, Po.ok q rh k2⟩) hs
    · exact q.elim
  · have h := pGet_rel rh dx dy q
    rw [← ok.K] at h
    exact IxR.or ix_seq (ix_dict ok.u1) value slice pins s σ H x y v u Q I rx ry h hs
theorem je_getX {a b : Expr} {ca cb : CE} (ja : JE F a ca) (jb : JE F b cb) (hs : PlainIx b := by intro _ _; rfl) : JE F (.Subscript a b pos) (c2 pGetX ca cb) := by
  intro W X ok
  refine PE.imp (pe_ix (ix_X ok) (ja W X ok) (jb W X ok) hs) ?_
  rintro σ H Q ⟨m, E, A, rh, rs, q⟩
  exact ⟨m, E, A, rh, rs, Po.bind q fun m1 H1 d x A1 g1 rh1 dx q1 => ⟨m1, E, A1, rh1, rs.mono g1, Po.bind q1 fun m2 H2 e y A2 g2 rh2 dy q2 => ⟨σ, m2, A2, d, e, rh2, dx.mono g2, dy, q2⟩⟩⟩
noncomputable def pInT (neg : Bool) : P2 := fun d e A => match ttAt A e d with
  | some (_, _, kvs, k) => .ok (.bl (xor neg (lookT kvs k).isSome)) A
  | none => pInX neg d e A
theorem look_some {g : G} {H : Hp} {m : List Addr} {kvs : List (D × D)} {ys : List (List Key × Addr × Value)} {k : List Key} (r : KYR g H m kvs ys) : (atKey ys k).isSome = (lookT kvs k).isSome := by
  obtain ⟨h1, h2⟩ := lookT_rel (k := k) r
  cases h : lookT kvs k with
  | none => rw [h2 h]; rfl
  | some d => obtain ⟨p, _, e, _⟩ := h1 d h; rw [e]; rfl
theorem opF_inT {g : G} : OpF g (compareOp .In) (pInT false) := by
  intro F W X e ok pins s σ H m A d e' x y v u Q I rh dx dy rx ry q
  subst e
  unfold pInT at q
  split at q
  · rename_i a lk kvs k ht
    obtain ⟨h1, h2⟩ := ttAt_eq ht
    obtain ⟨p, ys, rfl, hp, hs1, hl, dd, ky, _⟩ := tt_read ok.K ok.prog ok.w I rh dy h1
    obtain ⟨b, rfl, hk⟩ := tkey_is ok.K I h2 dx
    obtain rfl : u = Value.ref p := ry
    obtain rfl : v = Value.ref b := rx
    rw [Bool.false_xor] at q
    refine wpAny_in_heap (tupleKind_room_in1 ok.u1) hk hs1 dd ⟨.bl _, H, I.tok _, rfl, ?_⟩
    rw [look_some ky]
    exact Po.ok q rh (.bl _)
  · exact opF_inX F W X rfl ok pins s σ H m A d e' x y v u Q I rh dx dy rx ry q
theorem opF_notInT {g : G} : OpF g (compareOp .NotIn) (pInT true) := by
  intro F W X e ok pins s σ H m A d e' x y v u Q I rh dx dy rx ry q
  subst e
  unfold pInT at q
  split at q
  · rename_i a lk kvs k ht
    obtain ⟨h1, h2⟩ := ttAt_eq ht
    obtain ⟨p, ys, rfl, hp, hs1, hl, dd, ky, _⟩ := tt_read ok.K ok.prog ok.w I rh dy h1
    obtain ⟨b, rfl, hk⟩ := tkey_is ok.K I h2 dx
    obtain rfl : u = Value.ref p := ry
    obtain rfl : v = Value.ref b := rx
    rw [Bool.true_xor] at q
    refine wpAny_notIn_heap (tupleKind_room_in1 ok.u1) hk hs1 dd ⟨.bl _, H, I.tok _, rfl, ?_⟩
    rw [look_some ky]
    exact Po.ok q rh (.bl _)
  · exact opF_notInX F W X rfl ok pins s σ H m A d e' x y v u Q I rh dx dy rx ry q
noncomputable def pLenX : PF := fun ds A => match ds with
  | [d] => match dictOf A d with
    | some kvs => .ok (.int (kvs.length : Nat)) A
    | none => match ttOf A d with
      | some (_, _, kvs) => .ok (.int (kvs.length : Nat)) A
      | none => pLen ds A
  | _ => .no
theorem callF_lenX {g : G} : CallF g (.builtin "len") pLenX := by
  intro F W X e ok pins s σ H m A ds vs us Q I rh dv r q
  subst e
  unfold pLenX at q
  split at q
  · rename_i d
    obtain ⟨v, rfl, dv1⟩ := dv.one
    split at q
    · rename_i kvs hd
      obtain ⟨p, ks, rfl, hr, kr⟩ := dictOf_rel rh dv1 hd
      obtain ⟨u, rfl, rx⟩ := vals1 r
      obtain rfl : u = Value.ref p := rx
      have hl : kvs.length = ks.length := Paired.length kr
      refine d_len I hr fun t s' I' => ⟨.int _, H, I', ⟨t, rfl⟩, ?_⟩
      rw [← hl]
      exact Po.ok q rh (.int _)
    · split at q
      · rename_i a lk kvs ht
        obtain ⟨p, ys, rfl, hp, hs1, hl, dd, ky, _⟩ := tt_read ok.K ok.prog ok.w I rh dv1 ht
        obtain ⟨u, rfl, rx⟩ := vals1 r
        obtain rfl : u = Value.ref p := rx
        have hl2 : kvs.length = ys.length := Paired.length ky
        refine call_len_dictH hs1 dd (by rw [← hl2]; rw [sizeLine_eq] at hl; omega) ⟨.int _, H, I.tok _, ⟨_, rfl⟩, ?_⟩
        rw [← hl2]
        exact Po.ok q rh (.int _)
      · exact callF_len F W X rfl ok pins s σ H m A _ _ us Q I rh dv r q
  · exact q.elim
end Sm
end
section
set_option autoImplicit false
namespace Sm
open PySem PySem.Spec PyProof.Rows L2
variable {F : F} {pos : Pos}
noncomputable def isTX (T : String) (A : HA) (d : D) : Bool := isT T A d || (T == "dict" && (isDct A d || (ttOf A d).isSome))
theorem isTX_is {g : G} {X : Cx} {pins : List (Addr × Obj)} {σ : St} {H : Hp} {s : Shared} {m : List Addr} {A : HA} {d : D} {x : V} {v : Value} {T : String} (hK : X.K = g.K) (hP : X.prog = g.prog) (hw : X.w = g.w) (I : Inv X pins σ H s) (rh : RH g H m A) (dx : DV g H m d x) (rx : RelV x v) (h : isTX T A d = true) :
    s.TypeIs v T ∧ ∀ a, v = .ref a → ∃ ob, s.heap.get? a = some ob ∧ ob.dict = none := by
  unfold isTX at h
  rw [Bool.or_eq_true, Bool.and_eq_true, Bool.or_eq_true] at h
  rcases h with h | ⟨h0, h | h⟩
  · exact tyV_is I rx (by rw [hK]; exact isT_rel rh dx h)
  · have := beq_iff_eq.mp h0; subst this
    obtain ⟨p, rfl, isd⟩ := isDct_rel rh dx h
    obtain rfl : v = Value.ref p := rx
    obtain ⟨h1, h2, _⟩ := isD_at I isd
    exact ⟨h1, h2⟩
  · have := beq_iff_eq.mp h0; subst this
    obtain ⟨⟨a, lk, kvs⟩, ht⟩ := Option.isSome_iff_exists.mp h
    obtain ⟨p, ys, rfl, hp, hs1, hl, ⟨o, es, ep, e1, e2, _⟩, _⟩ := tt_read hK hP hw I rh dx ht
    obtain rfl : v = Value.ref p := rx
    exact ⟨⟨o, e1, e2.1⟩, fun a e => by cases e; exact ⟨o, e1, e2.2.1⟩⟩
noncomputable def cMethX (T : String) (p : PM) (co : CE) (ca : CA) : CE := fun E A => (co E A).bind fun d A1 => if isTX T A1 d = true then (ca E A1).bind fun ds A2 => rOf (p d ds A2) else .no
theorem je_methX {T id : String} {name : Str} {o e : Expr} {es : List Expr} {co : CE} {ca : CA} {p : PM} {apos : Pos} (hm : MtF F.g T id p) (pa : PlainAttrs T) (slot : Slot T name id) (hty : typeOf (.builtin id) = pure (.type "method_descriptor")) (ho : JE F o co) (ha : JA F (e :: es) ca)
    (hbase : ∀ X : Cx, attributeBase o name X.env (eval o X.env) = eval o X.env := by intro _; rfl)
    (hfew : ∀ X : Cx, ((backTo pos (starEach (e :: es) X.env)).all (fun x => !x.1) && (backToKw pos (keywordEach [] X.env)).all (fun x => x.1.isSome)
      && decide ((e :: es).length + ([] : List Keyword).length + (if ([] : List Keyword).isEmpty then 0 else 1) < 30)) = true := by intro _; rfl)
    (hline : (apos.endLine == pos.line) = true := by rfl) (hs : ∀ X : Cx, starEach (e :: es) X.env = (false, eval e X.env) :: starEach es X.env := by intro _; rfl) (hplain : ∀ X : Cx, (backTo pos (starEach es X.env)).any (·.1) = false := by intro _; rfl) :
    JE F (.Call (.Attribute o name apos) (e :: es) [] pos) (cMethX T p co ca) := by
  intro W X ok
  refine ⟨fun pins s σ H Q I h => ?_⟩
  obtain ⟨m, E, A, rh, rs, q⟩ := h
  refine wpAny_Call_method_late (hbase X) (hfew X) hline rfl (thn ((ho W X ok).run pins s σ H (fun x H1 => ∃ m1 d A1, RH F.g H1 m1 A1 ∧ RS F.g H1 m1 E σ ∧ DV F.g H1 m1 d x ∧ Po (rE F.g) F.g m1 H1 W σ (if isTX T A1 d = true then (ca E A1).bind fun ds A2 => rOf (p d ds A2) else .no) Q) I
    ⟨m, E, A, rh, rs, Po.bind q fun m1 H1 d x A1 g1 rh1 dx q1 => ⟨m1, d, A1, rh1, rs.mono g1, dx, q1⟩⟩) fun v s1 ⟨x, H1, I1, r1, m1, d, A1, rh1, rs1, dx, q1⟩ => ?_)
  split at q1
  · rename_i hT
    obtain ⟨h1, h2⟩ := isTX_is ok.K ok.prog ok.w I1 rh1 dx r1 hT
    refine ⟨T, id, pa, slot, hty, h1, h2, ?_⟩
    have hA := (ha W X ok).run pos pins s1 σ H1 (fun xs H2 => ∃ m2 ds A2, Gr m1 m2 H1 H2 ∧ RH F.g H2 m2 A2 ∧ DVs F.g H2 m2 ds xs ∧ PoO F.g m2 H2 (p d ds A2) Q) I1 ⟨m1, E, A1, rh1, rs1, ?_⟩
    · rw [hs X] at hA ⊢
      refine Calls.callWith_builtin (by show (false || (backTo pos (starEach es X.env)).any (·.1)) = false; rw [hplain X] <;> rfl) (Calls.evalArgs_plain ?_)
      exact thn hA fun us s2 ⟨xs, H2, I2, r2, m2, ds, A2, g2, rh2, dxs, q2⟩ => hm X ok.K ok.prog ok.w ok.calm (by have := ok.room.un; omega) pins s2 σ H2 m2 A2 d ds x xs v us Q I2 rh2 (dx.mono g2) dxs r1 r2 q2
    · have hb : ∀ (r : R (List D)) (q : Po (rE F.g) F.g m1 H1 W σ (r.bind fun ds A2 => rOf (p d ds A2)) Q), Po (rA F.g) F.g m1 H1 W σ r (fun xs H2 => ∃ m2 ds A2, Gr m1 m2 H1 H2 ∧ RH F.g H2 m2 A2 ∧ DVs F.g H2 m2 ds xs ∧ PoO F.g m2 H2 (p d ds A2) Q) := fun r q =>
        Po.bind q fun m2 H2 ds xs A2 g2 rh2 dxs q2 => ⟨m2, ds, A2, g2, rh2, dxs, PoO.of q2⟩
      exact hb _ q1
  · exact q1.elim
noncomputable def getAny (A : HA) (d e : D) : Option (Option D) := match ttAt A d e with
  | some (_, _, kvs, k) => some (lookT kvs k)
  | none => match toKey e with
    | some k => dgetOf A d k
    | none => none
noncomputable def pDGet : PM := fun d ds A => match ds with
  | [e] => (getAny A d e).map fun o => (o.getD .non, A)
  | [e, f] => (getAny A d e).map fun o => (o.getD f, A)
  | _ => none
theorem mtF_dget {g : G} : MtF g "dict" "dict.get" pDGet := by
  intro X hK hP hw hc hu pins s σ H m A d ds x xs v us Q I rh dx dxs rx rxs q
  have key : ∀ {e : D} {y : V} {u1 : Value} {o : Option D}, DV g H m e y → RelV y u1 → getAny A d e = some o → (∃ p ys b k, x = .ref p ∧ y = .ref b ∧ (p == sysModules) = false ∧ s.heap.DictOfH (tK X.prog X.w) p ys ∧ (tK X.prog X.w).is s.heap k b ∧ (∀ r, o = some r → ∃ pv w, atKey ys k = some pv ∧ DV g H m r w ∧ RelV w pv.2) ∧ (o = none → atKey ys k = none)) ∨ ∃ a vo, x = .ref a ∧ DGet H a y vo ∧ ODV g H m o vo := by
    intro e y u1 o dy r1 ho
    unfold getAny at ho
    split at ho
    · rename_i a lk kvs k ht
      cases ho
      obtain ⟨h1, h2⟩ := ttAt_eq ht
      obtain ⟨p, ys, rfl, hp, hs1, hl, dd, ky, _⟩ := tt_read hK hP hw I rh dx h1
      obtain ⟨b, rfl, hk⟩ := tkey_is hK I h2 dy
      exact .inl ⟨p, ys, b, k, rfl, rfl, hs1, dd, hk, (lookT_rel ky).1, (lookT_rel ky).2⟩
    · split at ho
      · rename_i k hk
        exact .inr (dget_rel rh dx dy hk ho)
      · cases ho
  unfold pDGet at q
  split at q
  · rename_i e
    obtain ⟨y, rfl, dy⟩ := dxs.one
    obtain ⟨u1, rfl, r1⟩ := vals1 rxs
    cases ho : getAny A d e with
    | none => rw [ho] at q; exact q.elim
    | some o =>
      rw [ho] at q
      rcases key dy r1 ho with ⟨p, ys, b, k, rfl, rfl, hs1, dd, hk, k1, k2⟩ | ⟨a, vo, rfl, g1, od⟩
      · obtain rfl : v = Value.ref p := rx
        obtain rfl : u1 = Value.ref b := r1
        refine call_meetsIn PySem.F.slot_dict_get dd.typeIs PySem.F.entry_dict_get (PySem.F.args_dict_get_2 _ _) (meetsH_dict_get (tK X.prog X.w) p b hs1) ⟨tupleKind_room_in1 (by omega), k, ys, hk, dd, ?_⟩
        cases o with
        | none => rw [k2 rfl]; exact ⟨.non, H, I.tok _, rfl, q m .non H (Gr.refl _ _) rh .non⟩
        | some r =>
          obtain ⟨pv, w, e1, e2, e3⟩ := k1 r rfl
          rw [e1]
          exact ⟨w, H, I.tok _, e3, q m w H (Gr.refl _ _) rh e2⟩
      · obtain rfl : v = Value.ref a := rx
        refine d_get1 (by omega) I g1 r1 fun w' s' I' rw' => ⟨vo.getD .non, H, I', rw', ?_⟩
        refine q m _ H (Gr.refl _ _) rh ?_
        cases o <;> cases vo <;> first | exact od.elim | exact .non | exact od
  · rename_i e f
    obtain ⟨y, z, rfl, dy, dz⟩ := dxs.two
    obtain ⟨u1, u2, rfl, r1, r2⟩ := vals2 rxs
    cases ho : getAny A d e with
    | none => rw [ho] at q; exact q.elim
    | some o =>
      rw [ho] at q
      rcases key dy r1 ho with ⟨p, ys, b, k, rfl, rfl, hs1, dd, hk, k1, k2⟩ | ⟨a, vo, rfl, g1, od⟩
      · obtain rfl : v = Value.ref p := rx
        obtain rfl : u1 = Value.ref b := r1
        refine call_meetsIn PySem.F.slot_dict_get dd.typeIs PySem.F.entry_dict_get (PySem.F.args_dict_get_3 _ _ _) (meetsH_dict_get_default (tK X.prog X.w) p b hs1 u2) ⟨tupleKind_room_in1 (by omega), k, ys, hk, dd, ?_⟩
        cases o with
        | none => rw [k2 rfl]; exact ⟨z, H, I.tok _, r2, q m z H (Gr.refl _ _) rh dz⟩
        | some r =>
          obtain ⟨pv, w, e1, e2, e3⟩ := k1 r rfl
          rw [e1]
          exact ⟨w, H, I.tok _, e3, q m w H (Gr.refl _ _) rh e2⟩
      · obtain rfl : v = Value.ref a := rx
        refine d_get2 (by omega) I g1 r1 r2 fun w' s' I' rw' => ⟨vo.getD z, H, I', rw', ?_⟩
        refine q m _ H (Gr.refl _ _) rh ?_
        cases o <;> cases vo <;> first | exact od.elim | exact dz | exact od
  · exact q.elim
end Sm
end
section
set_option autoImplicit false
namespace Sm
open PySem PySem.Spec PyProof.Rows L2
variable {F : F} {pos : Pos}
noncomputable abbrev XsT := List (List Key × Addr × V)
end Sm
end
section
set_option autoImplicit false
namespace Sm
open PySem PySem.Spec PyProof.Rows L2
variable {F : F} {pos : Pos}
noncomputable def pLstX (hot : Bool) : PF := fun ds A => match ds with
  | [d] => match freeD A d with
    | some (_, kvs) => if hot = true then .ok (.ref A.length) (A ++ [.lst (kvs.map (·.1))]) else .ok (.lst (kvs.map (·.1))) A
    | none => pLstOf hot ds A
  | _ => .no
theorem keys_dvs {g : G} {H : Hp} {m : List Addr} {kvs : List (D × D)} {ks : List (Key × V)} (r : KVR g H m kvs ks) : DVs g H m (kvs.map (·.1)) (ks.map fun kv => kV kv.1) := by
  unfold KVR at r
  induction r with
  | nil => exact .nil
  | @cons d k l1 l2 h t ih =>
    obtain ⟨dk, dv⟩ := d
    obtain ⟨k1, k2⟩ := k
    have h1 : toKey dk = some k1 := h.1
    refine .cons ?_ ih
    cases dk <;> first | cases h1 | skip
    · exact .int _
    · exact .str _
theorem callF_lstX {g : G} {hot : Bool} : CallF g (.type "list") (pLstX hot) := by
  intro F W X e ok pins s σ H m A ds vs us Q I rh dv r q
  subst e
  unfold pLstX at q
  split at q
  · rename_i d
    obtain ⟨v, rfl, dv1⟩ := dv.one
    split at q
    · rename_i a kvs hf
      obtain ⟨p, ks, rfl, hp, h1, kr⟩ := freeD_rel rh dv1 hf
      cases hot with
      | true =>
        refine call_list_dK ok.calm pins s σ H _ us _ I r ⟨p, ks, rfl, h1, fun l hl => ?_⟩
        have gr : Gr m (m ++ [l]) H (upd H l (.lst (ks.map fun kv => kV kv.1))) := Gr.push hl
        refine Po.ok' q gr (rh.push hl ⟨_, upd_same, (keys_dvs kr).mono gr⟩) (.ref ?_)
        rw [← RH.len rh]; simp
      | false =>
        refine ep_frz (call_list_dK ok.calm pins s σ H _ us _ I r ⟨p, ks, rfl, h1, fun l hl => ⟨l, _, rfl, upd_same, fun o => ?_⟩⟩)
        rw [upd_upd]
        exact Po.ok' q (Gr.new hl) (rh.upd hl) (.lst (.inl ⟨o, upd_same, rh.new hl⟩) ((keys_dvs kr).mono (Gr.new hl)))
    · exact callF_lstOf F W X rfl ok pins s σ H m A _ _ us Q I rh dv r q
  · exact q.elim
end Sm
end
section
set_option autoImplicit false
namespace Sm
open PySem PySem.Spec PyProof.Rows L2
variable {F : F} {pos : Pos}
theorem PK.imp {X : Cx} {kws : List Keyword} {t t' : TA} (h : PK X kws t) (i : ∀ σ H Q, t' σ H Q → t σ H Q) : PK X kws t' := ⟨fun pos pins s σ H Q I q => h.run pos pins s σ H Q I (i σ H Q q)⟩
/-- xs in another order -/
noncomputable def perm {α : Type} [Inhabited α] (pm : List Nat) (xs : List α) : List α := pm.map fun i => xs.getD i default
theorem Vals.getD : ∀ {vs : List V} {us : List Value} (i : Nat), Vals vs us → i < vs.length → ∃ v u, vs[i]? = some v ∧ us[i]? = some u ∧ RelV v u
  | _, _, 0, .cons a _, _ => ⟨_, _, rfl, rfl, a⟩
  | _, _, i + 1, .cons _ r, h => let ⟨v, u, h1, h2, h3⟩ := Vals.getD i r (Nat.lt_of_succ_lt_succ h); ⟨v, u, h1, h2, h3⟩
noncomputable instance : Inhabited Value := ⟨.none⟩
noncomputable instance : Inhabited V := ⟨.non⟩
/-- the def f may be called at level k with all its arguments by the names ks; pm tells where each parameter stands among them -/
structure CallKw (g : G) (k : Nat) (a : Addr) (ps ks : List Str) (pm : List Nat) (c : CF) : Prop where
  ex : ∃ fd : FuncData, FnG g k a fd ps (SpC g c ps.length) ∧ ∀ (s : Shared) (ws : List Value), g.K.In s.heap → ws.length = ks.length → BindsTo s fd ⟨[], ks.zip ws⟩ (ps.zip (perm pm ws))
  kp : PySem.W.keepIn g.K (.ref a) = true
  all : ∀ i ∈ pm, i < ks.length
  len : pm.length = ps.length
theorem CallKw.mono {g : G} {j k : Nat} {a : Addr} {ps ks : List Str} {pm : List Nat} {c : CF} (F : CallKw g j a ps ks pm c) (h : j ≤ k) : CallKw g k a ps ks pm c := ⟨F.ex.imp fun _ z => ⟨z.1.mono h, z.2⟩, F.kp, F.all, F.len⟩
noncomputable def dctLen (A : HA) : D → Option Nat
  | .dct ks _ => some ks.length
  | .ref a => match A[a]? with
    | some (.dct _ kvs) => some kvs.length
    | _ => none
  | _ => none
theorem dctLen_rel {g : G} {H : Hp} {m : List Addr} {A : HA} {d : D} {v : V} {n : Nat} (rh : RH g H m A) (dv : DV g H m d v) (h : dctLen A d = some n) : ∃ p ks, v = .ref p ∧ Rd H p (.dK ks) ∧ ks.length = n := by
  cases d with
  | dct ks ds =>
    cases h
    cases dv with
    | dct h hl hs =>
      obtain ⟨o, h, _⟩ := h
      exact ⟨_, _, rfl, .inr ⟨o, h⟩, by rw [List.length_zip, ← hs.length, hl, Nat.min_self]⟩
  | ref a =>
    obtain ⟨p, rfl, hp⟩ := dv.ref_inv
    have h : (match A[a]? with | some (.dct _ kvs) => some kvs.length | _ => none : Option Nat) = some n := h
    split at h
    · rename_i lk kvs he
      cases h
      obtain ⟨q, hq, r⟩ := rh.get he
      rw [hp] at hq; cases hq
      cases lk with
      | false => obtain ⟨ks, h1, h2⟩ := r; exact ⟨p, ks, rfl, .inl h1, (PySem.Paired.length h2).symm⟩
      | true => obtain ⟨o, ks, h1, h2⟩ := r; exact ⟨p, ks, rfl, .inr ⟨o, h1⟩, (PySem.Paired.length h2).symm⟩
    · cases h
  | _ => cases h
noncomputable def isE : D → Bool
  | .dct [] [] => true
  | _ => false
noncomputable def pNeX : P2 := fun d e A => match dctLen A d, isE e with
  | some n, true => .ok (.bl (n != 0)) A
  | _, _ => pNeD d e A
noncomputable def pEqX : P2 := fun d e A => match dctLen A d, isE e with
  | some n, true => .ok (.bl (n == 0)) A
  | _, _ => pEqD d e A
theorem isE_eq {e : D} (h : isE e = true) : e = .dct [] [] := by
  unfold isE at h
  split at h
  · rfl
  · cases h
theorem opF_neX {g : G} : OpF g (compareOp .NotEq) pNeX := by
  intro F W X e ok pins s σ H m A d e' x y v u Q I rh dx dy rx ry q
  unfold pNeX at q
  split at q
  · rename_i n h1 h2
    have h2 := isE_eq h2
    subst h2
    obtain ⟨p, ks, rfl, hr, hl⟩ := dctLen_rel rh dx h1
    obtain ⟨p', ls, rfl, hr', hl'⟩ := dctLen_rel (n := 0) rh dy rfl
    obtain rfl : v = .ref p := rx
    obtain rfl : u = .ref p' := ry
    obtain ⟨z, hd, vs, rel, dd⟩ := dk_rd I.hok hr
    obtain ⟨z', hd', vs', rel', dd'⟩ := dk_rd I.hok hr'
    have e1 : vs.length = n := by rw [← rel.length]; exact hl
    have e2 : vs'.length = 0 := by rw [← rel'.length]; exact hl'
    refine PySem.W.keq_ne (knd := mixKind X.prog X.w) (r := true) hd hd' dd dd' (by have := ok.room.un; omega) (fun hh => ?_) (fin_bl I (Po.ok q rh (.bl _)) ?_)
    · have : vs = [] := List.eq_nil_of_length_eq_zero (by omega)
      subst this
      exact .nil
    · rw [e1, e2]
      cases n <;> rfl
  · exact opF_neD F W X e ok pins s σ H m A d e' x y v u Q I rh dx dy rx ry q
theorem opF_eqX {g : G} : OpF g (compareOp .Eq) pEqX := by
  intro F W X e ok pins s σ H m A d e' x y v u Q I rh dx dy rx ry q
  unfold pEqX at q
  split at q
  · rename_i n h1 h2
    have h2 := isE_eq h2
    subst h2
    obtain ⟨p, ks, rfl, hr, hl⟩ := dctLen_rel rh dx h1
    obtain ⟨p', ls, rfl, hr', hl'⟩ := dctLen_rel (n := 0) rh dy rfl
    obtain rfl : v = .ref p := rx
    obtain rfl : u = .ref p' := ry
    obtain ⟨z, hd, vs, rel, dd⟩ := dk_rd I.hok hr
    obtain ⟨z', hd', vs', rel', dd'⟩ := dk_rd I.hok hr'
    have e1 : vs.length = n := by rw [← rel.length]; exact hl
    have e2 : vs'.length = 0 := by rw [← rel'.length]; exact hl'
    refine PySem.W.keq_eq (knd := mixKind X.prog X.w) (r := true) hd hd' dd dd' (by have := ok.room.un; omega) (fun hh => ?_) (fin_bl I (Po.ok q rh (.bl _)) ?_)
    · have : vs = [] := List.eq_nil_of_length_eq_zero (by omega)
      subst this
      exact .nil
    · rw [e1, e2]
      cases n <;> rfl
  · exact opF_eqD F W X e ok pins s σ H m A d e' x y v u Q I rh dx dy rx ry q
end Sm
end
section
set_option autoImplicit false
namespace Sm
open PySem PySem.Spec PyProof.Rows L2
variable {F : F} {pos : Pos}
mutual
inductive KDV (K : PySem.W.Frag) : D → V → Prop
  | non : KDV K .non .non
  | bl (b : Bool) : KDV K (.bl b) (.bl b)
  | int (i : Int) : KDV K (.int i) (.int i)
  | str (x : Str) : KDV K (.str x) (.str x)
  | tup {ds : List D} {vs : List V} {p : Addr} : KTup K p vs → KDVs K ds vs → KDV K (.tup ds) (.ref p)
inductive KDVs (K : PySem.W.Frag) : List D → List V → Prop
  | nil : KDVs K [] []
  | cons {d : D} {v : V} {ds : List D} {vs : List V} : KDV K d v → KDVs K ds vs → KDVs K (d :: ds) (v :: vs)
end
mutual
theorem KDV.dv {g : G} {H : Hp} {m : List Addr} : ∀ {d : D} {v : V}, KDV g.K d v → DV g H m d v
  | _, _, .non => .non
  | _, _, .bl b => .bl b
  | _, _, .int i => .int i
  | _, _, .str x => .str x
  | _, _, .tup h hs => .tup (.inr h) hs.dvs
theorem KDVs.dvs {g : G} {H : Hp} {m : List Addr} : ∀ {ds : List D} {vs : List V}, KDVs g.K ds vs → DVs g H m ds vs
  | _, _, .nil => .nil
  | _, _, .cons h hs => .cons h.dv hs.dvs
end
theorem je_gtup {x : Str} {d : D} (hg : Gls F.scope x) (hm : ∃ p, F.g.mg x = some (.ref p) ∧ KDV F.g.K d (.ref p)) (hd : (x == ("__debug__" : Str)) = false := by decide) : JE F (.Name x pos) (cC d) := by
  obtain ⟨p, hm, k⟩ := hm
  exact je_glob (v := .ref p) (u := .ref p) hg hm rfl (fun _ _ => k.dv) hd
theorem KTup.at_ {K : PySem.W.Frag} {p : Addr} {vs : List V} {its : Array Value} {n : Nat} {sl : Array (Option Value)} (h : K.lookup p = some ⟨.type "tuple", none, .seq its n, sl⟩) (hz : its.size ≤ sizeLine) (r : Vals vs its.toList) : KTup K p vs :=
  ⟨_, its, n, h, rfl, rfl, rfl, hz, r⟩
noncomputable def pIsB (neg : Bool) : P2 := fun d e A => match d, e with
  | .bl b, .bl c => .ok (.bl (xor neg (b == c))) A
  | _, _ => pIsN neg d e A
theorem opF_isNotB {g : G} : OpF g (compareOp .IsNot) (pIsB true) := by
  intro F W X e ok pins s σ H m A d e' x y v u Q I rh dx dy rx ry q
  unfold pIsB at q
  split at q
  · rename_i b c
    have := dx.bl_inv; subst this
    have := dy.bl_inv; subst this
    cases rx; cases ry
    rw [Bool.true_xor] at q
    exact PyProof.Rows.isnot_bool (fin_bl I (Po.ok q rh (.bl _)) rfl)
  · exact opF_isNot F W X e ok pins s σ H m A d e' x y v u Q I rh dx dy rx ry q
theorem MethOk.of {g : G} {k c n : Nat} {a : Addr} {ps : List Str} {m : Str} {cf : CF} (h : CallOk g k a ps cf) (cl : ClsOk g c) (me : Meth g.K (g.ca c) m a) (hl : ps.length = n + 1 := by rfl) : MethOk g k c m n cf :=
  ⟨cl, let ⟨fd, f, b⟩ := h.ex; ⟨a, fd, ps, me, f, b, hl⟩⟩
theorem MethTab.one {g : G} {k c n : Nat} {m : Str} {cf : CF} (h : MethOk g k c m n cf) : MethTab g k m n [(c, cf)] := by
  intro p hp
  simp only [List.mem_cons, List.not_mem_nil, or_false] at hp
  subst hp
  exact h
theorem MethTab.non {g : G} {k n : Nat} {m : Str} : MethTab g k m n [] := fun _ h => nomatch h
theorem MethTab.cons {g : G} {k c n : Nat} {m : Str} {cf : CF} {tbl : List (Nat × CF)} (h : MethOk g k c m n cf) (t : MethTab g k m n tbl) : MethTab g k m n ((c, cf) :: tbl) := by
  intro p hp
  rcases List.mem_cons.mp hp with e | e
  · subst e; exact h
  · exact t p e
theorem MkOk.of {g : G} {k c n : Nat} {a : Addr} {ps : List Str} {cf : CF} (h : CallOk g k a ps cf) (me : L2.Mk g.K (g.ca c) a) (hl : ps.length = n + 1 := by rfl) : MkOk g k c n cf :=
  ⟨let ⟨fd, f, b⟩ := h.ex; ⟨a, fd, ps, me, f, b, hl⟩⟩
end Sm
end
section
set_option autoImplicit false
namespace PySem
open Builtin Builtin.Str
open AutoSeq1 (wpAny_loadPart')
theorem sm_meets_enum1 {v : Value} {o : Obj} {H : Heap → Prop} (B : Begins v o H) :
    Meets (Builtin.«enumerate.__new__» ⟨[.type "enumerate", v], []⟩) (fun _ R s => H s.heap ∧
      R (.ok (.ret (.ref (s.heap.push o).objs.size))) { s with heap := (s.heap.push o).push { cls := .type "enumerate", data := .fields #[.none, .bool false, .ref s.heap.objs.size, rawInt 0, .none, .none] } }) :=
  .of_wp fun prog w A R s h => by
    obtain ⟨hp, g, d, tk, os⟩ := s; obtain ⟨h1, h⟩ := h
    have hsub := sub_enumerate
    have q1 : ∀ {A' : Around} {E : Value → Shared → Prop} {Q : Value → Shared → Prop}, Q (.ref hp.objs.size) ⟨hp.push o, g, d, tk, os⟩ → wpAny (model prog w) A' (pyIter v) Q E ⟨hp, g, d, tk, os⟩ :=
      fun q => B.iter prog w _ _ ⟨hp, g, d, tk, os⟩ _ h1 q
    wp_walk using q1
    refine wpAny_stack_any fun st => wpAny_pure ?_
    split
    · rename_i c _ _ _ _ _
      cases (c == Value.type "enumerate")
      · wp_walk using q1
        exact ⟨_, rfl, h⟩
      · wp_walk using q1
        exact ⟨_, rfl, h⟩
    · wp_walk using q1
      exact ⟨_, rfl, h⟩
theorem sm_enum_begins {prog : Program} {w : World} {A : Around} {E : Value → Shared → Prop} {s : Shared} {v : Value} {o : Obj} {H : Heap → Prop} {Q : Value → Shared → Prop} (B : Begins v o H) (h1 : H s.heap)
    (h : ∀ h', IsEnum h' (s.heap.objs.size + 1) s.heap.objs.size 0 .none → h'.get? s.heap.objs.size = some o → h'.objs.size = s.heap.objs.size + 2 →
      (∀ b o, s.heap.get? b = some o → h'.get? b = some o) → Q (.ref (s.heap.objs.size + 1)) { s with heap := h' }) :
    wpAny (model prog w) A (call (.type "enumerate") [v]) Q E s := by
  refine callType_new F.called_enumerate (by decide) (F.typeCall_enumerate_1 _) (F.newCall_enumerate_1 _) (fun obj => F.args_object_init_2 obj _) F.entry_enumerate_new
    (sm_meets_enum1 B) ⟨h1, ?_⟩
  have hz : (s.heap.push o).objs.size = s.heap.objs.size + 1 := Heap.size_push ..
  show _ ∧ _
  rw [hz]
  have he : IsEnum ((s.heap.push o).push { cls := .type "enumerate", data := .fields #[.none, .bool false, .ref s.heap.objs.size, rawInt 0, .none, .none] }) (s.heap.objs.size + 1) s.heap.objs.size 0 .none := by
    have := Heap.get?_push_size (s.heap.push o) (o := { cls := .type "enumerate", data := .fields #[.none, .bool false, .ref s.heap.objs.size, rawInt 0, .none, .none] }) rfl
    rw [hz] at this; exact this
  refine ⟨⟨_, he, rfl⟩, h _ he (Heap.get?_push_of_some _ (Heap.get?_push_size _ B.free)) (by rw [Heap.size_push, hz]) fun b o x => Heap.get?_push_of_some _ (Heap.get?_push_of_some _ x)⟩
theorem pyNext_enum_end_tup {prog : Program} {w : World} {A : Around} {E : Value → Shared → Prop} {s : Shared} {e it t : Addr} {i : Nat} {items : Array Value} {k : Int} {old : Value} {Q : Option Value → Shared → Prop} (hh : A.handled = none)
    (he : IsEnum s.heap e it k old) (hit : s.heap.IsTupleIter it t i) (hl : s.heap.IsTuple t items) (hx : items[i]? = none)
    (hQ : ∀ h', Heap.ExtBut it s.heap h' → Q none { s with heap := h' }) : wpAny (model prog w) A (pyNext (.ref e)) Q E s := by
  have hT : s.TypeIs (.ref e) "enumerate" := ⟨_, he, rfl⟩
  unfold pyNext
  refine wpAny_bind (wpAny_attempt (wpAny_callSpecial?_slot (name := Str.ofString "__next__") hT F.slot_enumerate_next
    (wpAny_call_entry F.slot_enumerate_next hT F.entry_enumerate_next ?_ (F.args_enumerate_next_1 _))))
  show wpAny _ _ (field (.ref e) 2 >>= _) _ _ _
  refine wpAny_bind (wpAny_field he rfl (x := .ref it) rfl ?_)
  refine wpAny_bind (wpAny_nextOf_tuple_end hh hit hl hx fun h' x he' hx' => ?_)
  obtain ⟨o, ho, hc⟩ := hx'
  refine wpAny_bind (wpAny_isInstance (T := "StopIteration") (b := true) ⟨o, ho, hc⟩ isSubtype_stop ?_)
  exact wpAny_pure (hQ _ he')
end PySem
namespace Sm
open PySem PySem.Spec PyProof.Rows L2
variable {F : F} {pos : Pos}
noncomputable def IteT (K : PySem.W.Frag) (a : Addr) : It :=
  ⟨fun i H => ∃ (xs : List V) (x : V), SqT K H a xs ∧ xs[i]? = some x, fun i H v H' => ∃ T x, v = .ref T ∧ H T = none ∧ H' = upd H T (.tup [.int (i : Nat), x]) ∧ ∀ xs, SqT K H a xs → xs[i]? = some x, fun i H => ∃ xs : List V, SqT K H a xs ∧ xs.length ≤ i⟩
theorem turn_enumT {P : Program} {w : World} {K : PySem.W.Frag} {elts : List Expr} {kk : Nat} {tpos : Pos} (a e it : Addr) :
    Turn P w K (.Tuple elts kk tpos) (IteT K a) [e, it] e (fun i h => (∃ old, IsEnum h e it ((i : Nat) : Int) old) ∧ h.IsTupleIter it a i ∧ e ≠ it) where
  mem := by simp
  obj := fun i h st b hb => by
    obtain ⟨⟨old, he⟩, ⟨o, ho, hc, hd⟩, _⟩ := st
    have e' : b = e ∨ b = it := by simpa using hb
    rcases e' with z | z
    · rw [z]; exact ⟨_, he, fun v q => nomatch q⟩
    · rw [z]; exact ⟨o, ho, fun v q => by rw [hd] at q; cases q⟩
  keep := fun i h h' st k => let ⟨⟨old, he⟩, hi, hne⟩ := st; ⟨⟨old, k e (by simp) _ he⟩, hi.at fun o q => k it (by simp) o q, hne⟩
  item := by
    intro X hP hw hK hc i pins s σ H E I hf st hg
    subst hP hw hK
    obtain ⟨⟨old, he⟩, hit, hne⟩ := st
    obtain ⟨xs, x, hq, hx⟩ := hg
    obtain ⟨its, rv, p, hz⟩ := I.tuple hq
    obtain ⟨u, hu, ru⟩ := rv.get hx
    have hel : e < s.heap.objs.size := Heap.lt_size he
    have hil : it < s.heap.objs.size := by obtain ⟨_, q, _⟩ := hit; exact Heap.lt_size q
    have hlt : i < its.toArray.size := by rw [List.size_toArray]; exact (List.getElem?_eq_some_iff.mp hu).1
    obtain ⟨oa, hoa, hca, na, hda⟩ := p
    have hea : e ≠ a := by
      intro z; subst z
      rw [he] at hoa; cases hoa; simp at hca
    have hai : a ≠ it := by
      intro z; subst z
      obtain ⟨o1, h1, h2, _⟩ := id hit
      rw [hoa] at h1; cases h1; rw [hca] at h2; simp at h2
    have D := Draws.tuple (prog := X.prog) (w := X.w) (A := X.A.in1) (I.ok.hd hc) it a hai its.toArray
    refine wpAny_pyNext_enum_itemD (i := i) D he ⟨hit, ⟨oa, hoa, hca, na, hda⟩⟩ hlt hne (by simp [hne, hea]) fun y h' tk hy ho hst' hT hsz hk => ?_
    have ey : u = y := by
      have z : its.toArray[i]? = some y := hy
      rw [List.getElem?_toArray, hu] at z
      exact Option.some.inj z
    subst ey
    refine ⟨_, rfl, wpAny_letOwnedTupleGo_enum (s := { s with heap := h', toks := tk + 1 }) ho fun h'' he' sb => ?_⟩
    have hT2 : h''.get? s.heap.objs.size = some { cls := .type "tuple", data := .seq #[.int i tk, u] } := (sb.2 _ (Nat.ne_of_gt hel)).trans hT
    have new : ObjOk X.prog X.w (upd H s.heap.objs.size (.tup [.int (i : Nat), x])) h'' s.heap.objs.size (.tup [.int (i : Nat), x]) :=
      ⟨by show 2 ≤ sizeLine; decide, [.int i tk, u], .cons ⟨_, rfl⟩ (.cons ru .nil), ⟨_, hT2, rfl, _, rfl⟩⟩
    have I1 : L2.Inv X pins σ (upd H s.heap.objs.size (.tup [.int (i : Nat), x])) { s with heap := h'', toks := tk + 1 } :=
      Inv.turnedNew (ch := [e, it]) I (fun b ob hb q => (sb.2 b (fun z => hb (by simp [z]))).trans (hk b ob (fun z => hb (by simp [z])) (fun z => hb (by simp [z])) q)) hf (Nat.le_refl _) new
    refine ⟨.ref s.heap.objs.size, _, I1, rfl, ⟨_, x, rfl, I.hok.fresh (Nat.le_refl _), rfl, fun ys hy => by rw [I.tuple_inj hy hq]; exact hx⟩, ⟨⟨u, ?_⟩, hst'.1.at fun o q => (sb.2 it (Ne.symm hne)).trans q, hne⟩, fun b hb => ?_⟩
    · have e1 : ((i + 1 : Nat) : Int) = (i : Int) + 1 := by omega
      rw [e1]; exact he'
    · have hb' : b < s.heap.objs.size := by
        have e' : b = e ∨ b = it := by simpa using hb
        rcases e' with z | z
        · rw [z]; exact hel
        · rw [z]; exact hil
      rw [upd_ne (Nat.ne_of_lt hb')]
      exact (hf b hb).1
  done := by
    intro X hP hw hK hc i pins s σ H E I hf st hg
    subst hP hw hK
    obtain ⟨⟨old, he⟩, hit, hne⟩ := st
    obtain ⟨xs, hq, hx⟩ := hg
    obtain ⟨its, rv, p, hz⟩ := I.tuple hq
    obtain ⟨f0, f1, f2, f3, f4, f5⟩ := hf it (by simp)
    have hl := rv.length
    obtain ⟨oa, hoa, hca, na, hda⟩ := p
    refine pyNext_enum_end_tup (I.ok.hd hc) he hit ⟨oa, hoa, hca, na, hda⟩ (by rw [List.getElem?_toArray]; exact List.getElem?_eq_none_iff.mpr (by omega)) fun h' eb => ⟨rfl, Inv.turned (t' := s.toks) I (fun b o hb q => eb b o hb q) f0 f1 f3 f4 f5⟩
  self := fun A i s Q E st h => let ⟨⟨_, he⟩, _⟩ := st; wpAny_pyIter_enum he h
noncomputable def iEnumT (K : PySem.W.Frag) (ta : TA) : TI := fun σ H R => ta σ H fun vs H1 => ∃ a xs, vs = [.ref a] ∧ SqT K H1 a xs ∧ R (IteT K a) H1
theorem pi_enumT {X : Cx} {e : Expr} {ta : TA} {p pos tpos : Pos} {elts : List Expr} {kk : Nat} (hg : Gl X "enumerate") (hm : X.mg "enumerate" = none) (ha : PA X [e] ta) (hs : starEach [e] X.env = [(false, eval e X.env)] := by rfl) :
    PI X (.Tuple elts kk tpos) (.Call (.Name "enumerate" p) [e] [] pos) (iEnumT X.K ta) := by
  refine ⟨fun pins s σ H R I h => ?_⟩
  refine Call_ (ld_blt I hg hm boot_enumerate (PyProof.Rows.callWith_type1 (thn (ha.run pos pins s σ H _ I h) fun us s1 ⟨vs, H1, I1, r1, q1⟩ => ?_) hs rfl))
  obtain ⟨a, xs, ex, hq, q⟩ := q1
  subst ex
  cases r1 with
  | cons r rr =>
    cases rr
    cases r
    obtain ⟨its, rv, p', hz⟩ := I1.tuple hq
    refine sm_enum_begins (begins_tuple a its.toArray) p' fun h' he hit hsz hk => wpAny_pyIter_enum he ?_
    have I2 : L2.Inv X pins σ H1 { s1 with heap := h' } := I1.kept (t' := s1.toks) hk
    refine ⟨s1.heap.objs.size + 1, [s1.heap.objs.size + 1, s1.heap.objs.size], _, _, H1, rfl, I2, turn_enumT a (s1.heap.objs.size + 1) s1.heap.objs.size, ⟨⟨.none, he⟩, ⟨_, hit, rfl, rfl⟩, Nat.succ_ne_self _⟩, fun b hb => ?_, q⟩
    have e' : b = s1.heap.objs.size + 1 ∨ b = s1.heap.objs.size := by simpa using hb
    have hle : s1.heap.objs.size ≤ b := by
      rcases e' with z | z
      · rw [z]; exact Nat.le_add_right _ _
      · rw [z]; exact Nat.le_refl _
    exact I1.fpOk hle (I1.hok.fresh hle)
theorem wk_enumT {g : G} {H : Hp} {m : List Addr} {ds : List D} {vs : List V} {p : Addr} (h : PTu H m p vs ∨ KTup g.K p vs) (r : DVs g H m ds vs) : rI g H m (.fix (enumD 0 ds)) (IteT g.K p) := by
  refine ⟨?_, fun z => by rw [show (IT.fix (enumD 0 ds)).size = (enumD 0 ds).length from rfl, enumD_length, r.length]; exact z p vs (.inl (SqT.gr (Gr.refl _ _).w h))⟩
  intro i m1 H1 A a rh o e
  have e : some (enumD 0 ds)[i]? = some o := e
  cases e
  rw [enumD_get]
  have s := SqT.gr a.w h
  have r1 := r.monoW a.w
  cases hd : ds[i]? with
  | none => exact ⟨vs, s, by rw [← r.length]; exact List.getElem?_eq_none_iff.mp hd⟩
  | some d =>
    obtain ⟨v, hv, dv⟩ := r1.get hd
    refine ⟨⟨vs, v, s, hv⟩, fun x H' y => ?_⟩
    obtain ⟨T, w, rfl, hT, rfl, y⟩ := y
    have := y vs s
    rw [hv] at this; cases this
    have gr : Gr m1 m1 H1 (upd H1 T (.tup [.int (i : Nat), v])) := Gr.new hT
    refine ⟨fun q u hq => by rw [upd_ne (fun e => by rw [e, hT] at hq; cases hq)]; exact hq, gr, ?_⟩
    have e0 : ((0 + i : Nat) : Int) = (i : Nat) := by simp
    rw [e0]
    exact .wtp upd_same (rh.new hT) (.cons (.int _) (.cons (dv.mono gr) .nil))
noncomputable def iEnumX (ca : CA) : CI := fun E A => (ca E A).bind fun ds A1 => match ds with
  | [.tup xs] => .ok (.fix (enumD 0 xs)) A1
  | [.lst xs] => .ok (.fix (enumD 0 xs)) A1
  | _ => .no
theorem ji_enumX {e : Expr} {ca : CA} {p tpos : Pos} {elts : List Expr} {kk : Nat} (hg : Gls F.scope "enumerate") (hm : F.g.mg "enumerate" = none) (ha : JA F [e] ca) (hs : ∀ X : Cx, starEach [e] X.env = [(false, eval e X.env)] := by intro _; rfl) :
    JI F (.Tuple elts kk tpos) (.Call (.Name "enumerate" p) [e] [] pos) (iEnumX ca) := by
  intro W X ok
  have h := PI.or (pi_enumT (pos := pos) (p := p) (tpos := tpos) (elts := elts) (kk := kk) (ok.gl hg) (by rw [ok.mg]; exact hm) (ha W X ok) (hs X)) (pi_enum (pos := pos) (p := p) (tpos := tpos) (elts := elts) (kk := kk) (ok.gl hg) (by rw [ok.mg]; exact hm) (ha W X ok) (hs X))
  rw [ok.K] at h
  refine PI.imp h ?_
  rintro σ H Q ⟨m, E, A, rh, rs, q⟩
  unfold iEnumX at q
  cases hca : ca E A with
  | exc => rw [hca] at q; exact .inl ⟨m, E, A, rh, rs, by rw [hca]; exact q⟩
  | no => rw [hca] at q; exact q.elim
  | ok ds A1 =>
    rw [hca] at q
    simp only [R.bind] at q
    split at q
    · refine .inl ⟨m, E, A, rh, rs, ?_⟩
      rw [hca]
      intro m1 vs H1 g1 rh1 dx
      obtain ⟨v, rfl, dv⟩ := DVs.one dx
      cases dv with
      | tup h hs => exact ⟨_, _, rfl, SqT.gr (Gr.refl _ _).w h, Po.ok (Po.from g1 q) rh1 (wk_enumT h hs)⟩
    · refine .inr ⟨m, E, A, rh, rs, ?_⟩
      rw [hca]
      intro m1 vs H1 g1 rh1 dx
      obtain ⟨v, rfl, dv⟩ := DVs.one dx
      cases dv with
      | lst h hs => exact ⟨_, _, rfl, sqL_of h, Po.ok (Po.from g1 q) rh1 (wk_enum h hs)⟩
    · exact q.elim
end Sm
end
section
set_option autoImplicit false
namespace Sm
open PySem PySem.Spec PyProof.Rows L2
noncomputable def pSortedX : PF := fun ds A => match ds with
  | [d] => match ttOf A d with
    | some (_, _, kv :: r) => match sortPs A ((kv :: r).map (·.1)) with
      | some qs => .ok (.lst (ofPys qs)) A
      | none => .no
    | _ => pSorted [d] A
  | _ => .no
/-- the keys, as they stand -/
theorem kyr_keys {g : G} {H : Hp} {m : List Addr} : ∀ {kvs : List (D × D)} {ys : List (List Key × Addr × Value)}, KYR g H m kvs ys → DVs g H m (kvs.map (·.1)) (ys.map fun y => V.ref y.2.1) := by
  intro kvs ys r
  unfold KYR at r
  induction r with
  | nil => exact .nil
  | cons h t ih => exact .cons h.2.1 ih
theorem callF_sortedX {g : G} : CallF g (.builtin "sorted") pSortedX := by
  intro F W X e ok pins s σ H m A ds vs us Q I rh dv r q
  have hK : X.K = g.K := ok.K.trans (congrArg G.K e)
  have hP : X.prog = g.prog := ok.prog.trans (congrArg G.prog e)
  have hw : X.w = g.w := ok.w.trans (congrArg G.w e)
  unfold pSortedX at q
  split at q
  · rename_i d
    obtain ⟨v, rfl, dv1⟩ := dv.one
    split at q
    · rename_i a lk kv rr ht
      split at q
      · rename_i qs hq
        obtain ⟨p, ys, rfl, _, hsys, hz, dd, kr, _⟩ := tt_read hK hP hw I rh dv1 ht
        obtain ⟨es, ep, ⟨o, ho, hx, hd⟩, hsz, hkey⟩ := Heap.DictOfH.raw dd
        obtain ⟨ps, h1, h2, h3, h4, h5, h6⟩ := sortPs_eq hq
        have hlen : ys.length = (kv :: rr).length := (Paired.length (show Paired _ (kv :: rr) ys from kr)).symm
        rw [Vals.ref1 r]
        have hu : X.A.units + 200 < cLine := by have := ok.room.un; omega
        have hd32 : ∀ p ∈ ps, p.depth ≤ 32 := by
          have := depthAll_le (n := 32) (fun d p e => toPy_depth A 32 d p e) ((kv :: rr).map (·.1)) ps h1
          exact fun p hp => Nat.le_trans (dpt_mem hp) this
        refine ep_frz ?_
        refine Calls.call_function_entry PyProof.Rows.kind_sorted PyProof.Rows.plain_sorted PyProof.Rows.entry_sorted (PyProof.Rows.args_sorted1 _) ?_
        unfold Builtin.«sorted»
        refine wpAny_bind (m := checkCount "sorted" 1 1 _) (wpAny_pure ?_)
        refine wpAny_bind (PySem.W.kdu_collect (A := X.A.in1) (kdl_raw (prog := X.prog) (w := X.w) hsys hx hd) (I.ok.hd ok.calm) ho (by rw [hsz, hlen]; exact hz) fun h' tk acc hk hacc => ?_)
        have hal : acc.toList = ys.map fun y => Value.ref y.2.1 := by
          refine List.ext_getElem? fun j => ?_
          rw [List.getElem?_map]
          by_cases hj : j < es.size
          · have hja : j < acc.size := by rw [hacc.1]; exact hj
            obtain ⟨y, e1, e2, _⟩ := hkey j hj
            obtain ⟨en, e3, e4⟩ := hacc.2 j _ (Array.getElem?_eq_getElem hja)
            rw [Array.getElem?_eq_getElem hj] at e3
            cases e3
            rw [e1, Array.getElem?_toList, Array.getElem?_eq_getElem hja, e4, e2]
            rfl
          · rw [List.getElem?_eq_none (by rw [Array.length_toList, hacc.1]; omega), List.getElem?_eq_none (by omega)]
            rfl
        have I1 : Inv X pins σ H { s with heap := h', toks := tk } := I.kept hk
        have rv : Vals (ys.map fun y => V.ref y.2.1) acc.toList := by
          have e1 : (ys.map fun y => V.ref y.2.1) = (ys.map fun y => y.2.1).map V.ref := by rw [List.map_map]; rfl
          have e2 : (ys.map fun y => Value.ref y.2.1) = (ys.map fun y => y.2.1).map Value.ref := by rw [List.map_map]; rfl
          rw [hal, e1, e2]
          exact vals_refs _
        obtain ⟨e1, e2⟩ := each_of hK I1 rh h1 h3 (kyr_keys kr) rv
        have hps : acc.toList.length = ps.length := e1.length
        refine wpAny_bind (wpAny_newList ?_ (by rw [hps]; exact h2))
        have hoL : (h'.push (seqObj "list" acc.toList.toArray 0)).get? h'.objs.size = some (seqObj "list" acc.toList.toArray 0) := Heap.get?_push_size _ rfl
        show wpAny _ _ _ _ _ { s with heap := h'.push (seqObj "list" acc.toList.toArray 0), toks := tk }
        have er : PySem.W.EachIs (fun v b => ∃ as, Reads (PySem.W.sortingHeap (h'.push (seqObj "list" acc.toList.toArray 0)) h'.objs.size acc.toList) v b as) acc.toList ps :=
          e2.mono fun _ _ ⟨as, r⟩ => ⟨as, PyProof.Rows.Reads.keeps (fun b ob q => PySem.W.sortingHeap_old (Nat.ne_of_lt (Heap.lt_size q)) (Heap.get?_push_of_some _ q)) r⟩
        refine wpAny_bind (wpAny_holding (wpAny_call_entry PyProof.Rows.slot_list_sort ⟨_, hoL, rfl⟩ PyProof.Rows.entry_list_sort
          (PySem.W.list_sort_vals (s := { s with heap := h'.push (seqObj "list" acc.toList.toArray 0), toks := tk }) hoL
            (PySem.W.SortsAt.data (s := { s with heap := PySem.W.sortingHeap (h'.push (seqObj "list" acc.toList.toArray 0)) h'.objs.size acc.toList, toks := tk }) er h4 h5 (fun b hb => by have := hd32 b hb; show X.A.units + 1 + 1 + b.depth < cLine; omega)) (by rw [hps]; exact h2) ⟨_, rfl, ?_⟩)
          (PyProof.Rows.args_list_sort _)))
        have hout := PySem.W.sortVals_data (enc := fun p => p) false e1 er (by simpa using h4)
        simp only [List.map_id_fun', id_eq] at hout
        rw [h6] at hout
        generalize hov : PySem.W.sortVals (PySem.W.dataKind (PySem.W.sortingHeap (h'.push (seqObj "list" acc.toList.toArray 0)) h'.objs.size acc.toList) ps) false acc.toList acc.toList = out at hout
        obtain ⟨vs', k1, k2⟩ := dvs_back hout
        have hol : out.length = ps.length := by rw [← hov, PySem.W.sortVals_length false rfl]; exact hps
        obtain ⟨e', he'⟩ := PyProof.Rows.sortedHeap_at (vs := acc.toList) (out := out.toArray) hoL
        have hn : H h'.objs.size = none := I1.hok.fresh (Nat.le_refl _)
        have hlen' : vs'.length ≤ sizeLine := by rw [k1.length, hol]; exact h2
        refine wpAny_pure ⟨_, rfl, .ref h'.objs.size, upd H h'.objs.size (.lst vs'), I1.laid (t' := tk) (fun b u e => ?_) (Nat.le_refl _)
          (show ObjOk X.prog X.w _ _ _ (.lst vs') from ⟨hlen', out, e', k1, by simpa [hov] using he'⟩), rfl, _, vs', rfl, upd_same, fun o => ?_⟩
        · have hb : b < h'.objs.size := Heap.lt_size e
          rw [PyProof.Rows.sortedHeap_old (Nat.ne_of_lt hb) (by rw [size_push']; exact Nat.lt_succ_of_lt hb)]
          exact Heap.get?_push_of_some _ e
        · rw [upd_upd]
          exact Po.ok' q (Gr.new hn) (rh.upd hn) (.lst (.inl ⟨o, upd_same, rh.new hn⟩) (k2.mono (Gr.new hn)))
      · exact q.elim
    · exact callF_sorted F W X e ok pins s σ H m A _ _ us Q I rh dv r q
  · exact q.elim
end Sm
end
section
set_option autoImplicit false
namespace Sm
open PySem PySem.Spec PyProof.Rows L2
variable {F : F} {pos : Pos}
/-- a code that is one of two -/
theorem JE.or {e : Expr} {c c1 c2 : CE} (h1 : JE F e c1) (h2 : JE F e c2) (h : ∀ E A, c E A = c1 E A ∨ c E A = c2 E A) : JE F e c := by
  intro W X ok
  refine ⟨fun pins s σ H Q I q => ?_⟩
  obtain ⟨m, E, A, rh, rs, q⟩ := q
  rcases h E A with z | z
  · exact (h1 W X ok).run pins s σ H Q I ⟨m, E, A, rh, rs, by rw [← z]; exact q⟩
  · exact (h2 W X ok).run pins s σ H Q I ⟨m, E, A, rh, rs, by rw [← z]; exact q⟩
/-- what stands at a tuple-key dict, open or locked -/
noncomputable def TtAt (P : Program) (w : World) (H : Hp) (a : Addr) (xs : XsT) : Prop := H a = some (DTO P w a xs) ∨ ∃ o, H a = some (.frz o (DTO P w a xs))
theorem TtAt.mono {P : Program} {w : World} {H : Hp} {a p : Addr} {u : HO} {xs : XsT} (h : TtAt P w H a xs) (hp : H p = none) : TtAt P w (upd H p u) a xs := by
  rcases h with h | ⟨o, h⟩
  · exact .inl (by rw [upd_ne (ne_of_none h hp)]; exact h)
  · exact .inr ⟨o, by rw [upd_ne (ne_of_none h hp)]; exact h⟩
end Sm
end
section
set_option autoImplicit false
namespace Sm
open PySem PySem.Spec PyProof.Rows L2
open PySem.Froz (SD sObj tailTx addTx TxOk add_ok is_str)
/-- the table of a set's payload rises and is told -/
noncomputable def TRis (w : World) (D : SD) : Prop := Ris D.2.2.place.toList ∧ (w.params.followText "set-order" = true ∨ D.2.2.led = true)
theorem addTx_ris {w : World} {h : Int} {v : Value} {D : SD} (r : TRis w D) : TRis w (addTx h v D) := by
  obtain ⟨es, ep, t⟩ := D
  obtain ⟨r1, r2⟩ := r
  have n1 : Ris (layNew t es h v).2.1.place.toList := layNew_ris t es h v r1
  have n2 : (layNew t es h v).2.1.led = t.led := layNew_led t es h v
  unfold addTx tailTx TRis
  dsimp only
  generalize layNew t es h v = Z at n1 n2
  obtain ⟨es1, t1, wd, gv⟩ := Z
  dsimp only at n1 n2 ⊢
  have m1 : Ris (if t1.plain = true then { t1 with plain := false } else t1).place.toList := by split <;> exact n1
  have m2 : (if t1.plain = true then { t1 with plain := false } else t1).led = t.led := by split <;> exact n2
  generalize (if t1.plain = true then { t1 with plain := false } else t1) = t2 at m1 m2
  split
  · exact ⟨relayAll_ris t2 es1 _, r2.imp id fun z => by rw [show (relayAll t2 es1 (SetTable.grown es1.size)).2.1.led = t2.led from relayAll_led t2 es1 _, m2]; exact z⟩
  · exact ⟨m1, r2.imp id fun z => by rw [show t2.led = t.led from m2]; exact z⟩
/-- at a stands a set of the texts l -/
noncomputable def TxS (P : Program) (w : World) (h : Heap) (a : Addr) (l : List Str) : Prop := ∃ D : SD, h.get? a = some (sObj "set" D) ∧ TxOk P w D l ∧ TRis w D
theorem TxS.at {P : Program} {w : World} {h h' : Heap} {a : Addr} {l : List Str} (R : TxS P w h a l) (k : ∀ o, h.get? a = some o → h'.get? a = some o) : TxS P w h' a l := by
  obtain ⟨D, ho, r⟩ := R
  exact ⟨D, k _ ho, r⟩
noncomputable def memS (k : Str) : List Str → Bool
  | [] => false
  | x :: r => match strDec k x with
    | .isTrue _ => true
    | .isFalse _ => memS k r
theorem memS_iff {k : Str} : ∀ {l : List Str}, memS k l = true ↔ k ∈ l
  | [] => by simp [memS]
  | x :: r => by
    unfold memS
    cases hd : strDec k x with
    | isTrue h => simp [h]
    | isFalse h => dsimp only; rw [memS_iff (l := r)]; simp [h]
noncomputable def addS (l : List Str) (k : Str) : List Str := if memS k l = true then l else k :: l
/-- each text once, the last one first -/
noncomputable def setS (xs : List Str) : List Str := xs.foldl addS []
theorem addS_len {l : List Str} {k : Str} : (addS l k).length ≤ l.length + 1 := by unfold addS; split <;> simp
section
variable {P : Program} {w : World} {A : Around} {E : Value → Shared → Prop} {s : Shared}
theorem had_x {a : Addr} {D : SD} {l : List Str} {k : Str} {u : Tok} {Q : Bool → Shared → Prop} (ho : s.heap.get? a = some (sObj "set" D)) (F : TxOk P w D l) (hk : k ∈ l) (hb : l.length < scanBound) (h : Q false s) :
    wpAny (model P w) A (setAddHashed a (.str k u) (hashStr w k)) Q E s := by
  obtain ⟨es, ep, t⟩ := D
  have hd : (sObj "set" (es, ep, t)).data = .set es ep t := rfl
  have hf : t.fits es.size = true := F.fit
  have hel : ElemsOf (PySem.strKind P w) es.toList := F.el
  have hsz : es.size = l.length := F.sz
  have hkey : (PySem.strKind P w).is k (.str k u) = true := is_str k u
  unfold setAddHashed setAddHashedIn
  refine wpAny_holding (wpAny_bind (wpAny_setState_of ho hd hf ?_))
  dsimp only
  rw [byScan_of rfl (by omega) hel]
  simp only [↓reduceIte]
  unfold setAddByScan
  refine wpAny_bind (wpAny_bind (wpAny_rule (wpAny_bind (wpAny_setScan_of (knd := PySem.strKind P w) (k := k) hkey ho hd hf hel ?_))))
  cases hr : List.findIdx? (fun e => (PySem.strKind P w).is k e.2) es.toList with
  | none =>
    obtain ⟨e, he, q⟩ := (F.mem k).mp hk
    have c := List.findIdx?_eq_none_iff.mp hr e he
    rw [q] at c
    cases c
  | some j => exact wpAny_pure (wpAny_pure h)
/-- a text into the set -/
theorem txS_add {a : Addr} {l : List Str} {k : Str} {u : Tok} {Q : Bool → Shared → Prop} (R : TxS P w s.heap a l) (hb : l.length + 1 < scanBound)
    (h : ∀ (h' : Heap) (b : Bool), Heap.SameBut a s.heap h' → TxS P w h' a (addS l k) → Q b { s with heap := h' }) : wpAny (model P w) A (setAddHashed a (.str k u) ((PySem.strKind P w).hash k)) Q E s := by
  obtain ⟨D, ho, F, r⟩ := R
  show wpAny (model P w) A (setAddHashed a (.str k u) (hashStr w k)) Q E s
  cases hm : memS k l with
  | true =>
    refine had_x ho F (memS_iff.mp hm) (by omega) ?_
    exact h s.heap false (Heap.SameBut.refl a s.heap) ⟨D, ho, by unfold addS; rw [if_pos hm]; exact F, r⟩
  | false =>
    have hn : k ∉ l := fun z => by rw [memS_iff.mpr z] at hm; cases hm
    refine PySem.Froz.add_x ho F hn hb ?_
    have e : addS l k = k :: l := by unfold addS; rw [if_neg (by rw [hm]; exact Bool.false_ne_true)]
    refine h _ true (Heap.SameBut.update s.heap a _) ⟨_, PySem.Froz.get_upd _ ho rfl, by rw [e]; exact add_ok u F, addTx_ris r⟩
theorem txS_loop {I : Addr} {fp wr : List Addr} {G : Array GenState → Array GenState → Prop} {n : Nat} {Pv : Nat → Value → Prop} {St : Nat → Shared → Prop} {R : Result → Shared → Prop}
    (W : WalksS P w A.in1 I fp wr G n Pv St) (S : Addr) (hSf : S ∉ fp) (hval : ∀ i v, Pv i v → ∃ k t, v = .str k t) : ∀ (xs : List Str) (i : Nat) (l : List Str) (s : Shared), i + xs.length = n → St i s → TxS P w s.heap S l → l.length + xs.length + 1 < scanBound →
      (∀ j v k, Pv (i + j) v → xs[j]? = some k → ∃ t, v = .str k t) →
      (∀ s', Moved (S :: wr) G s s' → TxS P w s'.heap S (xs.foldl addS l) → R (.ok (.ret .none)) s') → codeAny (model P w) A (.builtin "set.update.loop" ⟨[.ref S, .ref I], []⟩) R s
  | [], i, l, s, hk, hst, hS, _, _, hR => by
    have hin : i = n := by simpa using hk
    subst hin
    refine codeAny_builtin F.entry_set_update_loop ?_
    rw [Around.under_plainId F.plain_set_update_loop _]
    show wpAny _ A.in1 (pyNext (.ref I) >>= _) _ _ s
    refine wpAny_bind (W.done s _ _ hst fun s' hm => ?_)
    show wpAny _ A.in1 (ret Value.none) _ _ s'
    exact wpAny_pure (hR s' (hm.mono fun b hb => List.mem_cons_of_mem _ hb) (hS.at fun o e => hm.heap S o (fun h => hSf (W.sub _ h)) e))
  | k :: xs, i, l, s, hk, hst, hS, hb, hv, hR => by
    have hk : i + (xs.length + 1) = n := hk
    have hb : l.length + (xs.length + 1) + 1 < scanBound := hb
    refine codeAny_builtin F.entry_set_update_loop ?_
    rw [Around.under_plainId F.plain_set_update_loop _]
    show wpAny _ A.in1 (pyNext (.ref I) >>= _) _ _ s
    refine wpAny_bind (W.item i s _ _ (by omega) hst fun v s' hP hst' hm => ?_)
    obtain ⟨t, rfl⟩ := hv 0 v k hP rfl
    have hS' : TxS P w s'.heap S l := hS.at fun o e => hm.heap S o (fun h => hSf (W.sub _ h)) e
    show wpAny _ A.in1 (holding [Value.str k t] (setAdd S (.str k t)) >>= _) _ _ s'
    refine wpAny_bind (wpAny_holding ?_)
    unfold setAdd
    refine wpAny_holding (wpAny_bind ((PySem.strKind P w).pyHash (k := k) (is_str _ _) ?_))
    refine txS_add (s := { s' with toks := s'.toks + 1 }) hS' (by omega) fun h' b sb hS2 => ?_
    refine wpAny_pure ⟨plainId_quiet F.plain_set_update_loop _, txS_loop W S hSf hval xs (i + 1) (addS l k) _ (by omega) (W.frame _ s' _ _ hst' (Nat.le_succ _) fun b hb o e => ?_) hS2 (by have := addS_len (l := l) (k := k); omega) (fun j v k2 hp hj => hv (j + 1) v k2 (by rw [show i + (j + 1) = i + 1 + j by omega]; exact hp) hj) fun s2 hm2 hS3 => ?_⟩
    · rw [sb.2 b fun h => hSf (h ▸ hb)]; exact e
    · refine hR s2 (Moved.trans W.gtrans ((hm.mono fun b hb => List.mem_cons_of_mem _ hb).then_heap (Nat.le_succ _) fun b o hb e => ?_) hm2) hS3
      rw [sb.2 b fun h => hb (h ▸ List.mem_cons_self)]; exact e
theorem txS_new {h : Heap} {a : Addr} (ho : h.get? a = some (newSetO w)) : TxS P w h a [] := by
  refine ⟨(#[], 0, .fresh 0 0 (!w.params.followText "set-order")), ho, .nil rfl, List.Pairwise.nil, ?_⟩
  show _ ∨ (!w.params.followText "set-order") = true
  cases w.params.followText "set-order"
  · exact .inr rfl
  · exact .inl rfl
/-- set(xs) of a list of texts -/
theorem call_set_txts {l : Addr} {items : Array Value} (xs : List Str) {Q : Value → Shared → Prop} (hh : A.handled = none) (hl : s.heap.IsList l items) (hit : StrsAre items.toList xs) (hb : xs.length + 1 < scanBound)
    (h : ∀ (h' : Heap) (tk : Nat), TxS P w h' s.heap.objs.size (setS xs) → (∀ b o, s.heap.get? b = some o → h'.get? b = some o) → Q (.ref s.heap.objs.size) { s with heap := h', toks := tk }) :
    wpAny (model P w) A (call (.type "set") [.ref l]) Q E s := by
  refine set_of_list (Good := fun h' => TxS P w h' s.heap.objs.size (setS xs)) hh hl (fun A' R hA _ k => ?_) fun h' tk g kp => h h' tk g kp
  have hlS : l < s.heap.objs.size := by
    obtain ⟨o, e, _⟩ := hl
    exact Heap.lt_size e
  have hl1 : (s.heap.push (newSetO w)).IsList l items := hl.push _
  have hz : (s.heap.push (newSetO w)).objs.size = s.heap.objs.size + 1 := Heap.size_push ..
  have hneI : l ≠ (s.heap.push (newSetO w)).objs.size := by rw [hz]; exact Nat.ne_of_lt (Nat.lt_succ_of_lt hlS)
  have hSf : s.heap.objs.size ∉ [(s.heap.push (newSetO w)).objs.size, l] := by
    rw [hz]
    simp only [List.mem_cons, List.not_mem_nil, or_false, not_or]
    exact ⟨Nat.ne_of_lt (Nat.lt_succ_self _), Nat.ne_of_gt hlS⟩
  have hlen : items.size = xs.length := by rw [← Array.length_toList]; exact hit.length
  have hget : (loopHeap w s.heap l).get? s.heap.objs.size = some (newSetO w) := Heap.get?_push_of_some _ (Heap.get?_push_size _ rfl)
  have hv : ∀ (j : Nat) (v : Value) (k : Str), items[j]? = some v → xs[j]? = some k → ∃ t, v = .str k t := fun j v k h1 h2 => by
    have key : ∀ {vs : List Value} {ks : List Str}, StrsAre vs ks → ∀ j : Nat, vs[j]? = some v → ks[j]? = some k → ∃ t, v = .str k t := by
      intro vs ks q
      induction q with
      | nil => intro j e1; simp at e1
      | cons x t _ ih =>
        intro j e1 e2
        cases j with
        | zero => cases e1; cases e2; exact ⟨t, rfl⟩
        | succ j => exact ih j e1 e2
    exact key hit j (by rw [Array.getElem?_toList]; exact h1) h2
  refine txS_loop ((Walks.list (A := A'.in1) (by simp [hA]) _ l hneI items).toS) s.heap.objs.size hSf (fun i v e => ?_) xs 0 [] _ (by omega) ⟨⟨_, Heap.get?_push_size _ rfl, rfl, rfl⟩, (hl1.push _)⟩ (txS_new hget) (by simpa using hb) (fun j v k2 hp hj => hv j v k2 (by simpa using hp) hj) fun s' hm hS' => ?_
  · have hi : i < xs.length := by rw [← hlen]; exact (Array.getElem?_eq_some_iff.mp e).1
    obtain ⟨t, e2⟩ := hv i v _ e (List.getElem?_eq_getElem hi)
    exact ⟨_, t, e2⟩
  · refine k s' hm.gens hm.drawn hm.os hS' fun b o e => ?_
    have hb0 : b < s.heap.objs.size := Heap.lt_size e
    refine hm.heap b o ?_ (Heap.get?_push_of_some _ (Heap.get?_push_of_some _ e))
    simp only [List.mem_cons, List.not_mem_nil, or_false, not_or]
    rw [hz]
    exact ⟨Nat.ne_of_lt hb0, Nat.ne_of_lt (Nat.lt_succ_of_lt hb0)⟩
theorem perm_of_in {α : Type} : ∀ {l m : List α}, l.Nodup → (∀ x ∈ l, x ∈ m) → l.length = m.length → m.Perm l
  | [], m, _, _, e => by
    have : m = [] := List.length_eq_zero_iff.mp e.symm
    rw [this]
  | x :: r, m, nd, h, e => by
    obtain ⟨n1, n2⟩ := List.nodup_cons.mp nd
    obtain ⟨a, b, rfl⟩ := List.append_of_mem (h x List.mem_cons_self)
    refine List.perm_middle.trans (List.Perm.cons x (perm_of_in n2 (fun y hy => ?_) ?_))
    · have q := h y (List.mem_cons_of_mem _ hy)
      rcases List.mem_append.mp q with q | q
      · exact List.mem_append_left _ q
      · rcases List.mem_cons.mp q with q | q
        · exact absurd (q ▸ hy) n1
        · exact List.mem_append_right _ q
    · simp only [List.length_append, List.length_cons] at e ⊢
      omega
theorem addS_nodup {l : List Str} {k : Str} (h : l.Nodup) : (addS l k).Nodup := by
  unfold addS
  split
  · exact h
  · rename_i c
    exact List.nodup_cons.mpr ⟨fun z => c (memS_iff.mpr z), h⟩
theorem setS_nodup (xs : List Str) : (setS xs).Nodup := by
  have key : ∀ (xs l : List Str), l.Nodup → (xs.foldl addS l).Nodup := by
    intro xs
    induction xs with
    | nil => intro l h; exact h
    | cons x r ih => intro l h; exact ih _ (addS_nodup h)
  exact key xs [] .nil
/-- sorted(set(texts)): the texts, each once -/
theorem txS_sorted {a : Addr} {l : List Str} {Q : Value → Shared → Prop} (R : TxS P w s.heap a l) (hh : A.handled = none) (h64 : l.length < 64) (nd : l.Nodup)
    (hQ : ∀ s' p (out : Array Value) (c : Nat) (ys : List Str), (∀ b o, s.heap.get? b = some o → s'.heap.get? b = some o) → s'.gens = s.gens → s'.os = s.os → s.heap.objs.size ≤ p →
      s'.heap.get? p = some (seqObj "list" out c) → StrsAre out.toList ys → ys.Perm l → sortedS ys = true → Q (.ref p) s') :
    wpAny (model P w) A (call (.builtin "sorted") [.ref a]) Q E s := by
  obtain ⟨⟨es, ep, t⟩, ho, F, hr, hl⟩ := R
  have hf : t.fits es.size = true := F.fit
  have hsz : es.size = l.length := F.sz
  have hel : ElemsOf (PySem.strKind P w) es.toList := F.el
  have hb : es.size < scanBound := by unfold scanBound; omega
  refine Calls.call_function_entry kind_sorted plain_sorted entry_sorted (args_sorted1 _) ?_
  unfold Builtin.«sorted»
  refine wpAny_bind (m := checkCount "sorted" 1 1 _) (wpAny_pure ?_)
  refine wpAny_bind (collect_set (A := A.in1) hh ⟨_, ho, rfl, rfl⟩ hf hb hr hl fun s1 vs k1 hz g1 o1 pm => ?_)
  have hvl : vs.length = l.length := by rw [pm.length_eq, List.length_map, Array.length_toList]; exact hsz
  have hS : ∃ ks, StrsAre vs ks ∧ ks.Perm l := by
    have h1 : ∀ v ∈ vs, ∃ x t', v = Value.str x t' := fun v hv => by
      obtain ⟨e, he, q⟩ := List.mem_map.mp (pm.mem_iff.mp hv)
      obtain ⟨⟨k, hk, _⟩, _⟩ := hel e he
      obtain ⟨t', ev⟩ := Value.isStrOf_shape (x := k) (v := e.2) hk
      exact ⟨k, t', by rw [← q]; exact ev⟩
    have h2 := strsAre_map vs h1
    refine ⟨vs.map strOf, h2, ?_⟩
    refine perm_of_in nd (fun x hx => ?_) (by rw [List.length_map, hvl])
    obtain ⟨e, he, hk⟩ := (F.mem x).mp hx
    obtain ⟨t', ev⟩ := Value.isStrOf_shape (x := x) (v := e.2) hk
    refine List.mem_map.mpr ⟨e.2, pm.mem_iff.mpr (List.mem_map_of_mem he), ?_⟩
    rw [ev]
    rfl
  obtain ⟨ks, hS, hp1⟩ := hS
  refine wpAny_bind (wpAny_newList ?_ (by rw [hvl, sizeLine_eq]; omega))
  have hoL : (s1.heap.push (seqObj "list" vs.toArray 0)).get? s1.heap.objs.size = some (seqObj "list" vs.toArray 0) := Heap.get?_push_size _ rfl
  refine wpAny_bind (wpAny_holding (wpAny_call_entry slot_list_sort ⟨_, hoL, rfl⟩ entry_list_sort
    (list_sort_treeK strKind_oneLt hoL hS.keysOf (fun v₁ v₂ rest e => keyKind_strs (by rw [← e]; exact hS)) (by rw [hvl]; exact h64) fun st' hp hs => ⟨_, rfl, ?_⟩) (args_list_sort _)))
  obtain ⟨ys, g2, g3, g4⟩ := sorted_out_str hS hp hs
  obtain ⟨c, hc⟩ := sortedHeap_at (vs := vs) (out := (arrOf st').map (·.2)) hoL
  refine wpAny_pure ⟨_, rfl, hQ _ s1.heap.objs.size _ c ys (fun b u e => ?_) g1 o1 hz hc g2 (g3.trans hp1) g4⟩
  have q := k1 b u e
  have hlt := Heap.lt_size q
  show (sortedHeap (s1.heap.push (seqObj "list" vs.toArray 0)) s1.heap.objs.size vs _).get? b = some u
  rw [sortedHeap_old (Nat.ne_of_lt hlt) (by rw [size_push']; exact Nat.lt_succ_of_lt hlt)]
  exact Heap.get?_push_of_some _ q
end
/-- a set of texts as an object -/
noncomputable def TxO (P : Program) (w : World) (a : Addr) (l : List Str) : HO := .ext fun h => TxS P w h a l
theorem txO_ok {w : World} {P : Program} {H : Hp} {h : Heap} {a : Addr} {l : List Str} (R : TxS P w h a l) : ObjOk P w H h a (TxO P w a l) := by
  obtain ⟨D, ho, _⟩ := id R
  exact ⟨R, ⟨_, ho⟩, fun h1 h2 p k => TxS.at p k⟩
noncomputable abbrev rST (P : Program) (w : World) : Rl (List Str) V := fun H m l v => ∃ a, v = .ref a ∧ H a = some (TxO P w a l) ∧ l.Nodup
noncomputable def str1 : D → Option Str
  | .str x => some x
  | _ => none
section
variable {g : G} {H : Hp} {m : List Addr}
theorem strs_rel : ∀ {ds : List D} {ns : List Str} {vs : List V}, optL str1 ds = some ns → DVs g H m ds vs → vs = ns.map V.str
  | [], bs, vs, e, r => by cases e; cases r; rfl
  | d :: ds, bs, vs, e, r => by
    cases r with
    | cons h hs =>
    unfold optL at e
    split at e
    · rename_i b bs' e1 e2
      cases e
      cases d <;> first | cases e1 | skip
      cases h
      rw [strs_rel e2 hs]
      rfl
    · cases e
end
variable {F : F} {pos : Pos}
noncomputable def JST (F : Sm.F) (e : Expr) (c : SA → HA → R (List Str)) : Prop := ∀ W X, Ok F W X → PE X e (Tx (rST X.prog F.g.w) F.g W c)
noncomputable def cSetS (ca : CA) : SA → HA → R (List Str) := fun E A => (ca E A).bind fun ds A1 => match ds with
  | [d] => match (listOf A1 d).bind (optL str1) with
    | some ns => if ns.length < 4000 then .ok (setS ns) A1 else .no
    | none => .no
  | _ => .no
theorem jst_set {x : Expr} {ca : CA} {q : Pos} (hg : Gls F.scope "set") (hm : F.g.mg "set" = none) (ha : JA F [x] ca)
    (he : ∀ X : Cx, starEach [x] X.env = (false, eval x X.env) :: starEach [] X.env := by intro _; rfl) (hpl : ∀ X : Cx, (backTo pos (starEach ([] : List Expr) X.env)).any (·.1) = false := by intro _; rfl) : JST F (.Call (.Name "set" q) [x] [] pos) (cSetS ca) := by
  intro W X ok
  refine ⟨fun pins s σ H Q I hq => ?_⟩
  obtain ⟨m, E, A, rh, rs, q⟩ := hq
  have q : Po (rST X.prog F.g.w) F.g m H W σ ((ca E A).bind fun ds A1 => match ds with
    | [d] => match (listOf A1 d).bind (optL str1) with
      | some ns => if ns.length < 4000 then .ok (setS ns) A1 else .no
      | none => .no
    | _ => .no) Q := q
  refine wpAny_Call_Name_kw (ld_blt I (ok.gl hg) (by rw [ok.mg]; exact hm) (by decide +kernel : bootBuiltins "set" = some (.type "set")) ?_ (by decide) (by decide))
  refine PyProof.Rows.callWith_type1 (thn ((ha W X ok).run pos pins s σ H (fun vs H1 => ∃ m1 ds A1, RH F.g H1 m1 A1 ∧ DVs F.g H1 m1 ds vs ∧ Po (rST X.prog F.g.w) F.g m1 H1 W σ (match ds with
    | [d] => match (listOf A1 d).bind (optL str1) with
      | some ns => if ns.length < 4000 then .ok (setS ns) A1 else .no
      | none => .no
    | _ => .no) Q) I ⟨m, E, A, rh, rs, Po.bind q fun m1 H1 ds xs A1 g1 rh1 dxs q1 => ⟨m1, ds, A1, rh1, dxs, q1⟩⟩) fun us s1 ⟨vs, H1, I1, r1, m1, ds, A1, rh1, dxs, q1⟩ => ?_) (he X) (hpl X)
  split at q1
  · obtain ⟨v, rfl, dv⟩ := dxs.one
    split at q1
    · rename_i ns hns
      split at q1
      · rename_i hz
        obtain ⟨ds, h1, h2⟩ := Option.bind_eq_some_iff.mp hns
        obtain ⟨p, ws, rfl, sq, r⟩ := listOf_rel rh1 dv h1
        have e := strs_rel h2 r
        subst e
        rw [← ok.K] at sq
        obtain ⟨its, rv, hl, _⟩ := I1.list sq
        rw [Vals.ref1 r1]
        refine call_set_txts ns (I1.ok.hd ok.calm) hl.isList (by simpa using rv.strs) (by unfold scanBound; omega) fun h' tk R kp => ?_
        have ht : H1 s1.heap.objs.size = none := I1.hok.fresh (Nat.le_refl _)
        refine ⟨.ref s1.heap.objs.size, upd H1 s1.heap.objs.size (TxO X.prog X.w s1.heap.objs.size (setS ns)), I1.laid (t' := tk) kp (Nat.le_refl _) (txO_ok R), rfl, ?_⟩
        rw [ok.w]
        exact q1 m1 _ _ (Gr.new ht) (rh1.upd ht) ⟨_, rfl, upd_same, setS_nodup ns⟩
      · exact q1.elim
    · exact q1.elim
  · exact q1.elim
noncomputable def cSortS (c : SA → HA → R (List Str)) : CE := fun E A => (c E A).bind fun ns A1 => if ns.length < 64 ∧ chainB sltB (sortB sltB ns) = true then .ok (.lst ((sortB sltB ns).map .str)) A1 else .no
theorem je_sortS {x : Expr} {c : SA → HA → R (List Str)} {q : Pos} (hg : Gls F.scope "sorted") (hm : F.g.mg "sorted" = none) (hx : JST F x c)
    (he : ∀ X : Cx, starEach [x] X.env = (false, eval x X.env) :: starEach [] X.env := by intro _; rfl) (hpl : ∀ X : Cx, (backTo pos (starEach ([] : List Expr) X.env)).any (·.1) = false := by intro _; rfl) : JE F (.Call (.Name "sorted" q) [x] [] pos) (cSortS c) := by
  intro W X ok
  refine ⟨fun pins s σ H Q I hq => ?_⟩
  obtain ⟨m, E, A, rh, rs, q⟩ := hq
  have q : Po (rE F.g) F.g m H W σ ((c E A).bind fun ns A1 => if ns.length < 64 ∧ chainB sltB (sortB sltB ns) = true then .ok (.lst ((sortB sltB ns).map .str)) A1 else .no) Q := q
  refine wpAny_Call_Name_kw (ld_blt I (ok.gl hg) (by rw [ok.mg]; exact hm) (by decide +kernel : bootBuiltins "sorted" = some (.builtin "sorted")) ?_ (by decide) (by decide))
  have pa : PA X [x] (fun σ H R => Tx (rST X.prog F.g.w) F.g W c σ H fun v H' => R [v] H') := PA.imp (pa_cons (hx W X ok) pa_nil (he X)) fun σ H R h => h
  refine PyProof.Rows.callWith_builtin1 (thn (pa.run pos pins s σ H (fun vs H1 => ∃ m1 ns A1 v, vs = [v] ∧ RH F.g H1 m1 A1 ∧ rST X.prog F.g.w H1 m1 ns v ∧ Po (rE F.g) F.g m1 H1 W σ (if ns.length < 64 ∧ chainB sltB (sortB sltB ns) = true then .ok (.lst ((sortB sltB ns).map .str)) A1 else .no) Q) I ⟨m, E, A, rh, rs, Po.bind (ρ := rST X.prog F.g.w) q fun m1 H1 ns v A1 g1 rh1 dxs q1 => ⟨m1, ns, A1, v, rfl, rh1, dxs, q1⟩⟩) fun us s1 ⟨vs, H1, I1, r1, m1, ns, A1, v, ev, rh1, dxs, q1⟩ => ?_) (he X) (hpl X)
  subst ev
  obtain ⟨a, rfl, ha, hnd⟩ := dxs
  split at q1
  · rename_i hz
    have R : TxS X.prog X.w s1.heap a ns := by
      have := (I1.hok a _ ha).1
      rw [ok.w]
      exact this
    rw [Vals.ref1 r1]
    refine ep_frz (txS_sorted R (I1.ok.hd ok.calm) hz.1 hnd fun s' p out c' ys k g' o hp hg1 hi hpm hs => ?_)
    have hlen : (ys.map V.str).length ≤ sizeLine := by rw [List.length_map, hpm.length_eq, sizeLine_eq]; omega
    have hn : H1 p = none := I1.hok.fresh hp
    have hb := chain_pw slt_trans hz.2
    have hpp : ys.Perm (sortB sltB ns) := hpm.trans sortB_perm.symm
    have e : ys = sortB sltB ns := sort_uniq hpp (sortedS_pw hpp hb hs) hb
    have J : Inv X pins σ (upd H1 p (.lst (ys.map V.str))) { s1 with heap := s'.heap, gens := s'.gens, drawn := s'.drawn, toks := s'.toks } :=
      I1.call (ch := []) (Un.laid k hp hn) (I1.hok.laid k hp ⟨hlen, out.toList, c', vals_of_strs hi, hg1⟩) (by rw [g']; exact I1.bare) (fun _ z => nomatch z)
    have es : s' = { s1 with heap := s'.heap, gens := s'.gens, drawn := s'.drawn, toks := s'.toks } := by
      cases s'
      cases s1
      cases o
      rfl
    rw [es]
    refine ⟨.ref p, _, J, rfl, ⟨p, _, rfl, upd_same, fun o => ?_⟩⟩
    rw [upd_upd]
    subst e
    exact Po.ok' q1 (Gr.new hn) (rh1.upd hn) (.lst (.inl ⟨o, upd_same, rh1.new hn⟩) (dvs_strs _))
  · exact q1.elim
/-- sorted(set(..)) of ints or of texts -/
noncomputable def cSortIS (ca : CA) : CE := fun E A => match cSortS (cSetS ca) E A with
  | .no => cSortI (cSetI ca) E A
  | r => r
theorem je_sortIS {x : Expr} {ca : CA} {q q2 q3 : Pos} (hg : Gls F.scope "sorted") (hm : F.g.mg "sorted" = none) (hg2 : Gls F.scope "set") (hm2 : F.g.mg "set" = none) (ha : JA F [x] ca)
    (he : ∀ X : Cx, starEach [x] X.env = (false, eval x X.env) :: starEach [] X.env := by intro _; rfl) (hpl : ∀ X : Cx, (backTo q2 (starEach ([] : List Expr) X.env)).any (·.1) = false := by intro _; rfl)
    (he2 : ∀ X : Cx, starEach [.Call (.Name "set" q) [x] [] q2] X.env = (false, eval (.Call (.Name "set" q) [x] [] q2) X.env) :: starEach [] X.env := by intro _; rfl) (hpl2 : ∀ X : Cx, (backTo pos (starEach ([] : List Expr) X.env)).any (·.1) = false := by intro _; rfl) :
    JE F (.Call (.Name "sorted" q3) [.Call (.Name "set" q) [x] [] q2] [] pos) (cSortIS ca) := by
  refine JE.or (je_sortS hg hm (jst_set hg2 hm2 ha he hpl) he2 hpl2) (je_sortI hg hm (jsi_set hg2 hm2 ha he hpl) he2 hpl2) fun E A => ?_
  unfold cSortIS
  split
  · exact .inr rfl
  · exact .inl rfl
end Sm
end
section
set_option autoImplicit false
namespace Sm
open PySem PySem.Spec PyProof.Rows L2
variable {F : F} {pos : Pos}
theorem DVs.rep {g : G} {H : Hp} {m : List Addr} {ds : List D} {vs : List V} (h : DVs g H m ds vs) : ∀ n : Nat, DVs g H m (List.replicate n ds).flatten (List.replicate n vs).flatten
  | 0 => .nil
  | n + 1 => by
    rw [List.replicate_succ, List.replicate_succ, List.flatten_cons, List.flatten_cons]
    exact h.append (DVs.rep h n)
/-- t * j: the new tuple's object is known -/
theorem op_repTF {X : Cx} {pins : List (Addr × Obj)} {s : Shared} {σ : St} {H : Hp} {l : Addr} {j : Int} {t : Tok} {xs : List V} {Q : VK} (I : Inv X pins σ H s) (hT : SqT X.K H l xs) (hne : xs ≠ []) (h1 : 2 ≤ j) (h2 : j ≤ 1000) (hz : xs.length ≤ 1000)
    (q : ∀ p o, H p = none → o.dict = none → Q (.ref p) (upd H p (.frz o (.tup (List.replicate j.toNat xs).flatten)))) : wpAny (model X.prog X.w) X.A (binaryOp .Mult (.ref l) (.int j t)) (EP X pins σ Q) X.xe s := by
  obtain ⟨us, r, ⟨⟨c9, d9, dt9, sl9⟩, ho, hc, n, hd⟩, hs⟩ := I.tuple hT
  simp only at hc hd
  subst hc hd
  have ul : us.length = xs.length := r.length.symm
  have un : us.toArray.isEmpty = false := by
    cases us with
    | nil =>
      have : xs.length = 0 := ul.symm
      exact absurd (List.eq_nil_of_length_eq_zero this) hne
    | cons _ _ => rfl
  have us0 : us.toArray.size = xs.length := by rw [List.size_toArray, ul]
  have um : ((us.toArray.size : Nat) : Int) * j ≤ 1000000 := by
    have a1 : ((xs.length : Nat) : Int) * j ≤ 1000 * j := Int.mul_le_mul_of_nonneg_right (by omega) (by omega)
    rw [us0]
    omega
  have a2 : j.toNat * xs.length ≤ 1000 * 1000 := Nat.mul_le_mul (by omega) hz
  have fl : (List.replicate j.toNat us).flatten.length ≤ sizeLine := by
    rw [PyProof.Rows.lm_len_rep_flat, ul, sizeLine_eq]
    omega
  have b0 : (decide (j < -(2 ^ 63)) || decide (j ≥ 2 ^ 63)) = false := Bool.or_eq_false_iff.mpr ⟨decide_eq_false (by omega), decide_eq_false (by omega)⟩
  have b1 : (us.toArray.isEmpty || j == 1) = false := Bool.or_eq_false_iff.mpr ⟨un, beq_eq_false_iff_ne.mpr (by omega)⟩
  have b2 : (decide (j ≤ 0) || us.toArray.isEmpty) = false := Bool.or_eq_false_iff.mpr ⟨decide_eq_false (by omega), un⟩
  have b4 : Builtin.Tuple.tupleTooMany (((us.toArray.size : Nat) : Int) * j) = false := decide_eq_false (by rw [sizeLine_eq]; omega)
  have m2 := tuple_mulW l us.toArray n d9 sl9 j t b0 b1 b2 (by omega) b4 (by rw [size_rep, List.size_toArray]; exact fl)
  refine wpAny_binaryOp_repeat_ref (T := "tuple") (U := "int") (by decide) ⟨_, ho, rfl⟩ (fun s' => typeIs_int s' j t) noFill_tuple_mul F.fills_int_mul F.slot_int_rmul repeat_tuple F.slot_int_index.lookup ?_
  refine call_meets F.slot_int_rmul (typeIs_int s j t) F.entry_int_rmul (F.args_int_rmul_2 _ _) (int_rmul_tuple j t l us.toArray n d9 sl9) ⟨ho, rfl, ⟨_, ho, rfl⟩, ?_⟩
  refine call_meets F.slot_tuple_mul ⟨_, ho, rfl⟩ F.entry_tuple_mul (F.args_tuple_mul_2 _ _) m2 ⟨ho, ?_⟩
  rw [size_rep]
  have I2 := tup_laid (t' := s.toks) I (h' := s.heap.push { cls := .type "tuple", data := .seq (List.replicate j.toNat us).flatten.toArray }) (fun b ob q => Heap.get?_push_of_some _ q) (Nat.le_refl _) (r.rep j.toNat) (by rw [PyProof.Rows.lm_len_rep_flat, sizeLine_eq]; omega) (Heap.get?_push_size _ rfl)
  exact ⟨.ref s.heap.objs.size, _, I2, rfl, q _ _ (I.hok.fresh (Nat.le_refl _)) rfl⟩
theorem rmul_lst (j : Int) (t : Tok) (l : Addr) (us : Array Value) (n : Nat) (sl : Array (Option Value)) : Meets (Builtin.«int.__rmul__» ⟨[.int j t, .ref l], []⟩) (fun _ R s => s.heap.get? l = some { cls := .type "list", dict := none, data := .seq us n, slots := sl } ∧ R (.ok (.ret Value.notImplemented)) s) :=
  .of_wp fun prog w A R s h => by
    obtain ⟨hp, g, d, tk, os⟩ := s
    obtain ⟨hl, h⟩ := h
    wp_walk using wpAny_loadPart' hl
    exact ⟨_, rfl, h⟩
theorem mul_lst (l : Addr) (us : Array Value) (n : Nat) (sl : Array (Option Value)) (j : Int) (t : Tok) (b0 : ¬(!Builtin.List.listFitsIndex j) = true) (b1 : ¬us.size * j.toNat > (2 ^ 63 - 1) / 8) (b2 : ¬Builtin.List.listTooLong (us.size * j.toNat) = true) :
    Meets (Builtin.«list.__mul__» ⟨[.ref l, .int j t], []⟩) (fun _ R s => s.heap.get? l = some { cls := .type "list", dict := none, data := .seq us n, slots := sl } ∧
      R (.ok (.ret (Value.ref s.heap.objs.size))) { s with heap := s.heap.push { cls := Value.type "list", data := Data.seq (List.foldl (fun x1 x2 => x1 ++ x2) #[] (List.replicate (if us.isEmpty = true then 0 else j.toNat) us)) }, toks := s.toks }) :=
  .of_wp fun prog w A R s h => by
    obtain ⟨hp, g, d, tk, os⟩ := s
    obtain ⟨hl, h⟩ := h
    have hsz := PySem.AutoListH.joined_fits b2
    wp_walk using wpAny_loadPart' hl
    refine wpAny_ite_false (decide_eq_false (Nat.not_lt.mpr hsz)) ?_
    wp_walk using wpAny_loadPart' hl
    exact ⟨_, rfl, h⟩
/-- l * j -/
theorem op_repL {X : Cx} {pins : List (Addr × Obj)} {s : Shared} {σ : St} {H : Hp} {l : Addr} {j : Int} {t : Tok} {xs : List V} {Q : VK} (I : Inv X pins σ H s) (hL : SqL X.K H l xs) (h1 : 0 ≤ j) (h2 : j ≤ 1000) (hz : xs.length ≤ 1000)
    (q : ∀ p, H p = none → Q (.ref p) (upd H p (.lst (List.replicate j.toNat xs).flatten))) : wpAny (model X.prog X.w) X.A (binaryOp .Mult (.ref l) (.int j t)) (EP X pins σ Q) X.xe s := by
  obtain ⟨us, r, ⟨⟨c9, d9, dt9, sl9⟩, n, ho, e1, e2, e3⟩, z1⟩ := I.list hL
  simp only at e1 e2 e3
  subst e1 e2 e3
  have ul : us.length = xs.length := r.length.symm
  have a2 : xs.length * j.toNat ≤ 1000 * 1000 := Nat.mul_le_mul hz (by omega)
  have us0 : us.toArray.size * j.toNat ≤ 1000000 := by rw [List.size_toArray, ul]; exact a2
  have b1 : ¬ us.toArray.size * j.toNat > (2 ^ 63 - 1) / 8 := by omega
  have b0 : ¬ (!Builtin.List.listFitsIndex j) = true := by rw [fitsIndex_both (by omega) (by omega)]; decide
  have b2 : ¬ Builtin.List.listTooLong (us.toArray.size * j.toNat) = true := by rw [notLongL (by rw [sizeLine_eq]; omega)]; decide
  have fl : List.foldl (fun x1 x2 => x1 ++ x2) #[] (List.replicate (if us.toArray.isEmpty = true then 0 else j.toNat) us.toArray) = (List.replicate j.toNat us).flatten.toArray := by
    rw [size_rep]
    cases us with
    | nil => simp
    | cons a r' => rw [if_neg (by simp)]
  refine wpAny_binaryOp_repeat_ref (T := "list") (U := "int") (by decide) ⟨_, ho, rfl⟩ (fun s' => typeIs_int s' j t) noFill_list_mul F.fills_int_mul F.slot_int_rmul repeat_list F.slot_int_index.lookup ?_
  refine call_meets F.slot_int_rmul (typeIs_int s j t) F.entry_int_rmul (F.args_int_rmul_2 _ _) (rmul_lst j t l us.toArray n sl9) ⟨ho, rfl, ⟨_, ho, rfl⟩, ?_⟩
  refine call_meets F.slot_list_mul ⟨_, ho, rfl⟩ F.entry_list_mul (F.args_list_mul_2 _ _) (mul_lst l us.toArray n sl9 j t b0 b1 b2) ⟨ho, ?_⟩
  rw [fl]
  exact ⟨.ref _, _, I.lnew (t' := s.toks) (r.rep j.toNat) (by rw [PyProof.Rows.lm_len_rep_flat, Nat.mul_comm, sizeLine_eq]; omega), rfl, q _ I.fresh⟩
noncomputable def pMulX : P2 := fun d e A => match e with
  | .int k => (match d with
    | .int i => pMul (.int i) (.int k) A
    | .tup xs => if (!xs.isEmpty && (decide (2 ≤ k) && (decide (k ≤ 1000) && Nat.ble xs.length 1000))) = true then .ok (.tup (List.replicate k.toNat xs).flatten) A else .no
    | d => (match listOf A d with
      | some xs => if (decide (0 ≤ k) && (decide (k ≤ 1000) && Nat.ble xs.length 1000)) = true then .ok (.lst (List.replicate k.toNat xs).flatten) A else .no
      | none => .no))
  | _ => .no
theorem opF_mulX {g : G} : OpF g (binaryOp .Mult) pMulX := by
  intro F W X e ok pins s σ H m A d e' x y v u Q I rh dx dy rx ry q
  have hK : X.K = g.K := ok.K.trans (congrArg G.K e)
  unfold pMulX at q
  split at q
  · rename_i k
    have hy := dy.int_inv
    subst hy
    split at q
    · exact opF_mul F W X e ok pins s σ H m A _ _ x _ v u Q I rh dx dy rx ry q
    · rename_i xs
      split at q
      · rename_i hc
        simp only [Bool.and_eq_true, Bool.not_eq_true', decide_eq_true_eq] at hc
        obtain ⟨c1, c2, c3, c4⟩ := hc
        cases dx with
        | tup h1 k1 =>
        rename_i vs p
        obtain rfl : v = .ref p := rx
        obtain ⟨t, rfl⟩ := ry
        have c4 := Nat.le_of_ble_eq_true c4
        refine op_repTF I (hK ▸ sqT_of h1) (fun z => ?_) c2 c3 (by rw [← k1.length]; exact c4) fun p o hp ho => ?_
        · have := k1.length
          rw [z] at this
          have e0 : xs = [] := List.eq_nil_of_length_eq_zero this
          rw [e0] at c1
          cases c1
        · have gr : Gr m m H (upd H p (.frz o (.tup (List.replicate k.toNat vs).flatten))) := Gr.new hp
          exact Po.ok' q gr (rh.upd hp) (.tup (.inl ⟨o, upd_same, ho, rh.new hp⟩) ((k1.rep k.toNat).mono gr))
      · exact q.elim
    · split at q
      · rename_i xs hx
        split at q
        · rename_i hc
          simp only [Bool.and_eq_true, decide_eq_true_eq] at hc
          obtain ⟨c1, c2, c3⟩ := hc
          obtain ⟨p, vs, rfl, s1, r1⟩ := listOf_rel rh dx hx
          obtain rfl : v = .ref p := rx
          obtain ⟨t, rfl⟩ := ry
          have c3 := Nat.le_of_ble_eq_true c3
          refine ep_frz (op_repL I (hK ▸ s1) c1 c2 (by rw [← r1.length]; exact c3) fun t' ht => ⟨t', _, rfl, upd_same, fun o => ?_⟩)
          rw [upd_upd]
          have gr : Gr m m H (upd H t' (.frz o (.lst (List.replicate k.toNat vs).flatten))) := Gr.new ht
          exact Po.ok' q gr (rh.upd ht) (.lst (.inl ⟨o, upd_same, rh.new ht⟩) ((r1.rep k.toNat).mono gr))
        · exact q.elim
      · exact q.elim
  · exact q.elim
/-- a, b = constants: a tuple first -/
theorem js_asgF {tg e : Expr} {ce : CE} {cg : CG} {vs : List Nat} (he : JE F e ce) (hg : JG F vs tg cg) (hw : ∀ X : Cx, X.env.scope = F.scope → swappedStores [tg] e X.env = pure none) (hs : ∀ X : Cx, swapsWithSole [tg] e pos.line X.env = pure false := by intro _; rfl)
    (h1 : ∀ X : Cx, (assignEach [tg] X.env).map (·.2) = [assign tg X.env] := by intro _; rfl) : JS' F (.Assign [tg] e pos) (cAsg ce cg) := by
  intro W X ok
  refine PS.imp (ps_asg (he W X ok.toOk) (hg W X ok.toOk ok.fc) (hs X) (hw X ok.sc) (h1 X)) ?_
  rintro D σ H ⟨m, E, A, rh, rs, q⟩
  refine ⟨m, E, A, rh, rs, PoS.bind rs q fun m1 H1 d x A1 g1 rh1 dx q1 => ⟨m1, E, A1, d, rh1, rs.mono g1, dx, ?_⟩⟩
  cases hc : cg d E A1 with
  | nx E2 A2 =>
    rw [hc] at q1
    exact fun m2 σ2 H2 a r r' _ => q1 m2 σ2 H2 a r r'
  | _ => rw [hc] at q1; exact q1.elim
end Sm
end
section
set_option autoImplicit false
namespace Sm
open PySem PySem.Spec PyProof.Rows L2
noncomputable abbrev kT (P : Program) (w : World) : HeapKind P w (List Key) := tupleKind (mixKind P w)
section
variable {P : Program} {w : World} {A : Around} {E : Value → Shared → Prop} {s : Shared}
theorem mix_items {k : List Key} {vs : List Value} (h : ItemsAre (mixKind P w) k vs) : ∀ v ∈ vs, (∃ i t, v = Value.int i t) ∨ ∃ x t, v = Value.str x t := by
  induction h with
  | nil => intro v hv; cases hv
  | cons h1 _ ih =>
    intro v hv
    rcases List.mem_cons.mp hv with rfl | hv
    · rcases keyIs_shape h1 with ⟨i, t, _, e⟩ | ⟨x, t, _, e⟩
      · exact .inl ⟨i, t, e⟩
      · exact .inr ⟨x, t, e⟩
    · exact ih v hv
theorem plain_cls {v : Value} (n : Nat) (h : (∃ i t, v = Value.int i t) ∨ ∃ x t, v = Value.str x t) : ofAClassStatement n v = pure false := by
  rcases h with ⟨i, t, rfl⟩ | ⟨x, t, rfl⟩ <;> cases n <;> rfl
theorem plain_val {v : Value} (n : Nat) (h : (∃ i t, v = Value.int i t) ∨ ∃ x t, v = Value.str x t) : ∃ b, hashByValue n v = pure b := by
  rcases h with ⟨i, t, rfl⟩ | ⟨x, t, rfl⟩
  · exact ⟨true, by cases n <;> rfl⟩
  · exact ⟨false, by cases n <;> rfl⟩
/-- what is asked of a tuple besides: of no class statement -/
theorem tup_cls {k : List Key} {b : Addr} {Q : Bool → Shared → Prop} (hk : (kT P w).is s.heap k b) (h : Q false s) : wpAny (model P w) A (ofAClassStatement 8 (.ref b)) Q E s := by
  have hT := IsTupleKey.typeIs hk
  obtain ⟨o, items, n, ho, _, hd, hi⟩ := hk
  unfold ofAClassStatement
  refine wpAny_bind (wpAny_typeOf hT ?_)
  dsimp only
  simp only [show (("tuple" : String) == "tuple") = true by decide, if_true, Bool.not_true, Bool.false_eq_true, if_false]
  try refine wpAny_bind (wpAny_pure ?_)
  try simp only [Bool.not_true, Bool.false_eq_true, if_false]
  show wpAny _ _ (seqItems? (.ref b) >>= _) _ _ s
  refine wpAny_bind (wpAny_seqItems ho hd ?_)
  dsimp only
  refine wpAny_bind ?_
  show wpAny _ _ (forIn items _ _) _ _ s
  rw [← Array.forIn_toList]
  have hall := mix_items hi
  refine wpAny_forIn_list _ (fun rest r s' => r.1 = none ∧ s' = s ∧ ∀ v ∈ rest, v ∈ items.toList) _ ?_ ?_ _ _ ⟨rfl, rfl, fun v hv => hv⟩
  · rintro v rest r s' ⟨hr, rfl, hin⟩
    rw [plain_cls _ (hall v (hin v List.mem_cons_self))]
    refine wpAny_bind (wpAny_pure ?_)
    simp only [Bool.false_eq_true, if_false]
    exact wpAny_pure ⟨rfl, rfl, fun u hu => hin u (List.mem_cons_of_mem _ hu)⟩
  · rintro ⟨r1, r2⟩ s' ⟨hr, rfl, _⟩
    simp only at hr
    subst hr
    exact wpAny_pure h
/-- .. whether its hash comes of its value: any answer is good -/
theorem tup_val {k : List Key} {b : Addr} {Q : Bool → Shared → Prop} (hk : (kT P w).is s.heap k b) (h : ∀ c, Q c s) : wpAny (model P w) A (hashByValue 8 (.ref b)) Q E s := by
  have hT := IsTupleKey.typeIs hk
  obtain ⟨o, items, n, ho, _, hd, hi⟩ := hk
  unfold hashByValue
  refine wpAny_bind (wpAny_specialOf hT PySem.F.slot_tuple_hash.lookup ?_)
  show wpAny _ _ (seqItems? (.ref b) >>= _) _ _ s
  refine wpAny_bind (wpAny_seqItems ho hd ?_)
  refine wpAny_bind ?_
  show wpAny _ _ (forIn items _ _) _ _ s
  rw [← Array.forIn_toList]
  have hall := mix_items hi
  refine wpAny_forIn_list _ (fun rest r s' => s' = s ∧ r.1 = none ∧ ∀ v ∈ rest, v ∈ items.toList) _ ?_ ?_ _ _ ⟨rfl, rfl, fun v hv => hv⟩
  · rintro v rest r s' ⟨rfl, hr, hin⟩
    obtain ⟨c, hc⟩ := plain_val 7 (hall v (hin v List.mem_cons_self))
    rw [hc]
    refine wpAny_bind (wpAny_pure ?_)
    cases c with
    | true =>
      simp only [Bool.not_true, Bool.false_eq_true, if_false]
      exact wpAny_pure ⟨rfl, rfl, fun u hu => hin u (List.mem_cons_of_mem _ hu)⟩
    | false =>
      simp only [Bool.not_false, if_true]
      exact wpAny_pure (wpAny_pure (h false))
  · rintro ⟨r1, r2⟩ s' ⟨rfl, hr, _⟩
    simp only at hr
    subst hr
    exact wpAny_pure (h true)
/-- .. and a search among tuples shows nothing -/
theorem tup_seen {k : List Key} {b : Addr} {Q : Bool → Shared → Prop} (hk : (kT P w).is s.heap k b) {ys : List Value} (hy : ∀ y ∈ ys, ∃ k' c, y = Value.ref c ∧ (kT P w).is s.heap k' c) (h : Q false s) :
    wpAny (model P w) A (searchCouldBeSeen (.ref b) ys) Q E s := by
  unfold searchCouldBeSeen
  refine wpAny_bind ?_
  refine wpAny_forIn_list _ (fun rest r s' => r.1 = none ∧ s' = s ∧ ∀ y ∈ rest, y ∈ ys) _ ?_ ?_ _ _ ⟨rfl, rfl, fun y hy => hy⟩
  · rintro v rest r s' ⟨hr, rfl, hin⟩
    obtain ⟨k', c, rfl, hc⟩ := hy v (hin v List.mem_cons_self)
    have hnext : ∀ y ∈ rest, y ∈ ys := fun u hu => hin u (List.mem_cons_of_mem _ hu)
    dsimp only
    by_cases hv : (b == c || (carriedByValue (.ref b) && carriedByValue (.ref c))) = true
    · exact wp_if_pos hv (wpAny_pure ⟨rfl, rfl, hnext⟩)
    · refine wp_if_neg hv (wpAny_bind ((kT P w).quiet hk ?_))
      simp only [Bool.not_true, Bool.false_eq_true, if_false]
      refine wpAny_bind ((kT P w).quiet hc ?_)
      simp only [Bool.not_true, Bool.false_eq_true, if_false]
      refine wpAny_bind (tup_cls hk ?_)
      simp only [Bool.false_eq_true, if_false]
      refine wpAny_bind (tup_cls hc ?_)
      simp only [Bool.false_eq_true, if_false]
      exact wpAny_pure ⟨rfl, rfl, hnext⟩
  · rintro ⟨r1, r2⟩ s' ⟨hr, rfl, _⟩
    simp only at hr
    subst hr
    exact wpAny_pure h
/-- a tuple behind a change of the set -/
theorem is_but {h h' : Heap} {k : List Key} {a b : Addr} {o : Obj} {es : Array (Int × Value)} {ep : Nat} {t : SetTable} (hb : (kT P w).is h k b) (ho : h.get? a = some o) (hd : o.data = .set es ep t) (hs : Heap.SameBut a h h') : (kT P w).is h' k b := by
  obtain ⟨o2, items, n, h2, h3, h4, h5⟩ := hb
  refine ⟨o2, items, n, ?_, h3, h4, h5⟩
  rw [hs.2 b (fun e => by subst e; rw [ho] at h2; cases h2; rw [hd] at h4; cases h4)]
  exact h2
theorem is_all {h h' : Heap} {k : List Key} {b : Addr} (x : (kT P w).is h k b) (hk : ∀ o, h.get? b = some o → h'.get? b = some o) : (kT P w).is h' k b := by
  obtain ⟨o2, items, n, h2, h3, h4, h5⟩ := x
  exact ⟨o2, items, n, hk _ h2, h3, h4, h5⟩
end
end Sm
end
section
set_option autoImplicit false
namespace Sm
open PySem PySem.Spec PyProof.Rows L2
/-- what stands in the set: each tuple's address, its keys -/
noncomputable abbrev TL := List (Addr × List Key)
section
variable (P : Program) (w : World)
noncomputable abbrev hT (k : List Key) : Int := (kT P w).hash k
noncomputable def rowT (p : Addr × List Key) : Int × Value := (hT P w p.2, .ref p.1)
/-- at a stands a set of the tuples L -/
structure SetU (h : Heap) (a : Addr) (L : TL) (D : PySem.Froz.SD) : Prop where
  ob : h.get? a = some (PySem.Froz.sObj "set" D)
  rows : D.1.toList = L.map (rowT P w)
  tab : TabOk D.2.2 (L.map fun p => hT P w p.2)
  nd : (L.map (·.2)).Nodup
  tup : ∀ p ∈ L, (kT P w).is h p.2 p.1
  led : w.params.followText "set-order" = true ∨ D.2.2.led = true
  room : L.length * 5 < D.2.2.mask * 3
end
section
variable {P : Program} {w : World} {A : Around} {E : Value → Shared → Prop} {s : Shared} {a : Addr} {L : TL} {es : Array (Int × Value)} {ep : Nat} {t : SetTable}
theorem SetU.size {h : Heap} (R : SetU P w h a L (es, ep, t)) : es.size = L.length := by
  rw [← Array.length_toList, R.rows, List.length_map]
theorem SetU.fits {h : Heap} (R : SetU P w h a L (es, ep, t)) : t.fits es.size = true := by
  have h1 : t.place.size = L.length := by have := R.tab.sz; rwa [List.length_map] at this
  have h2 := R.size
  have h3 : L.length * 5 < t.mask * 3 := R.room
  have hd : t.dummies = #[] := R.tab.dm
  unfold SetTable.fits SetTable.fill
  rw [hd, Bool.and_eq_true, beq_iff_eq, decide_eq_true_eq]
  exact ⟨h1.trans h2.symm, by show t.place.size + 0 ≤ t.mask; omega⟩
theorem SetU.row {h : Heap} (R : SetU P w h a L (es, ep, t)) {i : Nat} {p : Addr × List Key} (e : L[i]? = some p) : es[i]? = some (rowT P w p) := by
  rw [← Array.getElem?_toList, R.rows, List.getElem?_map, e]
  rfl
theorem nth_dummy (m : Nat) : ∀ (n : Nat) (p : SetTable.Probe), p.dummy = none → (nth m p n).dummy = none
  | 0, _, h => h
  | n + 1, p, h => nth_dummy m n (adv m p) (by unfold adv; split <;> exact h)
/-- the way's c-th stand -/
noncomputable abbrev stnd (t : SetTable) (h : Int) (c : Nat) : SetTable.Probe := nth t.mask (runAt t.mask (SetTable.bits h % (t.mask + 1)) (SetTable.bits h)) c
theorem stnd_add (t : SetTable) (h : Int) (c q : Nat) : nth t.mask (stnd t h c) q = stnd t h (c + q) := (nth_add t.mask c _ q).symm
/-- the search, from the c-th stand on: what is looked for is not passed yet -/
theorem look_on (R : SetU P w s.heap a L (es, ep, t)) {x : Addr} {k : List Key} (hx : (kT P w).is s.heap k x) (hu : A.units < cLine) {K : Nat} (hKf : K < 10 * SetTable.turns t.mask)
    (hK : way t.mask (hT P w k) K ∉ t.place.toList) (hb : ∀ c, c < K → way t.mask (hT P w k) c ∈ t.place.toList) {Q : SetFound → Shared → Prop}
    (yes : k ∈ L.map (·.2) → Q (.there none) s) (no : k ∉ L.map (·.2) → Q (.free (way t.mask (hT P w k) K) false) s) :
    ∀ (f c : Nat) (st : Option SetTable.Probe), st.getD (t.probeStart (hT P w k)) = stnd t (hT P w k) c → c ≤ K → K - c < f →
      (∀ (i : Nat) p, L[i]? = some p → p.2 = k → ∃ d, c ≤ d ∧ d < K ∧ t.place.toList[i]? = some (way t.mask (hT P w k) d)) → wpAny (model P w) A (setSearchFrom a (.ref x) (hT P w k) true f st) Q E s := by
  intro f
  induction f with
  | zero => intro c st _ _ hf; exact absurd hf (Nat.not_lt_zero _)
  | succ f ih =>
    intro c st hst hc hf hre
    have hd : (PySem.Froz.sObj "set" (es, ep, t)).data = .set es ep t := rfl
    have ris : Ris t.place.toList := R.tab.ris
    have dm : t.dummies = #[] := R.tab.dm
    have gw : ¬ t.gaveWay = true := by
      unfold SetTable.gaveWay
      rw [mask_odd R.tab.mok]
      decide
    generalize hh : hT P w k = h at *
    have wj : ∀ q, (nth t.mask (stnd t h c) q).j = way t.mask h (c + q) := fun q => congrArg SetTable.Probe.j (stnd_add t h c q)
    have hAt : ∀ (i : Nat) p, L[i]? = some p → (fun i => (es[i]?.map (·.1)).getD 0) i = hT P w p.2 := fun i p e => by
      show (es[i]?.map (·.1)).getD 0 = _
      rw [R.row e]
      rfl
    rw [setSearchFrom_succ]
    refine wpAny_bind (wpAny_setState_of R.ob hd R.fits ?_)
    dsimp only
    refine wp_if_neg gw ?_
    try refine wpAny_bind (wpAny_pure ?_)
    have sp := go_spec t ris dm (fun i => (es[i]?.map (·.1)).getD 0) h (10 * SetTable.turns t.mask) (K - c) (stnd t h c) (nth_dummy _ _ _ rfl) (by omega) (fun q hq => by rw [wj]; exact hb _ (by omega)) (by rw [wj, show c + (K - c) = K by omega]; exact hK)
    have pr : t.probe (fun i => (es[i]?.map (·.1)).getD 0) h (st.getD (t.probeStart h)) = SetTable.probe.go t (fun i => (es[i]?.map (·.1)).getD 0) h (10 * SetTable.turns t.mask) (stnd t h c) := by rw [hst]; rfl
    rw [pr]
    rcases sp with ⟨q, i, hq, hi, he, hno, e⟩ | ⟨hno, e⟩
    · rw [e]
      dsimp only
      rw [wj] at hi ⊢
      have hil : i < L.length := by
        have h1 := (List.getElem?_eq_some_iff.mp hi).1
        have h2 := R.tab.sz
        rw [List.length_map] at h2
        rw [Array.length_toList] at h1
        exact h2 ▸ h1
      obtain ⟨p, hp⟩ : ∃ p, L[i]? = some p := ⟨_, List.getElem?_eq_getElem hil⟩
      have hpt := R.tup p (List.mem_of_getElem? hp)
      have onward : wpAny (model P w) A (searchRest a (.ref x) h true f es t (way t.mask h (c + q)) i (nth t.mask (stnd t h c) (q + 1))) Q E s := by
        unfold searchRest
        rw [R.row hp]
        unfold rowT
        dsimp only
        refine wpAny_bind (wpAny_holding ((kT P w).eqBool hu hpt hx ?_))
        refine wpAny_bind (wpAny_setState_of R.ob hd R.fits ?_)
        dsimp only
        by_cases hk : p.2 = k
        · exact wp_if_pos (by simp [hk]) (wpAny_pure (yes (List.mem_map.mpr ⟨p, List.mem_of_getElem? hp, hk⟩)))
        · refine wp_if_neg (by simp [hk]) ?_
          try refine wpAny_bind (wpAny_pure ?_)
          rw [sameMem]
          dsimp only
          have sl := slot_live ris hi
          simp only [if_true, sl, R.row hp, rowT]
          refine wpAny_bind (wpAny_isSame_ref_self (wpAny_bind (wpAny_pure ?_)))
          simp only [if_true]
          refine wp_if_neg (by simp [hk]) ?_
          refine ih (c + (q + 1)) _ (stnd_add t h c (q + 1)) (by omega) (by omega) fun i0 p0 h0 hk0 => ?_
          obtain ⟨d, a1, a2, a3⟩ := hre i0 p0 h0 hk0
          refine ⟨d, ?_, a2, a3⟩
          rcases Nat.lt_trichotomy d (c + q) with z | z | z
          · refine absurd ((hAt i0 p0 h0).trans (by rw [hk0, hh])) (hno (d - c) i0 (by omega) ?_)
            rw [wj, show c + (d - c) = d by omega]
            exact a3
          · rw [z] at a3
            have s0 := slot_live ris a3
            rw [sl] at s0
            injection s0 with s0
            subst s0
            rw [hp] at h0
            cases h0
            exact absurd hk0 hk
          · omega
      by_cases hl : t.led = true
      · refine wp_if_neg (by simp [hl]) ?_
        try refine wpAny_bind (wpAny_pure ?_)
        exact onward
      · refine wp_if_pos (by simp [hl]) (wpAny_bind (tup_seen hx (fun y hy => ?_) ?_))
        · obtain ⟨e0, he0, rfl⟩ := List.mem_map.mp hy
          have m1 : e0 ∈ es.toList := by
            have : e0 ∈ es ∧ (e0.1 == h) = true := by simpa using he0
            simpa using this.1
          rw [R.rows] at m1
          obtain ⟨p2, hp2, rfl⟩ := List.mem_map.mp m1
          exact ⟨p2.2, p2.1, rfl, R.tup p2 hp2⟩
        · refine wp_if_neg (by decide) ?_
          try refine wpAny_bind (wpAny_pure ?_)
          exact onward
    · rw [e]
      dsimp only
      rw [wj, show c + (K - c) = K by omega]
      refine wpAny_pure (no fun hm => ?_)
      obtain ⟨p0, h0, hk0⟩ := List.mem_map.mp hm
      obtain ⟨i0, hi0, e0⟩ := List.getElem_of_mem h0
      have h00 : L[i0]? = some p0 := by rw [List.getElem?_eq_getElem hi0, e0]
      obtain ⟨d, a1, a2, a3⟩ := hre i0 p0 h00 hk0
      refine absurd ((hAt i0 p0 h00).trans (by rw [hk0, hh])) (hno (d - c) i0 (by omega) ?_)
      rw [wj, show c + (d - c) = d by omega]
      exact a3
theorem look_for (R : SetU P w s.heap a L (es, ep, t)) {x : Addr} {k : List Key} (hx : (kT P w).is s.heap k x) (hu : A.units < cLine) {Q : SetFound → Shared → Prop}
    (yes : k ∈ L.map (·.2) → Q (.there none) s)
    (no : ∀ K, k ∉ L.map (·.2) → way t.mask (hT P w k) K ∉ t.place.toList → (∀ c, c < K → way t.mask (hT P w k) c ∈ t.place.toList) → Q (.free (way t.mask (hT P w k) K) false) s) :
    wpAny (model P w) A (setSearch a (.ref x) (hT P w k) true) Q E s := by
  have T : TabOk t (L.map fun p => hT P w p.2) := R.tab
  have hroom : L.length * 5 < t.mask * 3 := R.room
  obtain ⟨K, hKf, hK, hb⟩ := T.first (by rw [List.length_map]; omega) (hT P w k)
  have hfar : K < 100000 := by
    refine Nat.lt_of_lt_of_le hKf ?_
    unfold SetTable.turns
    rcases T.mok with e | e | e <;> omega
  unfold setSearch
  refine look_on R hx hu hKf hK hb yes (fun n => no K n hK hb) 100000 0 none rfl (Nat.zero_le _) (by omega) fun i p hp hk => ?_
  have hi : (L.map fun p => hT P w p.2)[i]? = some (hT P w k) := by rw [List.getElem?_map, hp, ← hk]; rfl
  have hil : i < t.place.toList.length := by
    rw [Array.length_toList, T.sz, List.length_map]
    exact (List.getElem?_eq_some_iff.mp hp).1
  obtain ⟨c, hc, e⟩ := T.before hK hi (List.getElem?_eq_getElem hil)
  exact ⟨c, Nat.zero_le _, hc, by rw [List.getElem?_eq_getElem hil, e]⟩
end
end Sm
end
section
set_option autoImplicit false
namespace Sm
open PySem PySem.Spec PyProof.Rows L2
open PySem.Froz (SD sObj)
section
variable {P : Program} {w : World} {A : Around} {E : Value → Shared → Prop} {s : Shared} {a : Addr} {L : TL} {es : Array (Int × Value)} {ep : Nat} {t : SetTable}
theorem put_obj {h : Heap} {es' : Array (Int × Value)} {t' : SetTable} (ho : h.get? a = some (sObj "set" (es, ep, t))) : (h.update a (Obj.putSet es' t')).get? a = some (sObj "set" (es', ep + 1, t')) := by
  have e : h.update a (Obj.putSet es' t') = h.update a (fun _ => sObj "set" (es', ep + 1, t')) := (PySem.Froz.upd_const _ ho).trans rfl
  rw [e]
  exact PySem.Froz.get_upd _ ho rfl
/-- the rows in the order in which they are laid anew -/
theorem rows_order (he : es.toList = L.map (rowT P w)) (order : Array Nat) (hp : order.toList.Perm (List.range L.length)) :
    ∃ L2 : TL, (order.filterMap (es[·]?)).toList = L2.map (rowT P w) ∧ L2.Perm L ∧ L2.map (fun p => hT P w p.2) = order.toList.map (fun i => (es.map (·.1)).getD i 0) := by
  refine ⟨order.toList.filterMap (L[·]?), ?_, ?_, ?_⟩
  · rw [Array.toList_filterMap, List.map_filterMap]
    congr 1
    funext i
    rw [← Array.getElem?_toList, he, List.getElem?_map]
  · have h1 : ((List.range L.length).filterMap (L[·]?)) = L := by
      have key : ∀ l : TL, (List.range l.length).filterMap (l[·]?) = l := by
        intro l
        induction l with
        | nil => rfl
        | cons x r ih =>
          rw [List.length_cons, List.range_succ_eq_map, List.filterMap_cons, List.filterMap_map]
          show x :: _ = x :: r
          congr 1
      exact key L
    have h2 := hp.filterMap (L[·]?)
    rw [h1] at h2
    exact h2
  · have key : ∀ l : List Nat, (∀ i ∈ l, i < L.length) → (l.filterMap (L[·]?)).map (fun p => hT P w p.2) = l.map (fun i => (es.map (·.1)).getD i 0) := by
      intro l
      induction l with
      | nil => intro _; rfl
      | cons i r ih =>
        intro h
        have hi := h i List.mem_cons_self
        have e1 : L[i]? = some L[i] := List.getElem?_eq_getElem hi
        have e2 : es[i]? = some (rowT P w L[i]) := by rw [← Array.getElem?_toList, he, List.getElem?_map, e1]; rfl
        rw [List.filterMap_cons, e1]
        dsimp only
        rw [List.map_cons, List.map_cons, ih fun j hj => h j (List.mem_cons_of_mem _ hj)]
        congr 1
        rw [Array.getD_eq_getD_getElem?, Array.getElem?_map, e2]
        rfl
    exact key _ fun i hi => List.mem_range.mp (hp.mem_iff.mp hi)
/-- a table that is too full is laid anew -/
theorem relay_U {n M : Nat} (ho : s.heap.get? a = some (sObj "set" (es, ep, t))) (he : es.toList = L.map (rowT P w)) (T : TabOk t (L.map fun p => hT P w p.2)) (nd : (L.map (·.2)).Nodup) (tup : ∀ p ∈ L, (kT P w).is s.heap p.2 p.1)
    (ld : w.params.followText "set-order" = true ∨ t.led = true) (hf : L.length ≤ t.mask) (hn : SetTable.sizeAbove n - 1 = M) (hM : MaskOk M) (hs : SetTable.sizeAbove n ≤ 128) (hr : L.length * 5 < M * 3) {Q : Unit → Shared → Prop}
    (h : ∀ h' L' D, Heap.SameBut a s.heap h' → SetU P w h' a L' D → L'.Perm L → Q () { s with heap := h' }) : wpAny (model P w) A (setRelay a n) Q E s := by
  have hd : (sObj "set" (es, ep, t)).data = .set es ep t := rfl
  have hz : es.size = L.length := by rw [← Array.length_toList, he, List.length_map]
  have hm : M ≤ 127 := by rcases hM with e | e | e <;> omega
  have fit : t.fits es.size = true := by
    unfold SetTable.fits SetTable.fill
    rw [T.dm, Bool.and_eq_true, beq_iff_eq, decide_eq_true_eq]
    have h1 := T.sz
    rw [List.length_map] at h1
    exact ⟨h1.trans hz.symm, by show t.place.size + 0 ≤ t.mask; omega⟩
  obtain ⟨t', order, e, hp, T', em, el, _, ed⟩ := relaid_ok t (hs := es.map (·.1)) hn hM (by rw [Array.size_map, hz]; omega)
  rw [Array.size_map, hz] at hp
  obtain ⟨L2, r1, r2, r3⟩ := rows_order he order hp
  rw [← r3] at T'
  have hz2 : (order.filterMap (es[·]?)).size = es.size := by rw [← Array.length_toList, r1, List.length_map, r2.length_eq, hz]
  rw [setRelay_eq]
  refine wpAny_bind (wpAny_setState_of ho hd fit ?_)
  dsimp only
  refine wp_if_neg (by rw [sizeLine_eq]; omega) ?_
  try refine wpAny_bind (wpAny_pure ?_)
  rw [e]
  dsimp only
  refine wpAny_bind (wp_if_neg (by rw [hz2]; simp) ?_)
  try refine wpAny_bind (wpAny_pure ?_)
  refine wpAny_pure ?_
  dsimp only
  have few : L.length < 128 := by omega
  refine wpAny_storeSet_of ho hd ?_ (by rw [hz2, hz, sizeLine_eq]; omega)
  have sb : Heap.SameBut a s.heap (s.heap.update a (Obj.putSet (order.filterMap (es[·]?)) t')) := Heap.SameBut.update ..
  exact h _ L2 _ sb ⟨put_obj ho, r1, T', (r2.map (·.2)).nodup_iff.mpr nd, fun p hpm => is_but (tup p (r2.mem_iff.mp hpm)) ho hd sb, ld.imp id fun z => el.trans z, by show L2.length * 5 < t'.mask * 3; rw [r2.length_eq, em]; exact hr⟩ r2
theorem add_U (R : SetU P w s.heap a L (es, ep, t)) {x : Addr} {k : List Key} (hx : (kT P w).is s.heap k x) (hu : A.units < cLine) (few : L.length + 1 < 64) {Q : Bool → Shared → Prop}
    (h : ∀ b h' L' D, Heap.SameBut a s.heap h' → SetU P w h' a L' D → ((k ∈ L.map (·.2) → L' = L) ∧ (k ∉ L.map (·.2) → L'.Perm ((x, k) :: L))) → Q b { s with heap := h' }) :
    wpAny (model P w) A (setAddHashed a (.ref x) (hT P w k)) Q E s := by
  have ho := R.ob
  have hd : (sObj "set" (es, ep, t)).data = .set es ep t := rfl
  have hz := R.size
  have room : L.length * 5 < t.mask * 3 := R.room
  have T : TabOk t (L.map fun p => hT P w p.2) := R.tab
  unfold setAddHashed
  refine wpAny_holding ?_
  rw [show (100000 : Nat) = 99999 + 1 from rfl, setAddHashedIn_succ]
  refine wpAny_bind (wpAny_setState_of ho hd R.fits ?_)
  dsimp only
  refine wp_if_neg (by simp [byScan, Value.scannable]) ?_
  try refine wpAny_bind (wpAny_pure ?_)
  refine wpAny_bind (look_for R hx hu (fun hm => ?_) fun K hm hK hb => ?_)
  · dsimp only
    exact wpAny_pure (h false s.heap L _ (Heap.SameBut.refl a s.heap) R ⟨fun _ => rfl, fun z => absurd hm z⟩)
  · dsimp only
    refine wpAny_bind (wpAny_setState_of ho hd R.fits ?_)
    dsimp only
    obtain ⟨q1, q2, q3, q4, q5, q6, q7, q8, q9⟩ := T.put hK hb
    generalize hpt : t.put (way t.mask (hT P w k) K) = pt at q1 q3 q4 q5 q6 q7 q8 q9 ⊢
    obtain ⟨t1, p⟩ := pt
    dsimp only at q1 q3 q4 q5 q6 q7 q8 q9 ⊢
    subst q1
    have go : ∀ t2 : SetTable, t2.place = t1.place → t2.dummies = t1.dummies → t2.mask = t1.mask → t2.led = t1.led → wpAny (model P w) A (do
        storeSet a (SetTable.insertAt es (SetTable.below t.place (way t.mask (hT P w k) K)) (hT P w k, .ref x)) t2
        if (!false && t2.tooFull) = true then do
            setRelay a (SetTable.grown (es.size + 1))
            pure true
          else pure true) Q E s := by
      intro t2 c1 c2 c3 c4
      have fl : t2.fill = L.length + 1 := by
        have : t1.fill = L.length + 1 := by rw [q9, List.length_map]
        unfold SetTable.fill at this ⊢
        rw [c1, c2]
        exact this
      generalize hpp : SetTable.below t.place (way t.mask (hT P w k) K) = p at q2 q3 ⊢
      have rows1 : (SetTable.insertAt es p (hT P w k, Value.ref x)).toList = (L.take p ++ (x, k) :: L.drop p).map (rowT P w) := by
        rw [SetTable.toList_insertAt, R.rows, List.map_append, List.map_cons, List.map_take, List.map_drop]
        rfl
      have pm : (L.take p ++ (x, k) :: L.drop p).Perm ((x, k) :: L) := by
        refine List.perm_middle.trans ?_
        rw [List.take_append_drop]
      have T1 : TabOk t2 ((L.take p ++ (x, k) :: L.drop p).map fun p => hT P w p.2) := by
        rw [List.map_append, List.map_cons, List.map_take, List.map_drop]
        exact ⟨c1 ▸ q3.ris, c2 ▸ q3.dm, c1 ▸ q3.sz, c3 ▸ q3.mok, by rw [c1, c3]; exact q3.bd, by rw [c1, c3]; exact q3.reach⟩
      have nd1 : ((L.take p ++ (x, k) :: L.drop p).map (·.2)).Nodup := (pm.map (·.2)).nodup_iff.mpr (by rw [List.map_cons]; exact List.nodup_cons.mpr ⟨hm, R.nd⟩)
      have len1 : (L.take p ++ (x, k) :: L.drop p).length = L.length + 1 := pm.length_eq
      generalize L.take p ++ (x, k) :: L.drop p = L1 at rows1 pm T1 nd1 len1
      have sz1 : (SetTable.insertAt es p (hT P w k, Value.ref x)).size = L.length + 1 := by rw [← Array.length_toList, rows1, List.length_map, len1]
      generalize SetTable.insertAt es p (hT P w k, Value.ref x) = es1 at rows1 sz1 ⊢
      refine wpAny_bind (wpAny_storeSet_of ho hd ?_ (by rw [sz1, sizeLine_eq]; omega))
      have sb : Heap.SameBut a s.heap (s.heap.update a (Obj.putSet es1 t2)) := Heap.SameBut.update ..
      have ho1 := put_obj (es' := es1) (t' := t2) ho
      generalize s.heap.update a (Obj.putSet es1 t2) = h1 at sb ho1 ⊢
      have tup1 : ∀ p ∈ L1, (kT P w).is h1 p.2 p.1 := fun p hp => by
        rcases List.mem_cons.mp (pm.mem_iff.mp hp) with e | hp
        · rw [e]; exact is_but hx ho hd sb
        · exact is_but (R.tup p hp) ho hd sb
      have ld1 : w.params.followText "set-order" = true ∨ t2.led = true := R.led.imp id fun z => c4.trans (q5.trans z)
      by_cases hf : t2.tooFull = true
      · refine wp_if_pos (by simp [hf]) (wpAny_bind ?_)
        have full : (L.length + 1) * 5 ≥ t.mask * 3 := by
          unfold SetTable.tooFull at hf
          rw [decide_eq_true_eq, fl, c3, q4] at hf
          exact hf
        have lf : L1.length ≤ t2.mask := by rw [len1, c3, q4]; omega
        rw [hz]
        have two : (t.mask = 7 ∧ L.length = 4) ∨ (t.mask = 31 ∧ L.length = 18) := by rcases T.mok with e | e | e <;> omega
        have again : ∀ M, SetTable.sizeAbove (SetTable.grown (L.length + 1)) - 1 = M → MaskOk M → SetTable.sizeAbove (SetTable.grown (L.length + 1)) ≤ 128 → (L.length + 1) * 5 < M * 3 →
            wpAny (model P w) A (setRelay a (SetTable.grown (L.length + 1))) (fun _ s' => wpAny (model P w) A (pure true) Q E s') E { s with heap := h1 } := fun M m1 m2 m3 m4 => by
          refine relay_U (s := { s with heap := h1 }) ho1 rows1 T1 nd1 tup1 ld1 lf m1 m2 m3 (by rw [len1]; exact m4) fun h2 L2 D2 sb2 R2 pm2 => ?_
          exact wpAny_pure (h true h2 L2 D2 (sb.trans sb2) R2 ⟨fun z => absurd z hm, fun _ => pm2.trans pm⟩)
        rcases two with ⟨_, e⟩ | ⟨_, e⟩
        · exact again 31 (by rw [e, size_20]) (.inr (.inl rfl)) (by rw [e, size_20]; decide) (by omega)
        · exact again 127 (by rw [e, size_76]) (.inr (.inr rfl)) (by rw [e, size_76]; decide) (by omega)
      · refine wp_if_neg (by simp [hf]) (wpAny_pure (h true h1 L1 _ sb ⟨ho1, rows1, T1, nd1, tup1, ld1, ?_⟩ ⟨fun z => absurd z hm, fun _ => pm⟩))
        unfold SetTable.tooFull at hf
        rw [decide_eq_true_eq, fl] at hf
        show L1.length * 5 < t2.mask * 3
        omega
    by_cases hpl : t1.plain = true
    · refine wp_if_pos hpl (wpAny_bind (tup_val hx fun c => ?_))
      cases c with
      | true => simp only [if_true]; exact go t1 rfl rfl rfl rfl
      | false => simp only [Bool.false_eq_true, if_false]; exact go _ rfl rfl rfl rfl
    · refine wp_if_neg hpl (wpAny_bind (wpAny_pure ?_))
      simp only [if_true]
      exact go t1 rfl rfl rfl rfl
end
end Sm
end
section
set_option autoImplicit false
namespace Sm
open PySem PySem.Spec PyProof.Rows L2
open PySem.Froz (SD sObj)
theorem nodup_fits {α : Type} : ∀ {l m : List α}, l.Nodup → (∀ x ∈ l, x ∈ m) → l.length ≤ m.length
  | [], _, _, _ => Nat.zero_le _
  | x :: r, m, nd, h => by
    obtain ⟨n1, n2⟩ := List.nodup_cons.mp nd
    obtain ⟨a, b, rfl⟩ := List.append_of_mem (h x List.mem_cons_self)
    have := nodup_fits (m := a ++ b) n2 fun y hy => by
      rcases List.mem_append.mp (h y (List.mem_cons_of_mem _ hy)) with q | q
      · exact List.mem_append_left _ q
      · rcases List.mem_cons.mp q with q | q
        · exact absurd (q ▸ hy) n1
        · exact List.mem_append_right _ q
    simp only [List.length_append, List.length_cons] at this ⊢
    omega
section
variable {P : Program} {w : World} {A : Around} {E : Value → Shared → Prop} {s : Shared}
theorem SetU.at {h h' : Heap} {a : Addr} {L : TL} {D : SD} (R : SetU P w h a L D) (ka : ∀ o, h.get? a = some o → h'.get? a = some o) (kt : ∀ p ∈ L, ∀ o, h.get? p.1 = some o → h'.get? p.1 = some o) : SetU P w h' a L D :=
  ⟨ka _ R.ob, R.rows, R.tab, R.nd, fun p hp => is_all (R.tup p hp) (kt p hp), R.led, R.room⟩
/-- set.update's loop over tuples -/
theorem loopU {I : Addr} {fp wr : List Addr} {G : Array GenState → Array GenState → Prop} {n : Nat} {Pv : Nat → Value → Prop} {St : Nat → Shared → Prop} {R : Result → Shared → Prop}
    (W : WalksS P w A.in1 I fp wr G n Pv St) (S : Addr) (hSf : S ∉ fp) (hu : A.in1.units < cLine) (U : List (List Key)) (hU : U.length + 1 < 64) : ∀ (xs : TL) (i : Nat) (L : TL) (D : SD) (s : Shared), i + xs.length = n → St i s → SetU P w s.heap S L D →
      (∀ p ∈ xs, (kT P w).is s.heap p.2 p.1 ∧ p.1 ∉ S :: wr ∧ p.2 ∈ U) → (∀ p ∈ L, p.1 ∉ S :: wr ∧ p.2 ∈ U) → (∀ j v p, Pv (i + j) v → xs[j]? = some p → v = .ref p.1) →
      (∀ s' L' D', Moved (S :: wr) G s s' → SetU P w s'.heap S L' D' → (∀ q ∈ L', q ∈ L ∨ q ∈ xs) → (∀ k, k ∈ L.map (·.2) ∨ k ∈ xs.map (·.2) → k ∈ L'.map (·.2)) → R (.ok (.ret .none)) s') →
      codeAny (model P w) A (.builtin "set.update.loop" ⟨[.ref S, .ref I], []⟩) R s := by
  intro xs
  induction xs with
  | nil =>
    intro i L D s hk hst hS _ hL _ hR
    have hin : i = n := by simpa using hk
    subst hin
    refine codeAny_builtin F.entry_set_update_loop ?_
    rw [Around.under_plainId F.plain_set_update_loop _]
    show wpAny _ A.in1 (pyNext (.ref I) >>= _) _ _ s
    refine wpAny_bind (W.done s _ _ hst fun s' hm => ?_)
    show wpAny _ A.in1 (ret Value.none) _ _ s'
    refine wpAny_pure (hR s' L D (hm.mono fun b hb => List.mem_cons_of_mem _ hb) (hS.at (fun o e => hm.heap S o (fun h => hSf (W.sub _ h)) e) fun p hp o e => hm.heap _ o (fun z => (hL p hp).1 (List.mem_cons_of_mem _ z)) e) (fun q hq => .inl hq) fun k hk => ?_)
    rcases hk with hk | hk
    · exact hk
    · cases hk
  | cons p xs ih =>
    intro i L D s hk hst hS hx hL hv hR
    have hk : i + (xs.length + 1) = n := hk
    refine codeAny_builtin F.entry_set_update_loop ?_
    rw [Around.under_plainId F.plain_set_update_loop _]
    show wpAny _ A.in1 (pyNext (.ref I) >>= _) _ _ s
    refine wpAny_bind (W.item i s _ _ (by omega) hst fun v s' hP hst' hm => ?_)
    have ev := hv 0 v p hP rfl
    subst ev
    have keepS : ∀ o, s.heap.get? S = some o → s'.heap.get? S = some o := fun o e => hm.heap S o (fun h => hSf (W.sub _ h)) e
    have keepT : ∀ q : Addr, q ∉ S :: wr → ∀ o, s.heap.get? q = some o → s'.heap.get? q = some o := fun q hq o e => hm.heap q o (fun z => hq (List.mem_cons_of_mem _ z)) e
    have hS' : SetU P w s'.heap S L D := hS.at keepS fun q hq => keepT _ (hL q hq).1
    obtain ⟨p1, p2, p3⟩ := hx p List.mem_cons_self
    have hp' : (kT P w).is s'.heap p.2 p.1 := is_all p1 (keepT _ p2)
    have few : L.length + 1 < 64 := by
      have := nodup_fits hS.nd (m := U) fun k hk => by
        obtain ⟨q, hq, rfl⟩ := List.mem_map.mp hk
        exact (hL q hq).2
      rw [List.length_map] at this
      omega
    show wpAny _ A.in1 (holding [Value.ref p.1] (setAdd S (.ref p.1)) >>= _) _ _ s'
    refine wpAny_bind (wpAny_holding ?_)
    unfold setAdd
    refine wpAny_holding (wpAny_bind ((kT P w).pyHash (k := p.2) hu hp' ?_))
    obtain ⟨es, ep, t⟩ := D
    refine add_U (s := { s' with toks := s'.toks + (kT P w).draws p.2 }) hS' hp' hu few fun b h' L' D' sb hS2 hL2 => ?_
    have inL' : ∀ q ∈ L', q ∈ L ∨ q = p := fun q hq => by
      by_cases hm : p.2 ∈ L.map (·.2)
      · rw [hL2.1 hm] at hq
        exact .inl hq
      · rcases List.mem_cons.mp ((hL2.2 hm).mem_iff.mp hq) with e | e
        · exact .inr e
        · exact .inl e
    have keysL' : ∀ k, k ∈ L.map (·.2) ∨ k = p.2 → k ∈ L'.map (·.2) := fun k hk => by
      by_cases hm : p.2 ∈ L.map (·.2)
      · rw [hL2.1 hm]
        rcases hk with hk | rfl
        · exact hk
        · exact hm
      · refine ((hL2.2 hm).map (·.2)).mem_iff.mpr ?_
        rw [List.map_cons]
        rcases hk with hk | rfl
        · exact List.mem_cons_of_mem _ hk
        · exact List.mem_cons_self
    refine wpAny_pure ⟨plainId_quiet F.plain_set_update_loop _, ih (i + 1) L' D' _ (by omega) (W.frame _ s' _ _ hst' (Nat.le_add_right _ _) fun b hb o e => ?_) hS2 (fun q hq => ?_) (fun q hq => ?_) (fun j v k2 hp hj => hv (j + 1) v k2 (by rw [show i + (j + 1) = i + 1 + j by omega]; exact hp) hj) fun s2 L2 D2 hm2 hS3 hin hkeys => ?_⟩
    · rw [sb.2 b fun h => hSf (h ▸ hb)]; exact e
    · obtain ⟨q1, q2, q3⟩ := hx q (List.mem_cons_of_mem _ hq)
      refine ⟨is_all q1 fun o e => ?_, q2, q3⟩
      show h'.get? q.1 = some o
      rw [sb.2 q.1 fun z => q2 (z ▸ List.mem_cons_self)]
      exact keepT _ q2 o e
    · rcases inL' q hq with e | rfl
      · exact hL q e
      · exact ⟨p2, p3⟩
    · refine hR s2 L2 D2 (Moved.trans W.gtrans ((hm.mono fun b hb => List.mem_cons_of_mem _ hb).then_heap (Nat.le_add_right _ _) fun b o hb e => ?_) hm2) hS3 (fun q hq => ?_) fun k hk => hkeys k ?_
      · rw [sb.2 b fun h => hb (h ▸ List.mem_cons_self)]; exact e
      · rcases hin q hq with z | z
        · rcases inL' q z with z | rfl
          · exact .inl z
          · exact .inr List.mem_cons_self
        · exact .inr (List.mem_cons_of_mem _ z)
      · rcases hk with hk | hk
        · exact .inl (keysL' k (.inl hk))
        · rw [List.map_cons] at hk
          rcases List.mem_cons.mp hk with rfl | hk
          · exact .inl (keysL' _ (.inr rfl))
          · exact .inr hk
theorem setU_new {h : Heap} {a : Addr} (ho : h.get? a = some (newSetO w)) : SetU P w h a [] (#[], 0, .fresh 0 0 (!w.params.followText "set-order")) := by
  have hl : w.params.followText "set-order" = true ∨ (!w.params.followText "set-order") = true := by
    cases w.params.followText "set-order"
    · exact .inr rfl
    · exact .inl rfl
  refine ⟨ho, rfl, ⟨List.Pairwise.nil, rfl, rfl, .inl rfl, ?_, ?_⟩, .nil, ?_, hl, by show 0 * 5 < 7 * 3; decide⟩
  · intro x hx; cases hx
  · intro i h j hi; simp at hi
  · intro p hp; cases hp
/-- set(xs) of a list of tuples -/
theorem call_setU {l : Addr} {items : Array Value} (xs : TL) (U : List (List Key)) {Q : Value → Shared → Prop} (hh : A.handled = none) (hu : A.units + 64 < cLine) (hl : s.heap.IsList l items) (hit : items.toList = xs.map fun p => .ref p.1)
    (hx : ∀ p ∈ xs, (kT P w).is s.heap p.2 p.1 ∧ p.2 ∈ U) (hU : U.length + 1 < 64)
    (h : ∀ (h' : Heap) (tk : Nat) (L : TL) (D : SD), SetU P w h' s.heap.objs.size L D → (∀ q ∈ L, q ∈ xs) → (∀ k, k ∈ xs.map (·.2) → k ∈ L.map (·.2)) → (∀ b o, s.heap.get? b = some o → h'.get? b = some o) → Q (.ref s.heap.objs.size) { s with heap := h', toks := tk }) :
    wpAny (model P w) A (call (.type "set") [.ref l]) Q E s := by
  refine set_of_list (Good := fun h' => ∃ L D, SetU P w h' s.heap.objs.size L D ∧ (∀ q ∈ L, q ∈ xs) ∧ ∀ k, k ∈ xs.map (·.2) → k ∈ L.map (·.2)) hh hl (fun A' R hA hA2 k => ?_) fun h' tk ⟨L, D, g1, g2, g3⟩ kp => h h' tk L D g1 g2 g3 kp
  have hlS : l < s.heap.objs.size := by
    obtain ⟨o, e, _⟩ := hl
    exact Heap.lt_size e
  have hl1 : (s.heap.push (newSetO w)).IsList l items := hl.push _
  have hz : (s.heap.push (newSetO w)).objs.size = s.heap.objs.size + 1 := Heap.size_push ..
  have hneI : l ≠ (s.heap.push (newSetO w)).objs.size := by rw [hz]; exact Nat.ne_of_lt (Nat.lt_succ_of_lt hlS)
  have hSf : s.heap.objs.size ∉ [(s.heap.push (newSetO w)).objs.size, l] := by
    rw [hz]
    simp only [List.mem_cons, List.not_mem_nil, or_false, not_or]
    exact ⟨Nat.ne_of_lt (Nat.lt_succ_self _), Nat.ne_of_gt hlS⟩
  have hlen : items.size = xs.length := by rw [← Array.length_toList, hit, List.length_map]
  have hget : (loopHeap w s.heap l).get? s.heap.objs.size = some (newSetO w) := Heap.get?_push_of_some _ (Heap.get?_push_size _ rfl)
  have old : ∀ b o, s.heap.get? b = some o → (loopHeap w s.heap l).get? b = some o := fun b o e => Heap.get?_push_of_some _ (Heap.get?_push_of_some _ e)
  have far : ∀ b o, s.heap.get? b = some o → b ∉ [s.heap.objs.size, (s.heap.push (newSetO w)).objs.size] := fun b o e => by
    have hb0 : b < s.heap.objs.size := Heap.lt_size e
    simp only [List.mem_cons, List.not_mem_nil, or_false, not_or]
    rw [hz]
    exact ⟨Nat.ne_of_lt hb0, Nat.ne_of_lt (Nat.lt_succ_of_lt hb0)⟩
  have hv : ∀ (j : Nat) (v : Value) (p : Addr × List Key), items[j]? = some v → xs[j]? = some p → v = .ref p.1 := fun j v p h1 h2 => by
    rw [← Array.getElem?_toList, hit, List.getElem?_map, h2] at h1
    exact (Option.some.inj h1).symm
  refine loopU ((Walks.list (A := A'.in1) (by simp [hA]) _ l hneI items).toS) s.heap.objs.size hSf (by show A'.units + 1 < cLine; omega) U hU xs 0 [] _ _ (by omega) ⟨⟨_, Heap.get?_push_size _ rfl, rfl, rfl⟩, (hl1.push _)⟩ (setU_new hget) (fun p hp => ?_) (fun p hp => by cases hp) (fun j v p hp hj => hv j v p (by simpa using hp) hj) fun s' L D hm hS' hin hkeys => ?_
  · obtain ⟨q1, q2⟩ := hx p hp
    refine ⟨is_all q1 fun o e => old _ _ e, ?_, q2⟩
    obtain ⟨o, _, _, e, _⟩ := q1
    exact far _ _ e
  · refine k s' hm.gens hm.drawn hm.os ⟨L, D, hS', fun q hq => (hin q hq).resolve_left (fun z => (by cases z)), fun k hk => hkeys k (.inr hk)⟩ fun b o e => hm.heap b o (far b o e) (old b o e)
end
end Sm
end
section
set_option autoImplicit false
namespace Sm
open PySem PySem.Spec PyProof.Rows L2
open PySem.Froz (SD sObj)
noncomputable def keyPy : Key → PyData
  | .inl i => .int i
  | .inr x => .str x
noncomputable def keysPy (k : List Key) : PyData := .tuple (k.map keyPy)
theorem keyPy_of : ∀ {d : D} {k : Key}, toKey d = some k → ofPy (keyPy k) = d
  | .int i, k, e => by cases e; rfl
  | .str x, k, e => by cases e; rfl
theorem keysPy_of : ∀ {ds : List D} {k : List Key}, toKeys ds = some k → ofPys (k.map keyPy) = ds
  | [], k, e => by cases e; rfl
  | d :: ds, k, e => by
    unfold toKeys at e
    split at e
    · rename_i k1 ks e1 e2
      cases e
      show ofPy (keyPy k1) :: ofPys (ks.map keyPy) = _
      rw [keyPy_of e1, keysPy_of e2]
    · cases e
theorem keyT_of {d : D} {k : List Key} (e : toKeyT d = some k) : ofPy (keysPy k) = d := by
  unfold toKeyT at e
  split at e
  · show D.tup (ofPys (k.map keyPy)) = _
    rw [keysPy_of e]
  · cases e
theorem keysPy_depth (k : List Key) : (keysPy k).depth ≤ 8 := by
  have key : ∀ k : List Key, PyData.depthAll (k.map keyPy) ≤ 4 := by
    intro k
    induction k with
    | nil => unfold List.map PyData.depthAll; omega
    | cons x r ih =>
      rw [List.map_cons]
      unfold PyData.depthAll
      have hx : (keyPy x).depth ≤ 4 := by
        cases x with
        | inl i => show PyData.depth (.int i) ≤ 4; unfold PyData.depth; omega
        | inr i => show PyData.depth (.str i) ≤ 4; unfold PyData.depth; omega
      omega
  unfold keysPy PyData.depth
  have := key k
  omega
theorem perm_map_back {α β : Type} (f : α → β) : ∀ {l : List α} {vs : List β}, vs.Perm (l.map f) → ∃ l' : List α, l'.Perm l ∧ vs = l'.map f
  | [], vs, h => ⟨[], .refl _, by rw [List.map_nil] at h; exact List.perm_nil.mp h⟩
  | x :: r, vs, h => by
    rw [List.map_cons] at h
    obtain ⟨a, b, rfl⟩ := List.append_of_mem (h.mem_iff.mpr List.mem_cons_self)
    obtain ⟨l', p, e⟩ := perm_map_back f ((List.perm_cons _).mp (List.perm_middle.symm.trans h))
    refine ⟨l'.take a.length ++ x :: l'.drop a.length, List.perm_middle.trans (by rw [List.take_append_drop]; exact p.cons x), ?_⟩
    rw [List.map_append, List.map_cons, List.map_take, List.map_drop, ← e]
    simp
section
variable {P : Program} {w : World} {A : Around} {E : Value → Shared → Prop} {s : Shared}
theorem reads_U {h : Heap} {k : List Key} {a : Addr} (x : (kT P w).is h k a) : Reads h (.ref a) (keysPy k) [] := by
  obtain ⟨o, items, n, h1, h2, h3, h4⟩ := x
  have key : ∀ {k : List Key} {vs : List Value}, ItemsAre (mixKind P w) k vs → ReadsAll h vs (k.map keyPy) [] := by
    intro k vs q
    induction q with
    | nil => exact .nil
    | @cons k v ks vs h1 _ ih =>
      rw [List.map_cons]
      refine ReadsAll.cons (as := []) (bs := []) ?_ ih
      rcases keyIs_shape h1 with ⟨i, t, rfl, rfl⟩ | ⟨x, t, rfl, rfl⟩
      · exact .int i t
      · exact .str x t
  exact .tuple h1 h2 h3 (key h4)
theorem each_on {Rv : Value → PyData → Prop} {f : Addr × List Key → Value} {k : Addr × List Key → PyData} : ∀ {l : TL}, (∀ p ∈ l, Rv (f p) (k p)) → W.EachIs Rv (l.map f) (l.map k)
  | [], _ => .nil
  | p :: r, h => .cons (h p List.mem_cons_self) (each_on fun q hq => h q (List.mem_cons_of_mem _ hq))
/-- sorted of a set of tuples -/
theorem sortedU {a : Addr} {L : TL} {D : SD} {Q : Value → Shared → Prop} (R : SetU P w s.heap a L D) (hh : A.handled = none) (few : L.length < 64) (hu : A.units + 16 < cLine) {Rv : Value → PyData → Prop} (hR : ∀ p ∈ L, Rv (.ref p.1) (keysPy p.2))
    (al : W.AllAlike (L.map fun p => keysPy p.2)) (so : W.Sortable (L.map fun p => keysPy p.2))
    (hQ : ∀ s' p (out : Array Value) (c : Nat) (ps : List PyData), (∀ b o, s.heap.get? b = some o → s'.heap.get? b = some o) → s'.gens = s.gens → s'.os = s.os → s.heap.objs.size ≤ p →
      s'.heap.get? p = some (seqObj "list" out c) → out.size = L.length → W.EachIs Rv out.toList (ps.mergeSort (W.dataLe false fun p => p)) → ps.Perm (L.map fun p => keysPy p.2) → Q (.ref p) s') :
    wpAny (model P w) A (call (.builtin "sorted") [.ref a]) Q E s := by
  obtain ⟨es, ep, t⟩ := D
  have hz := R.size
  have hb : es.size < scanBound := by unfold scanBound; omega
  have hrows : es.toList = L.map (rowT P w) := R.rows
  refine Calls.call_function_entry kind_sorted plain_sorted entry_sorted (args_sorted1 _) ?_
  unfold Builtin.«sorted»
  refine wpAny_bind (m := checkCount "sorted" 1 1 _) (wpAny_pure ?_)
  refine wpAny_bind (collect_set (A := A.in1) hh ⟨_, R.ob, rfl, rfl⟩ R.fits hb R.tab.ris R.led fun s1 vs k1 hz1 g1 o1 pm => ?_)
  rw [hrows, List.map_map] at pm
  obtain ⟨L', pl, rfl⟩ := perm_map_back (f := fun p : Addr × List Key => Value.ref p.1) pm
  have hlen : (L'.map fun p : Addr × List Key => Value.ref p.1).length = L.length := by rw [List.length_map, pl.length_eq]
  have pk : (L'.map fun p : Addr × List Key => keysPy p.2).Perm (L.map fun p => keysPy p.2) := pl.map _
  refine wpAny_bind (wpAny_newList ?_ (by rw [hlen, sizeLine_eq]; omega))
  have hoL : (s1.heap.push (seqObj "list" (L'.map fun p : Addr × List Key => Value.ref p.1).toArray 0)).get? s1.heap.objs.size = some (seqObj "list" (L'.map fun p : Addr × List Key => Value.ref p.1).toArray 0) := Heap.get?_push_size _ rfl
  refine wpAny_bind (wpAny_holding (W.list_sort_data (s := { s1 with heap := s1.heap.push (seqObj "list" (L'.map fun p : Addr × List Key => Value.ref p.1).toArray 0) }) (R := Rv) (enc := fun p => p) (bs := L'.map fun p => keysPy p.2) hoL ?e1 ?e2 ?e3 ?e4 ?e5 ?e6 fun out ho he => ?_))
  case e1 => exact each_on fun p hp => hR p (pl.mem_iff.mp hp)
  case e2 => exact each_on fun p hp => ⟨[], reads_U (is_all (is_all (R.tup p (pl.mem_iff.mp hp)) fun o e => k1 _ _ e) fun o e => Heap.get?_push_of_some _ e), by simp⟩
  case e3 => intro d hd d' hd'; simp only [List.map_id'] at hd hd'; exact al d (pk.mem_iff.mp hd) d' (pk.mem_iff.mp hd')
  case e4 =>
    simp only [List.map_id']
    exact so.imp (fun q d hd => q d (pk.mem_iff.mp hd)) fun q d hd => q d (pk.mem_iff.mp hd)
  case e5 => rw [List.length_map, pl.length_eq, sizeLine_eq]; omega
  case e6 =>
    intro b hb
    obtain ⟨p, _, rfl⟩ := List.mem_map.mp hb
    have := keysPy_depth p.2
    show A.units + 1 + 1 + _ < cLine
    omega
  obtain ⟨c, hc⟩ := sortedHeap_at (vs := L'.map fun p : Addr × List Key => Value.ref p.1) (out := out.toArray) hoL
  refine wpAny_pure ⟨_, rfl, hQ _ s1.heap.objs.size _ c (L'.map fun p => keysPy p.2) (fun b u e => ?_) g1 o1 hz1 hc (by rw [List.size_toArray, ho, List.length_map, pl.length_eq]) (by simpa using he) pk⟩
  have q := k1 b u e
  have hlt := Heap.lt_size q
  show (sortedHeap (s1.heap.push (seqObj "list" (L'.map fun p : Addr × List Key => Value.ref p.1).toArray 0)) s1.heap.objs.size (L'.map fun p : Addr × List Key => Value.ref p.1) _).get? b = some u
  rw [sortedHeap_old (Nat.ne_of_lt hlt) (by rw [size_push']; exact Nat.lt_succ_of_lt hlt)]
  exact Heap.get?_push_of_some _ q
/-- a set of tuples as an object: what stands at its address alone -/
noncomputable def SetUO (P : Program) (w : World) (a : Addr) (L : TL) : HO := .ext fun h => ∃ D : SD, h.get? a = some (sObj "set" D) ∧ D.1.toList = L.map (rowT P w) ∧ TabOk D.2.2 (L.map fun p => hT P w p.2) ∧ (L.map (·.2)).Nodup ∧ (w.params.followText "set-order" = true ∨ D.2.2.led = true) ∧ L.length * 5 < D.2.2.mask * 3
theorem setUO_ok {P : Program} {w : World} {H : Hp} {h : Heap} {a : Addr} {L : TL} {D : SD} (R : SetU P w h a L D) : ObjOk P w H h a (SetUO P w a L) :=
  ⟨⟨D, R.ob, R.rows, R.tab, R.nd, R.led, R.room⟩, ⟨_, R.ob⟩, fun _ _ p k => by
    obtain ⟨D, e, r⟩ := p
    exact ⟨D, k _ e, r⟩⟩
/-- the tuples as the text's values -/
noncomputable abbrev rSU (g : G) (P : Program) (w : World) : Rl (List (List Key)) V := fun H m u v => ∃ a L, v = .ref a ∧ H a = some (SetUO P w a L) ∧ (∀ p ∈ L, ∃ d, toKeyT d = some p.2 ∧ DV g H m d (.ref p.1)) ∧ (L.map (·.2)).Perm u
noncomputable def memK (k : List Key) : List (List Key) → Bool
  | [] => false
  | x :: r => eqK k x || memK k r
where eqK : List Key → List Key → Bool
  | [], [] => true
  | .inl i :: a, .inl j :: b => decide (i = j) && eqK a b
  | .inr x :: a, .inr y :: b => eqNs x.cps.toList y.cps.toList && eqK a b
  | _, _ => false
theorem eqK_iff : ∀ {a b : List Key}, memK.eqK a b = true ↔ a = b
  | [], [] => by simp [memK.eqK]
  | [], _ :: _ => by simp [memK.eqK]
  | .inl _ :: _, [] => by simp [memK.eqK]
  | .inr _ :: _, [] => by simp [memK.eqK]
  | .inl i :: a, .inl j :: b => by simp [memK.eqK, eqK_iff (a := a) (b := b)]
  | .inl i :: a, .inr j :: b => by simp [memK.eqK]
  | .inr i :: a, .inl j :: b => by simp [memK.eqK]
  | .inr x :: a, .inr y :: b => by
    unfold memK.eqK
    rw [Bool.and_eq_true, strB_iff, eqK_iff (a := a) (b := b), List.cons.injEq, Sum.inr.injEq]
theorem memK_iff {k : List Key} : ∀ {l : List (List Key)}, memK k l = true ↔ k ∈ l
  | [] => by simp [memK]
  | x :: r => by
    unfold memK
    rw [Bool.or_eq_true, eqK_iff, memK_iff (l := r), List.mem_cons]
/-- each once -/
noncomputable def setK : List (List Key) → List (List Key)
  | [] => []
  | k :: r => if memK k (setK r) = true then setK r else k :: setK r
theorem setK_mem {k : List Key} : ∀ {l : List (List Key)}, k ∈ setK l ↔ k ∈ l
  | [] => by simp [setK]
  | x :: r => by
    unfold setK
    split
    · rename_i h
      rw [memK_iff] at h
      rw [setK_mem (l := r), List.mem_cons]
      exact ⟨.inr, fun z => z.elim (fun e => e ▸ setK_mem.mp h) id⟩
    · rw [List.mem_cons, List.mem_cons, setK_mem (l := r)]
theorem setK_nodup : ∀ {l : List (List Key)}, (setK l).Nodup
  | [] => .nil
  | x :: r => by
    unfold setK
    split
    · exact setK_nodup
    · rename_i h
      rw [memK_iff] at h
      exact List.nodup_cons.mpr ⟨h, setK_nodup⟩
noncomputable def cSetT (ca : CA) : SA → HA → R (List (List Key)) := fun E A => (ca E A).bind fun ds A1 => match ds with
  | [d] => match (listOf A1 d).bind (optL toKeyT) with
    | some ns => if ns.length < 100000 ∧ (setK ns).length < 63 then .ok (setK ns) A1 else .no
    | none => .no
  | _ => .no
noncomputable def cSortT (c : SA → HA → R (List (List Key))) : CE := fun E A => (c E A).bind fun u A1 =>
  if u.length < 63 ∧ alikeB (u.map keysPy) = true ∧ sortableB (u.map keysPy) = true ∧ chainB pltB (sortB pltB (u.map keysPy)) = true then .ok (.lst (ofPys (sortB pltB (u.map keysPy)))) A1 else .no
noncomputable def JSU (F : Sm.F) (e : Expr) (c : SA → HA → R (List (List Key))) : Prop := ∀ W X, Ok F W X → PE X e (Tx (rSU F.g X.prog F.g.w) F.g W c)
theorem optL_pair {g : G} {H : Hp} {m : List Addr} {X : Cx} {pins : List (Addr × Obj)} {σ : St} {s : Shared} (hK : X.K = g.K) (I : Inv X pins σ H s) : ∀ {ds : List D} {ns : List (List Key)} {vs : List V}, optL toKeyT ds = some ns → DVs g H m ds vs →
    ∃ xs : TL, vs = xs.map (fun p => V.ref p.1) ∧ xs.map (·.2) = ns ∧ ∀ p ∈ xs, (kT X.prog X.w).is s.heap p.2 p.1 ∧ ∃ d, toKeyT d = some p.2 ∧ DV g H m d (.ref p.1)
  | [], ns, vs, e, r => by cases e; cases r; exact ⟨[], rfl, rfl, fun p hp => nomatch hp⟩
  | d :: ds, ns, vs, e, r => by
    cases r with
    | cons h hs =>
    unfold optL at e
    split at e
    · rename_i b bs' e1 e2
      cases e
      obtain ⟨xs, h1, h2, h3⟩ := optL_pair hK I e2 hs
      obtain ⟨b0, rfl, hb⟩ := tkey_is hK I e1 h
      refine ⟨(b0, b) :: xs, by rw [h1]; rfl, by rw [List.map_cons, h2], fun p hp => ?_⟩
      rcases List.mem_cons.mp hp with rfl | hp
      · exact ⟨hb, d, e1, h⟩
      · exact h3 p hp
    · cases e
theorem refs_vals : ∀ {xs : TL} {us : List Value}, Vals (xs.map fun p => V.ref p.1) us → us = xs.map fun p => Value.ref p.1
  | [], _, h => by cases h; rfl
  | p :: xs, us, h => by
    obtain ⟨u, us', rfl, r1, r2⟩ := vals_cons h
    have r1 : u = .ref p.1 := r1
    rw [r1, refs_vals r2]
    rfl
variable {F : Sm.F} {pos : Pos}
theorem jsu_set {x : Expr} {ca : CA} {q : Pos} (hg : Gls F.scope "set") (hm : F.g.mg "set" = none) (ha : JA F [x] ca)
    (he : ∀ X : Cx, starEach [x] X.env = (false, eval x X.env) :: starEach [] X.env := by intro _; rfl) (hpl : ∀ X : Cx, (backTo pos (starEach ([] : List Expr) X.env)).any (·.1) = false := by intro _; rfl) : JSU F (.Call (.Name "set" q) [x] [] pos) (cSetT ca) := by
  intro W X ok
  refine ⟨fun pins s σ H Q I hq => ?_⟩
  obtain ⟨m, E, A, rh, rs, q⟩ := hq
  have q : Po (rSU F.g X.prog F.g.w) F.g m H W σ ((ca E A).bind fun ds A1 => match ds with
    | [d] => match (listOf A1 d).bind (optL toKeyT) with
      | some ns => if ns.length < 100000 ∧ (setK ns).length < 63 then .ok (setK ns) A1 else .no
      | none => .no
    | _ => .no) Q := q
  refine wpAny_Call_Name_kw (ld_blt I (ok.gl hg) (by rw [ok.mg]; exact hm) (by decide +kernel : bootBuiltins "set" = some (.type "set")) ?_ (by decide) (by decide))
  refine PyProof.Rows.callWith_type1 (thn ((ha W X ok).run pos pins s σ H (fun vs H1 => ∃ m1 ds A1, RH F.g H1 m1 A1 ∧ DVs F.g H1 m1 ds vs ∧ Po (rSU F.g X.prog F.g.w) F.g m1 H1 W σ (match ds with
    | [d] => match (listOf A1 d).bind (optL toKeyT) with
      | some ns => if ns.length < 100000 ∧ (setK ns).length < 63 then .ok (setK ns) A1 else .no
      | none => .no
    | _ => .no) Q) I ⟨m, E, A, rh, rs, Po.bind q fun m1 H1 ds xs A1 g1 rh1 dxs q1 => ⟨m1, ds, A1, rh1, dxs, q1⟩⟩) fun us s1 ⟨vs, H1, I1, r1, m1, ds, A1, rh1, dxs, q1⟩ => ?_) (he X) (hpl X)
  split at q1
  · obtain ⟨v, rfl, dv⟩ := dxs.one
    split at q1
    · rename_i ns hns
      split at q1
      · rename_i hz
        obtain ⟨ds, h1, h2⟩ := Option.bind_eq_some_iff.mp hns
        obtain ⟨p, ws, rfl, sq, r⟩ := listOf_rel rh1 dv h1
        obtain ⟨xs, rfl, e2, h3⟩ := optL_pair ok.K I1 h2 r
        subst e2
        rw [← ok.K] at sq
        obtain ⟨its, rv, hl, _⟩ := I1.list sq
        rw [Vals.ref1 r1]
        refine call_setU (P := X.prog) (w := X.w) xs (setK (xs.map (·.2))) (I1.ok.hd ok.calm) (by have := ok.room.un; omega) hl.isList (by simpa using refs_vals rv) (fun p hp => ⟨(h3 p hp).1, setK_mem.mpr (List.mem_map_of_mem hp)⟩) (by omega) fun h' tk L D R hin hkeys kp => ?_
        have ht : H1 s1.heap.objs.size = none := I1.hok.fresh (Nat.le_refl _)
        refine ⟨.ref s1.heap.objs.size, upd H1 s1.heap.objs.size (SetUO X.prog X.w s1.heap.objs.size L), I1.laid (t' := tk) kp (Nat.le_refl _) (setUO_ok R), rfl, ?_⟩
        refine q1 m1 _ _ (Gr.new ht) (rh1.upd ht) ⟨_, L, rfl, by rw [ok.w]; exact upd_same, fun p hp => ?_, ?_⟩
        · obtain ⟨d, d1, d2⟩ := (h3 p (hin p hp)).2
          exact ⟨d, d1, d2.mono (Gr.new ht)⟩
        · refine (perm_of_in R.nd (fun k hk => ?_) (Nat.le_antisymm (nodup_fits R.nd fun k hk => ?_) (nodup_fits setK_nodup fun k hk => hkeys k (setK_mem.mp hk)))).symm
          · obtain ⟨p, hp, rfl⟩ := List.mem_map.mp hk
            exact setK_mem.mpr (List.mem_map_of_mem (hin p hp))
          · obtain ⟨p, hp, rfl⟩ := List.mem_map.mp hk
            exact setK_mem.mpr (List.mem_map_of_mem (hin p hp))
      · exact q1.elim
    · exact q1.elim
  · exact q1.elim
theorem sortP_perm {ps qs : List PyData} (p : qs.Perm ps) (h : chainB pltB (sortB pltB ps) = true) : qs.mergeSort (W.dataLe false fun p => p) = sortB pltB ps := by
  have hle : ∀ a b, W.dataLe false (fun p => p) a b = !pltB b a := fun a b => by rw [W.dataLe_eq]; rfl
  refine sort_uniq (lt := pltB) ((List.mergeSort_perm _ _).trans (p.trans sortB_perm.symm)) ?_ (chain_pw plt_trans h)
  refine (List.pairwise_mergeSort (le := W.dataLe false fun p => p) ?_ ?_ qs).imp fun {a b} z => ?_
  · intro a b c h1 h2
    rw [hle] at h1 h2 ⊢
    cases h3 : pltB c a with
    | false => rfl
    | true =>
      rcases lex_negTrans (O := itemOrd) _ (W.keyToks b) _ h3 with k | k
      · rw [show pltB c b = true from k] at h2; cases h2
      · rw [show pltB b a = true from k] at h1; cases h1
  · intro a b
    rw [hle, hle]
    cases h3 : pltB b a with
    | false => rfl
    | true =>
      cases h4 : pltB a b with
      | false => rfl
      | true =>
        have := plt_trans _ _ _ h3 h4
        rw [show pltB b b = false from lex_irrefl (O := itemOrd) _] at this
        cases this
  · rw [hle] at z
    simpa using z
theorem je_sortT {x : Expr} {c : SA → HA → R (List (List Key))} {q : Pos} (hg : Gls F.scope "sorted") (hm : F.g.mg "sorted" = none) (hx : JSU F x c)
    (he : ∀ X : Cx, starEach [x] X.env = (false, eval x X.env) :: starEach [] X.env := by intro _; rfl) (hpl : ∀ X : Cx, (backTo pos (starEach ([] : List Expr) X.env)).any (·.1) = false := by intro _; rfl) : JE F (.Call (.Name "sorted" q) [x] [] pos) (cSortT c) := by
  intro W X ok
  refine ⟨fun pins s σ H Q I hq => ?_⟩
  obtain ⟨m, E, A, rh, rs, q⟩ := hq
  have q : Po (rE F.g) F.g m H W σ ((c E A).bind fun u A1 => if u.length < 63 ∧ alikeB (u.map keysPy) = true ∧ sortableB (u.map keysPy) = true ∧ chainB pltB (sortB pltB (u.map keysPy)) = true then .ok (.lst (ofPys (sortB pltB (u.map keysPy)))) A1 else .no) Q := q
  refine wpAny_Call_Name_kw (ld_blt I (ok.gl hg) (by rw [ok.mg]; exact hm) (by decide +kernel : bootBuiltins "sorted" = some (.builtin "sorted")) ?_ (by decide) (by decide))
  have pa : PA X [x] (fun σ H R => Tx (rSU F.g X.prog F.g.w) F.g W c σ H fun v H' => R [v] H') := PA.imp (pa_cons (hx W X ok) pa_nil (he X)) fun σ H R h => h
  refine PyProof.Rows.callWith_builtin1 (thn (pa.run pos pins s σ H (fun vs H1 => ∃ m1 u A1 v, vs = [v] ∧ RH F.g H1 m1 A1 ∧ rSU F.g X.prog F.g.w H1 m1 u v ∧ Po (rE F.g) F.g m1 H1 W σ (if u.length < 63 ∧ alikeB (u.map keysPy) = true ∧ sortableB (u.map keysPy) = true ∧ chainB pltB (sortB pltB (u.map keysPy)) = true then .ok (.lst (ofPys (sortB pltB (u.map keysPy)))) A1 else .no) Q) I ⟨m, E, A, rh, rs, Po.bind (ρ := rSU F.g X.prog F.g.w) q fun m1 H1 u v A1 g1 rh1 dxs q1 => ⟨m1, u, A1, v, rfl, rh1, dxs, q1⟩⟩) fun us s1 ⟨vs, H1, I1, r1, m1, u, A1, v, ev, rh1, dxs, q1⟩ => ?_) (he X) (hpl X)
  subst ev
  obtain ⟨a, L, rfl, ha, hd, hp⟩ := dxs
  split at q1
  · rename_i hz
    obtain ⟨z1, z2, z3, z4⟩ := hz
    have hlen : L.length = u.length := by rw [← hp.length_eq, List.length_map]
    have pk : (L.map fun p : Addr × List Key => keysPy p.2).Perm (u.map keysPy) := by
      have := hp.map keysPy
      rwa [List.map_map] at this
    obtain ⟨D, o1, o2, o3, o4, o5, o6⟩ : ∃ D : SD, s1.heap.get? a = some (sObj "set" D) ∧ D.1.toList = L.map (rowT X.prog X.w) ∧ TabOk D.2.2 (L.map fun p => hT X.prog X.w p.2) ∧ (L.map (·.2)).Nodup ∧ (X.w.params.followText "set-order" = true ∨ D.2.2.led = true) ∧ L.length * 5 < D.2.2.mask * 3 := by
      have := (I1.hok a _ ha).1
      rw [ok.w]
      exact this
    have R : SetU X.prog X.w s1.heap a L D := ⟨o1, o2, o3, o4, fun p hp => by
      obtain ⟨d, d1, d2⟩ := hd p hp
      obtain ⟨b, e, hb⟩ := tkey_is ok.K I1 d1 d2
      cases e
      exact hb, o5, o6⟩
    rw [Vals.ref1 r1]
    have al := alikeB_ok z2
    have so := sortableB_ok z3
    refine ep_frz (sortedU R (I1.ok.hd ok.calm) (by omega) (by have := ok.room.un; omega) (Rv := fun v p => ∃ x, RelV x v ∧ DV F.g H1 m1 (ofPy p) x) (fun p hp => ?_) (fun d hd d' hd' => al d (pk.mem_iff.mp hd) d' (pk.mem_iff.mp hd')) (so.imp (fun q d hd => q d (pk.mem_iff.mp hd)) fun q d hd => q d (pk.mem_iff.mp hd)) fun s' p out c' ps k g' o hp2 hg1 ho he hpm => ?_)
    · obtain ⟨d, d1, d2⟩ := hd p hp
      exact ⟨.ref p.1, rfl, by rw [keyT_of d1]; exact d2⟩
    · rw [sortP_perm (hpm.trans pk) z4] at he
      obtain ⟨vs', k1, k2⟩ := dvs_back he
      have hlen2 : vs'.length ≤ sizeLine := by rw [k1.length, Array.length_toList, ho, sizeLine_eq]; omega
      have hn : H1 p = none := I1.hok.fresh hp2
      have J : Inv X pins σ (upd H1 p (.lst vs')) { s1 with heap := s'.heap, gens := s'.gens, drawn := s'.drawn, toks := s'.toks } :=
        I1.call (ch := []) (Un.laid k hp2 hn) (I1.hok.laid k hp2 ⟨hlen2, out.toList, c', k1, hg1⟩) (by rw [g']; exact I1.bare) (fun _ z => nomatch z)
      have es : s' = { s1 with heap := s'.heap, gens := s'.gens, drawn := s'.drawn, toks := s'.toks } := by
        cases s'
        cases s1
        cases o
        rfl
      rw [es]
      refine ⟨.ref p, _, J, rfl, ⟨p, _, rfl, upd_same, fun o => ?_⟩⟩
      rw [upd_upd]
      exact Po.ok' q1 (Gr.new hn) (rh1.upd hn) (.lst (.inl ⟨o, upd_same, rh1.new hn⟩) (k2.mono (Gr.new hn)))
  · exact q1.elim
/-- sorted(set(..)) of ints, of texts, of tuples of them -/
noncomputable def cSortAll (ca : CA) : CE := fun E A => match cSortIS ca E A with
  | .no => cSortT (cSetT ca) E A
  | r => r
theorem je_sortAll {x : Expr} {ca : CA} {q q2 q3 : Pos} (hg : Gls F.scope "sorted") (hm : F.g.mg "sorted" = none) (hg2 : Gls F.scope "set") (hm2 : F.g.mg "set" = none) (ha : JA F [x] ca)
    (he : ∀ X : Cx, starEach [x] X.env = (false, eval x X.env) :: starEach [] X.env := by intro _; rfl) (hpl : ∀ X : Cx, (backTo q2 (starEach ([] : List Expr) X.env)).any (·.1) = false := by intro _; rfl)
    (he2 : ∀ X : Cx, starEach [.Call (.Name "set" q) [x] [] q2] X.env = (false, eval (.Call (.Name "set" q) [x] [] q2) X.env) :: starEach [] X.env := by intro _; rfl) (hpl2 : ∀ X : Cx, (backTo pos (starEach ([] : List Expr) X.env)).any (·.1) = false := by intro _; rfl) :
    JE F (.Call (.Name "sorted" q3) [.Call (.Name "set" q) [x] [] q2] [] pos) (cSortAll ca) := by
  refine JE.or (je_sortIS hg hm hg2 hm2 ha he hpl he2 hpl2) (je_sortT hg hm (jsu_set hg2 hm2 ha he hpl) he2 hpl2) fun E A => ?_
  unfold cSortAll
  split
  · exact .inr rfl
  · exact .inl rfl
end
end Sm
end
namespace Sm
open PySem PySem.Spec PyProof.Rows L2
theorem begun_ok4 (ns : List Int) : ∃ A', c_law_begun [.lst (ns.map .int)] [] = .ok (.ref 2) A' ∧ Drawn A' 2 0 3 0 ∧ A'.length = 4 ∧ A'[1]? = some (.lst []) := by
  obtain ⟨cs, hc, hl⟩ := folded_ok ns []
  have hc : c_law_folded [.lst (ns.map .int)] [] = .ok (.ref 0) [.lst (cs.map .int)] := hc
  have e0 : startA 3 [.lst (ns.map .int)] = [some (.lst (ns.map .int)), none, none] := rfl
  let A2 : HA := [.lst (cs.map .int), .lst [], .dct false (dK 0 1 0)]
  have s1 : cSet 1 (cDisp (((cC (.str "cells")), (cCall c_law_folded (cCons (cVar 0) cNil))) :: (((cC (.str "great")), (cNewL cNil)) :: (((cC (.str "spot")), (cC (.int 0))) :: [])))) [some (.lst (ns.map .int)), none, none] [] = .nx [some (.lst (ns.map .int)), some (.ref 2), none] A2 := by
    refine (ev_set (d := .ref 2) (A1 := A2) ?_).trans rfl
    unfold cDisp
    have p3 : evalP [((cC (.str "spot")), (cC (.int 0)))] [some (.lst (ns.map .int)), none, none] [.lst (cs.map .int), .lst []] = .ok [(.str "spot", .int 0)] [.lst (cs.map .int), .lst []] := rfl
    have p1 : evalP (((cC (.str "cells")), (cCall c_law_folded (cCons (cVar 0) cNil))) :: (((cC (.str "great")), (cNewL cNil)) :: (((cC (.str "spot")), (cC (.int 0))) :: []))) [some (.lst (ns.map .int)), none, none] [] = .ok (dK 0 1 0) [.lst (cs.map .int), .lst []] := by
      unfold evalP
      show ((cCall c_law_folded (cCons (cVar 0) cNil) [some (.lst (ns.map .int)), none, none] []).bind fun v A2 => _) = _
      rw [(ev_call1 (c := c_law_folded) (ev_var (i := 0) (E := [some (.lst (ns.map .int)), none, none]) rfl)).trans hc]
      rfl
    rw [p1]
    rfl
  let fg : D → D := fun d => match d with
    | .int z => if (10 ^ 18 : Int) ≤ z then .int z else .int 0
    | d => d
  have hl2 : lcL (gSetN 2) cYes (cIf (cB (c2 pGe (cVar 2) (c2 pPow (cC (.int 10)) (cC (.int 18))))) (cVar 2) (cC (.int 0))) (wipeA [some (.lst (ns.map .int)), some (.ref 2), none] [2]) (ns.map .int) A2 = .ok (((ns.map fun z => if (10 ^ 18 : Int) ≤ z then z else 0)).map .int) A2 := by
    rw [lcL_pure (fun _ => true) fg (ns.map .int) fun d hd => ?_]
    · rw [filter_all, List.map_map, List.map_map]
      congr 1
      refine List.map_congr_left fun z _ => ?_
      show (if (10 ^ 18 : Int) ≤ z then D.int z else .int 0) = .int (if (10 ^ 18 : Int) ≤ z then z else 0)
      by_cases h : (10 ^ 18 : Int) ≤ z
      · rw [if_pos h, if_pos h]
      · rw [if_neg h, if_neg h]
    · obtain ⟨z, _, rfl⟩ := List.mem_map.mp hd
      refine ⟨[some (.lst (ns.map .int)), some (.ref 2), some (.int z)], rfl, rfl, fun _ => ?_⟩
      have t : cB (c2 pGe (cVar 2) (c2 pPow (cC (.int 10)) (cC (.int 18)))) [some (.lst (ns.map .int)), some (.ref 2), some (.int z)] A2 = .ok (decide ((10 ^ 18 : Int) ≤ z)) A2 := by
        refine ev_cB ((ev_c2 (ev_var (d := .int z) rfl) (e := .int (10 ^ 18)) (A2 := A2) ?_).trans rfl)
        exact (ev_c2 ev_c ev_c).trans rfl
      rw [ev_if t]
      show _ = R.ok (if (10 ^ 18 : Int) ≤ z then D.int z else .int 0) A2
      by_cases h : (10 ^ 18 : Int) ≤ z
      · rw [if_pos h, if_pos (by simp only [h, decide_true])]
        exact ev_var rfl
      · rw [if_neg h, if_neg (by simp only [h, decide_false]; decide)]
        rfl
  have s2 : cAsg (cLcH [2] (iSeq (cVar 0)) (gSetN 2) cYes (cIf (cB (c2 pGe (cVar 2) (c2 pPow (cC (.int 10)) (cC (.int 18))))) (cVar 2) (cC (.int 0)))) (gPut (cVar 1) (cC (.str "great"))) [some (.lst (ns.map .int)), some (.ref 2), none] A2
      = .nx [some (.lst (ns.map .int)), some (.ref 2), none] [.lst (cs.map .int), .lst [], .dct false (dK 0 3 0), .lst ((ns.map fun z => if (10 ^ 18 : Int) ≤ z then z else 0).map .int)] := by
    refine (ev_asg (ev_lcH (ds := ns.map .int) rfl hl2) (put_dict (m := 2) (k := .inr "great") (ev_var rfl) ev_c rfl (kvs := dK 0 1 0) rfl (by rw [sizeLine_eq]; show 3 < 16777216; decide))).trans ?_
    rw [show (A2.length) = 3 from rfl, dK_put_great]
    rfl
  refine ⟨[.lst (cs.map .int), .lst [], .dct false (dK 0 3 0), .lst ((ns.map fun z => if (10 ^ 18 : Int) ≤ z then z else 0).map .int)], ?_, ⟨⟨cs, ns.map fun z => if (10 ^ 18 : Int) ≤ z then z else 0, 0, rfl, rfl, hl, rfl, Int.le_refl _, Int.le_refl _⟩, by decide, by decide, by decide⟩, rfl, rfl⟩
  unfold c_law_begun runB b_law_begun
  rw [e0, cSeq_nx s1, cSeq_nx s2, ev_ret (ev_var (i := 1) (d := .ref 2) rfl)]
theorem begun_ok (ns : List Int) : ∃ A', c_law_begun [.lst (ns.map .int)] [] = .ok (.ref 2) A' ∧ Drawn A' 2 0 3 0 ∧ A'.length = 4 := let ⟨A', a, b, c, _⟩ := begun_ok4 ns; ⟨A', a, b, c⟩
end Sm
namespace Sm
open PySem PySem.Spec PyProof.Rows L2
theorem at_end {A : HA} {o : AO} : (A ++ [o])[A.length]? = some o := by simp
theorem set_end {A : HA} {o u : AO} : (A ++ [o]).set A.length u = A ++ [u] := by simp
theorem at_more {A B : HA} {i : Nat} {o : AO} (h : A[i]? = some o) : (A ++ B)[i]? = some o := by
  rw [List.getElem?_append_left (List.getElem?_eq_some_iff.mp h).1]; exact h
/-- x.append(e), x a list of the heap -/
theorem ev_append {co : CE} {ce : CE} {E : SA} {A A1 A2 : HA} {a : Nat} {ds ds' : List D} {d : D} (h1 : co E A = .ok (.ref a) A1) (ha : A1[a]? = some (.lst ds)) (h2 : ce E A1 = .ok d A2) (ha2 : A2[a]? = some (.lst ds')) (hl : ds'.length < sizeLine) :
    cMeth "list" pAppend co (cCons ce cNil) E A = .ok .non (A2.set a (.lst (ds' ++ [d]))) := by
  unfold cMeth
  rw [h1]
  show (if isT "list" A1 (.ref a) = true then (cCons ce cNil E A1).bind fun ds A2 => rOf (pAppend (.ref a) ds A2) else .no) = _
  have e : isT "list" A1 (.ref a) = true := by
    unfold isT
    simp only [ha]
    rfl
  rw [if_pos e]
  have e2 : cCons ce cNil E A1 = .ok [d] A2 := by unfold cCons cNil; rw [h2]; rfl
  rw [e2]
  show rOf (pAppend (.ref a) [d] A2) = _
  unfold pAppend
  simp only [ha2, hl, if_true]
  rfl
/-- the classes that have the field n -/
noncomputable def hasF (l : List (List Str)) (n : Str) : List Nat := (List.range l.length).filter fun c => decide (n ∈ l.getD c [])
theorem xfOf {P : Nat → Prop} {l : List (List Str)} {n : Str} (h : ∀ c, c ∈ hasF l n → P c) (c : Nat) (hc : n ∈ l.getD c []) : P c := by
  refine h c ?_
  unfold hasF
  rw [List.mem_filter, List.mem_range]
  refine ⟨?_, decide_eq_true hc⟩
  by_cases e : c < l.length
  · exact e
  · rw [List.getD, List.getElem?_eq_none (by omega)] at hc
    cases hc
theorem xbinds1 {params : Arguments} {n : Str} (h : ∀ (fd : FuncData), fd.params = params → fd.defaults = .none → ∀ (x u : Value), bindArgs fd ⟨[x, u], []⟩ = pure [(("self" : Str), x), (n, u)] ∧ bindArgs fd ⟨[x], [(n, u)]⟩ = pure [(("self" : Str), x), (n, u)]) :
    ∀ fd : FuncData, fd.params = params → fd.defaults = .none → ∀ (s : Shared) (x u : Value), BindsTo s fd ⟨[x, u], []⟩ [("self", x), (n, u)] ∧ BindsTo s fd ⟨[x], [(n, u)]⟩ [("self", x), (n, u)] := fun fd e d s x u => ⟨.of_eq (h fd e d x u).1, .of_eq (h fd e d x u).2⟩
theorem exm_of {K : PySem.W.Frag} {cls c : Value} {b : Bool} (h1 : PySem.W.subIn K c (.type "BaseException") = some true) (h2 : PySem.W.kitOne K cls c = some b) (ne : (cls == c) = false) : PySem.W.exmOne K cls c = some b := by
  have e : (PySem.W.subIn K c (.type "BaseException") == some true) = true := by rw [h1]; rfl
  unfold PySem.W.exmOne
  rw [if_pos e]
  unfold PySem.W.kitOne at h2
  rw [ne] at h2
  exact h2
end Sm
namespace Sm
open PySem PySem.Spec PyProof.Rows L2
theorem ev_one {ca : CE} {E : SA} {A A1 : HA} {d : D} (h : ca E A = .ok d A1) : cCons ca cNil E A = .ok [d] A1 := by
  show ((ca E A).bind fun d A1 => (cNil E A1).bind fun ds A2 => R.ok (d :: ds) A2) = _
  rw [h]; rfl
theorem iRng1_ok {ca : CA} {E : SA} {A A1 : HA} {j : Int} (h : ca E A = .ok [.int j] A1) (h0 : 0 ≤ j) (h1 : j < 1000000) : iRng1 ca E A = .ok (.fix (intsD 0 j.toNat)) A1 := by
  unfold iRng1
  rw [h]
  exact if_pos ⟨by omega, by omega, by rw [sizeLine_eq]; omega⟩
theorem for_run {ci : CI} {cg : CG} {body : CS} {E : SA} {A A1 : HA} {ds : List D} (Inv : Nat → SA → HA → Prop) (hi : ci E A = .ok (.fix ds) A1) (h0 : Inv 0 E A1)
    (step : ∀ (j : Nat) (d : D) (E : SA) (A : HA), ds[j]? = some d → Inv j E A → ∃ E1 A1 E2 A2, cg d E A = .nx E1 A1 ∧ (body E1 A1 = .nx E2 A2 ∨ body E1 A1 = .ct E2 A2) ∧ Inv (j + 1) E2 A2) : ∃ E2 A2, cFor ci cg body E A = .nx E2 A2 ∧ Inv ds.length E2 A2 := by
  obtain ⟨E2, A2, h1, h2⟩ := forL_inv (cg := cg) (body := body) Inv ds 0 E A1 h0 fun j d E A hd iv => by
    rw [Nat.zero_add] at iv ⊢
    exact step j d E A hd iv
  rw [Nat.zero_add] at h2
  exact ⟨E2, A2, ev_for hi h1, h2⟩
theorem ifF_nx {c : CB} {x : CS} {E : SA} {A : HA} (h : c E A = .ok false A) : cIfS c x cSkip E A = .nx E A := (ev_ifF h).trans rfl
theorem or_F {ta tb : CB} {E : SA} {A A1 : HA} {b : Bool} (h : ta E A = .ok false A) (h' : tb E A = .ok b A1) : cOr ta tb E A = .ok b A1 := by
  unfold cOr; rw [h]; exact h'
theorem ev_not {t : CB} {E : SA} {A A1 : HA} {b : Bool} (h : t E A = .ok b A1) : cNot t E A = .ok (!b) A1 := by
  unfold cNot; rw [h]; rfl
theorem get_at {xs : List D} {i : Nat} {q : D} (h : xs[i]? = some q) (A : HA) : pGet (.lst xs) (.int (i : Int)) A = .ok q A := by
  have hi := (List.getElem?_eq_some_iff.mp h).1
  show pIx (.lst xs) (.int (i : Int)) A = _
  unfold pIx seqOf
  have e := (atI_get xs (i : Int) (by omega) (by omega)).2
  simp only [e, Int.toNat_natCast, h]
end Sm
section
set_option autoImplicit false
namespace Sm
open PySem PySem.Spec PyProof.Rows L2
/-- behind some draws: the drawn state is otherwise, nothing else -/
structure Dr (A A' : HA) (k : Int) : Prop where
  dr : Drawn A' 2 0 3 k
  len : A'.length = A.length
  out : ∀ i, i ≠ 2 → i ≠ 3 → A'[i]? = A[i]?
theorem Dr.refl {A : HA} {k : Int} (h : Drawn A 2 0 3 k) : Dr A A k := ⟨h, rfl, fun _ _ _ => rfl⟩
theorem Dr.trans {A B C : HA} {j k : Int} (h : Dr A B j) (h' : Dr B C k) : Dr A C k := ⟨h'.dr, h'.len.trans h.len, fun i h2 h3 => (h'.out i h2 h3).trans (h.out i h2 h3)⟩
theorem draw_D {A : HA} {k : Int} (h : Drawn A 2 0 3 k) (hk : k < 2 ^ 59) (L : Nat) (h0 : 0 < L) (h1 : L < 1073741824) : ∃ (r : Nat) (A' : HA), r < L ∧ c_law_draw [.ref 2, .int (L : Int)] A = .ok (.int (r : Int)) A' ∧ Dr A A' (k + 1) := by
  obtain ⟨r, A', h5, r0, r1, dr5, hl, ho⟩ := draw_ok h hk (L : Int) (by omega) (by omega)
  obtain ⟨ix, rfl⟩ : ∃ i : Nat, r = (i : Int) := ⟨r.toNat, by omega⟩
  exact ⟨ix, A', by omega, h5, dr5, hl, ho⟩
/-- draw(m, L) as an expression -/
theorem ev_draw {E : SA} {A : HA} {i : Nat} {k : Int} (hm : E[i]? = some (some (.ref 2))) (h : Drawn A 2 0 3 k) (hk : k < 2 ^ 59) (L : Int) (h0 : 0 < L := by decide) (h1 : L < 1073741824 := by decide) :
    ∃ (r : Nat) (A' : HA), (r : Int) < L ∧ cCall c_law_draw (cCons (cVar i) (cCons (cC (.int L)) cNil)) E A = .ok (.int (r : Int)) A' ∧ Dr A A' (k + 1) := by
  obtain ⟨n, rfl⟩ : ∃ n : Nat, L = (n : Int) := ⟨L.toNat, by omega⟩
  obtain ⟨r, A', hr, h5, d⟩ := draw_D h hk n (by omega) (by omega)
  exact ⟨r, A', by omega, (ev_call2 (ca := cVar i) (cb := cC (.int (n : Int))) (A1 := A) (A2 := A) (d := .ref 2) (e := .int (n : Int)) (ev_var hm) rfl).trans h5, d⟩
theorem getX_at {xs : List D} {i : Nat} {q : D} (h : xs[i]? = some q) (A : HA) : pGetX (.lst xs) (.int (i : Int)) A = .ok q A := (show pGetX (.lst xs) (.int (i : Int)) A = pGet (.lst xs) (.int (i : Int)) A from rfl).trans (get_at h A)
/-- menu[draw(m, L)] -/
theorem ev_pick {cl : CE} {xs : List D} {E : SA} {A : HA} {i : Nat} {k : Int} (hl : cl E A = .ok (.lst xs) A) (hm : E[i]? = some (some (.ref 2))) (h : Drawn A 2 0 3 k) (hk : k < 2 ^ 59) (L : Int) (hL : (xs.length : Int) = L) (h0 : 0 < L := by decide) (h1 : L < 1073741824 := by decide) :
    ∃ (q : D) (A' : HA), q ∈ xs ∧ c2 pGetX cl (cCall c_law_draw (cCons (cVar i) (cCons (cC (.int L)) cNil))) E A = .ok q A' ∧ Dr A A' (k + 1) := by
  obtain ⟨r, A', hr, h5, d⟩ := ev_draw hm h hk L h0 h1
  obtain ⟨q, hq⟩ : ∃ q, xs[r]? = some q := ⟨_, List.getElem?_eq_getElem (by omega)⟩
  exact ⟨q, A', List.mem_of_getElem? hq, (ev_c2 hl h5).trans (getX_at hq A'), d⟩
theorem ev_cons {c : CE} {cs : CA} {E : SA} {A A1 A2 : HA} {d : D} {ds : List D} (h : c E A = .ok d A1) (h' : cs E A1 = .ok ds A2) : cCons c cs E A = .ok (d :: ds) A2 := by
  show ((c E A).bind fun d A1 => (cs E A1).bind fun ds A2 => R.ok (d :: ds) A2) = _
  rw [h]
  show ((cs E A1).bind fun ds A2 => R.ok (d :: ds) A2) = _
  rw [h']; rfl
theorem ev_nil {E : SA} {A : HA} : cNil E A = .ok [] A := rfl
theorem ev_tup {cs : CA} {E : SA} {A A1 : HA} {ds : List D} (h : cs E A = .ok ds A1) : cTup cs E A = .ok (.tup ds) A1 := by
  show ((cs E A).bind fun ds A1 => R.ok (D.tup ds) A1) = _
  rw [h]; rfl
theorem ev_call {c : CF} {cs : CA} {E : SA} {A A1 : HA} {ds : List D} {r : R D} (h : cs E A = .ok ds A1) (h' : c ds A1 = r) : cCall c cs E A = r := by
  show ((cs E A).bind fun ds A1 => c ds A1) = _
  rw [h]; exact h'
theorem c_run {n : Nat} {b : CS} {ds : List D} {A A' : HA} {d : D} (h : b (startA n ds) A = .rt d A') : runB n b ds A = .ok d A' := by
  unfold runB
  rw [h]
end Sm
end
section
set_option autoImplicit false
namespace Sm
open PySem PySem.Spec PyProof.Rows L2
mutual
/-- the same plain data -/
noncomputable def eqD : D → D → Bool
  | .non, .non => true
  | .bl a, .bl b => a == b
  | .int a, .int b => decide (a = b)
  | .str a, .str b => eqNs a.cps.toList b.cps.toList
  | .tup a, .tup b => eqDs a b
  | .lst a, .lst b => eqDs a b
  | _, _ => false
noncomputable def eqDs : List D → List D → Bool
  | [], [] => true
  | a :: as, b :: bs => eqD a b && eqDs as bs
  | _, _ => false
end
mutual
theorem eqD_ok : ∀ {a b : D}, eqD a b = true → a = b
  | .non, b, h => by cases b <;> first | rfl | (unfold eqD at h; cases h)
  | .bl x, b, h => by
    cases b <;> first | (unfold eqD at h; rw [eq_of_beq h]) | (unfold eqD at h; cases h)
  | .int x, b, h => by
    cases b <;> first | (unfold eqD at h; rw [of_decide_eq_true h]) | (unfold eqD at h; cases h)
  | .str x, b, h => by
    cases b <;> first | (unfold eqD at h; rw [strB_iff.mp h]) | (unfold eqD at h; cases h)
  | .tup x, b, h => by
    cases b <;> first | (unfold eqD at h; rw [eqDs_ok h]) | (unfold eqD at h; cases h)
  | .lst x, b, h => by
    cases b <;> first | (unfold eqD at h; rw [eqDs_ok h]) | (unfold eqD at h; cases h)
  | .dct _ _, b, h => by cases b <;> (unfold eqD at h; cases h)
  | .ref _, b, h => by cases b <;> (unfold eqD at h; cases h)
  | .cls _, b, h => by cases b <;> (unfold eqD at h; cases h)
  | .fn _, b, h => by cases b <;> (unfold eqD at h; cases h)
  | .exc _ _, b, h => by cases b <;> (unfold eqD at h; cases h)
  | .ty _, b, h => by cases b <;> (unfold eqD at h; cases h)
  | .lam _ _, b, h => by cases b <;> (unfold eqD at h; cases h)
  | .wtp _, b, h => by cases b <;> (unfold eqD at h; cases h)
theorem eqDs_ok : ∀ {a b : List D}, eqDs a b = true → a = b
  | [], b, h => by cases b <;> first | rfl | (unfold eqDs at h; cases h)
  | a :: as, b, h => by
    cases b with
    | nil => unfold eqDs at h; cases h
    | cons b bs =>
      unfold eqDs at h
      rw [Bool.and_eq_true] at h
      rw [eqD_ok h.1, eqDs_ok h.2]
end
/-- a closed call tells d -/
noncomputable def tells (d : D) : R D → Bool
  | .ok e _ => eqD e d
  | _ => false
theorem iso_tells {c : CF} {ds : List D} {d : D} (hp : pureDs ds = true) (h : tells d (c ds []) = true) (hr : pureR d = true) (A : HA) : isoF c ds A = .ok d A := by
  unfold tells at h
  split at h
  · rename_i e A0 he
    rw [eqD_ok h] at he
    exact iso_ok hp he hr
  · cases h
theorem ev_par {i j : Nat} {ca cb : CE} {E : SA} {A A1 A2 : HA} {d e : D} (h1 : ca E A = .ok d A1) (h2 : cb E A1 = .ok e A2) : cPar i j ca cb E A = .nx ((E.set i (some d)).set j (some e)) A2 := by
  unfold cPar
  rw [h1]
  show RSt.of (cb E A1) E _ = _
  rw [h2]
  rfl
theorem Drawn.more {A B : HA} {k : Int} (h : Drawn A 2 0 3 k) : Drawn (A ++ B) 2 0 3 k := by
  obtain ⟨⟨cs, gs, n, h1, h2, h3, h4, h5, h6⟩, a, b, c⟩ := h
  exact ⟨⟨cs, gs, n, at_more h1, at_more h2, h3, at_more h4, h5, h6⟩, a, b, c⟩
theorem Drawn.weaken {A : HA} {j k : Int} (h : Drawn A 2 0 3 j) (hk : j ≤ k) : Drawn A 2 0 3 k := by
  obtain ⟨⟨cs, gs, n, h1, h2, h3, h4, h5, h6⟩, x, y, z⟩ := h
  exact ⟨⟨cs, gs, n, h1, h2, h3, h4, h5, by omega⟩, x, y, z⟩
end Sm
end
section
set_option autoImplicit false
namespace Sm
open PySem PySem.Spec PyProof.Rows L2
noncomputable def sL : List Str := ["always", "below", "shown", "never"]
noncomputable def mdL : List Str := ["bare", "over", "joins"]
noncomputable def atL : List Str := ["bare", "keep"]
noncomputable def mvL : List Str := ["path", "seen", "name", "near", "copy", "keep"]
noncomputable def agL : List Str := ["kept", "anew"]
noncomputable def wrL : List Str := ["index", "copy"]
/-- whether two values differ, as != tells -/
noncomputable def nq (x y : D) : Bool := match pNeX x y [] with
  | .ok (.bl r) _ => r
  | _ => false
end Sm
end
section
set_option autoImplicit false
namespace Sm
open PySem PySem.Spec PyProof.Rows L2
structure DefW (K : PySem.W.Frag) (n q : Str) (st : Stmt) (f : Addr) : Prop where
  ex : ∃ (oc : Value) (od : Option Addr) (kV doc pm : Value) (an : Option Addr) (cdv ct : Value) (osl : Array (Option Value)),
    K.lookup f = some ⟨oc, od, .func (PySem.W.fnOf n q (defArgs st) (defBody st) (defScope st) .none kV doc pm an cdv ct), osl⟩ ∧ PySem.W.codeIn K cdv q = true
  kp : PySem.W.keepIn K (.ref f) = true
theorem DefW.fn {K : PySem.W.Frag} {n q : Str} {st : Stmt} {f : Addr} {ps : List Str} (h : DefW K n q st f) (b : ∀ (kV doc pm : Value) (an : Option Addr) (cdv ct : Value) (us : List Value), us.length = ps.length → bindArgs (PySem.W.fnOf n q (defArgs st) (defBody st) (defScope st) .none kV doc pm an cdv ct) ⟨us, []⟩ = pure (ps.zip us)) : ∃ fd, Fun K n q st f fd ∧ Binds K fd ps [] := by
  obtain ⟨oc, od, kV, doc, pm, an, cdv, ct, osl, l, c⟩ := h.ex
  exact ⟨_, fun_mk l c h.kp, (fun_mk l c h.kp).binds b⟩
theorem DefW.of {K : PySem.W.Frag} {n q : Str} {st : Stmt} {f : Addr} {od an : Option Addr} {osl : Array (Option Value)} {oc kV doc pm cdv ct : Value} (l : K.lookup f = some ⟨oc, od, .func (PySem.W.fnOf n q (defArgs st) (defBody st) (defScope st) .none kV doc pm an cdv ct), osl⟩)
    (c : PySem.W.codeIn K cdv q = true) (k : PySem.W.keepIn K (.ref f) = true) : DefW K n q st f := ⟨⟨oc, od, kV, doc, pm, an, cdv, ct, osl, l, c⟩, k⟩
end Sm
end
section
set_option autoImplicit false
namespace Sm
open PySem PySem.Spec PyProof.Rows L2
noncomputable abbrev Fg : Type := PySem.W.Frag
noncomputable abbrev OOV : Type := Option (Option Value)
noncomputable def hasName (x : List Nat) (e : DictEntry) : Bool := match e.key with
  | .str y _ => eqNs y.cps.toList x
  | _ => false
theorem hasName_eq (x : Str) (e : DictEntry) : hasName x.cps.toList e = e.key.isStr x := by
  unfold hasName
  cases hk : e.key with
  | str y t =>
    show eqNs y.cps.toList x.cps.toList = (y == x)
    rw [Bool.eq_iff_iff, strB_iff, beq_iff_eq]
  | _ => rfl
noncomputable def nsQ (K : Fg) (a : Addr) (x : Str) : OOV := match K.lookup a with
  | some ⟨_, _, .dict es _, _⟩ => (match es.toList.find? (hasName x.cps.toList) with
    | some e => some (some e.val)
    | none => (match es.toList.any fun z => z.refKey with
      | true => none
      | false => some none))
  | _ => none
theorem nsQ_eq (K : Fg) (a : Addr) (x : Str) : PySem.W.nsIn K a x = nsQ K a x := by
  have e : (hasName x.cps.toList) = fun e : DictEntry => e.key.isStr x := funext (hasName_eq x)
  unfold PySem.W.nsIn nsQ
  rw [e]
  cases K.lookup a with
  | none => rfl
  | some o =>
    obtain ⟨oc, od, dt, sl⟩ := o
    cases dt with
    | dict es n =>
      show (match es.toList.find? (fun e => e.key.isStr x) with
        | some e => some (some e.val)
        | none => if (es.toList.any fun z => z.refKey) = true then none else some none) = _
      cases hf : es.toList.find? (fun e => e.key.isStr x) with
      | some e => simp only [hf]
      | none =>
        cases ha : es.toList.any fun z => z.refKey with
        | true => simp [hf, ha]
        | false => simp [hf, ha]
    | _ => rfl
noncomputable def adO : OOV → Addr
  | some (some (.ref a)) => a
  | _ => 0
noncomputable def gQ (K : Fg) (x : Str) : Addr := adO (nsQ K mainGlobals x)
noncomputable def mQ (K : Fg) (C : Addr) (m : Str) : Addr := adO (PySem.W.findIn K (.ref C) m)
noncomputable def cdA (K : Fg) (f : Addr) : Addr := match K.lookup f with
  | some ⟨_, _, .func fd, _⟩ => (match fd.code with | .ref c => c | _ => 0)
  | _ => 0
noncomputable def ccA (K : Fg) (f : Addr) : Addr := match K.lookup f with
  | some ⟨_, _, .func fd, _⟩ => (match fd.closure with | [(_, c)] => c | _ => 0)
  | _ => 0
noncomputable def tbA (K : Fg) (c : Addr) : Addr := match K.lookup c with
  | some ⟨_, _, .fields vs, _⟩ => (match (vs[11]? : Option Value) with | some (.ref p) => p | _ => 0)
  | _ => 0
noncomputable def refO : OOV → Bool
  | some (some (.ref _)) => true
  | _ => false
noncomputable def sB (z : Str) : OOV → Bool
  | some (some (.str y _)) => eqNs y.cps.toList z.cps.toList
  | _ => false
noncomputable def nB : OOV → Bool
  | some none => true
  | _ => false
noncomputable def bB (b : String) : OOV → Bool
  | some (some (.builtin c)) => decide (c = b)
  | _ => false
noncomputable def someB {α : Type} : Option α → Bool
  | some _ => true
  | none => false
noncomputable def oB (b : Bool) : Option Bool → Bool
  | some c => c == b
  | none => false
noncomputable def vB (n : String) : Option Value → Bool
  | some (.type m) => decide (m = n)
  | _ => false
theorem refO_ok {o : OOV} (h : refO o = true) : o = some (some (.ref (adO o))) := by
  cases o with
  | none => cases h
  | some v => cases v with
    | none => cases h
    | some v => cases v with
      | ref a => rfl
      | _ => cases h
theorem sB_ok {o : OOV} {z : Str} (h : sB z o = true) : ∃ t, o = some (some (.str z t)) := by
  cases o with
  | none => cases h
  | some v => cases v with
    | none => cases h
    | some v => cases v with
      | str y t =>
        have e : y = z := strB_iff.mp h
        exact ⟨t, by rw [e]⟩
      | _ => cases h
theorem nB_ok {o : OOV} (h : nB o = true) : o = some none := by
  cases o with
  | none => cases h
  | some v => cases v with
    | none => rfl
    | some v => cases h
theorem bB_ok {o : OOV} {b : String} (h : bB b o = true) : o = some (some (.builtin b)) := by
  cases o with
  | none => cases h
  | some v => cases v with
    | none => cases h
    | some v => cases v with
      | builtin c =>
        have e : c = b := of_decide_eq_true h
        rw [e]
      | _ => cases h
theorem someB_ok {α : Type} {o : Option α} (h : someB o = true) : ∃ a, o = some a := by
  cases o with
  | none => cases h
  | some a => exact ⟨a, rfl⟩
theorem oB_ok {o : Option Bool} {b : Bool} (h : oB b o = true) : o = some b := by
  cases o with
  | none => cases h
  | some c =>
    have e : c = b := by
      have h1 : (c == b) = true := h
      exact eq_of_beq h1
    rw [e]
theorem vB_ok {o : Option Value} {n : String} (h : vB n o = true) : o = some (.type n) := by
  cases o with
  | none => cases h
  | some v => cases v with
    | type m =>
      have e : m = n := of_decide_eq_true h
      rw [e]
    | _ => cases h
theorem notB_ok {b : Bool} (h : (!b) = true) : b = false := by
  cases b with
  | false => rfl
  | true => cases h
noncomputable def clB (K : Fg) (C : Addr) : Bool := match PySem.W.clsIn K C with
  | some cd => PySem.HandSPX.refsVE cd.mro && cd.hasDict
  | none => false
theorem clB_ok {K : Fg} {C : Addr} (h : clB K C = true) : ∃ cD, PySem.W.clsIn K C = some cD ∧ PySem.HandSPX.refsVE cD.mro = true ∧ cD.hasDict = true := by
  unfold clB at h
  split at h
  · rename_i cd e
    rw [Bool.and_eq_true] at h
    exact ⟨cd, e, h.1, h.2⟩
  · cases h
theorem gQ_ok {K : Fg} {x : Str} (h : refO (nsQ K mainGlobals x) = true) : PySem.W.nsIn K mainGlobals x = some (some (.ref (gQ K x))) := by
  rw [nsQ_eq]
  exact refO_ok h
theorem mQ_ok {K : Fg} {C : Addr} {m : Str} (h : refO (PySem.W.findIn K (.ref C) m) = true) : PySem.W.findIn K (.ref C) m = some (some (.ref (mQ K C m))) := refO_ok h
theorem gS_ok {K : Fg} {x z : Str} (h : sB z (nsQ K mainGlobals x) = true) : ∃ t, PySem.W.nsIn K mainGlobals x = some (some (.str z t)) := by
  rw [nsQ_eq]
  exact sB_ok h
theorem gN_ok {K : Fg} {a : Addr} {x : Str} (h : nB (nsQ K a x) = true) : PySem.W.nsIn K a x = some none := by
  rw [nsQ_eq]
  exact nB_ok h
noncomputable abbrev FO : Type := Option (Str × Str × Arguments × FuncBody × Scope × Addr × List Str × Value × Addr)
noncomputable def foA (K : Fg) (a : Addr) : FO := match K.lookup a with
  | some ⟨_, _, .func fd, _⟩ => some (fd.name, fd.qualname, fd.params, fd.body, fd.scope, fd.globals, fd.closure.map (·.1), fd.defaults, fd.builtins)
  | _ => none
/-- a def of the text: where it stands, its name, its qualified name, its statement, the names that it captures -/
structure DefH where
  at_ : Fg → Addr
  name : Str
  qual : Str
  st : Stmt
  cl : List Str := []
noncomputable def DefH.val (d : DefH) : FO := some (d.name, d.qual, defArgs d.st, .stmts (defBody d.st), defScope d.st, mainGlobals, d.cl, .none, builtinsNs)
noncomputable def foK (K : Fg) (f : Addr) (q : Str) : Bool := match K.lookup f with
  | some ⟨_, _, .func fd, _⟩ => (match fd.code with
    | .ref c => PySem.W.codeIn K (.ref c) q && PySem.W.keepIn K (.ref f)
    | _ => false)
  | _ => false
theorem fo_ok {K : Fg} {f : Addr} {n q : Str} {st : Stmt} (e : foA K f = (⟨fun _ => 0, n, q, st, []⟩ : DefH).val) (c : foK K f q = true) :
    ∃ (oc : Value) (od : Option Addr) (kV doc pm : Value) (an : Option Addr) (ct : Value) (osl : Array (Option Value)),
    K.lookup f = some ⟨oc, od, .func (PySem.W.fnOf n q (defArgs st) (defBody st) (defScope st) .none kV doc pm an (.ref (cdA K f)) ct), osl⟩ ∧ PySem.W.codeIn K (.ref (cdA K f)) q = true ∧ PySem.W.keepIn K (.ref f) = true := by
  unfold foA at e
  unfold foK at c
  unfold cdA
  cases hq : K.lookup f with
  | none => rw [hq] at c; cases c
  | some o =>
    obtain ⟨oc, od, dt, osl⟩ := o
    rw [hq] at c e
    cases dt with
    | func fd =>
      obtain ⟨n1, n2, n3, n4, n5, n6, n7, n8, n9, n10, n11, n12, n13, n14, n15⟩ := fd
      have e2 : (some (n1, n2, n3, n4, n5, n6, n7.map (·.1), n8, n15) : FO) = (some (n, q, defArgs st, FuncBody.stmts (defBody st), defScope st, mainGlobals, [], Value.none, builtinsNs) : FO) := e
      simp only [Option.some.injEq, Prod.mk.injEq] at e2
      obtain ⟨h1, h2, h3, h4, h5, h6, h7, h8, h9⟩ := e2
      have h7 : n7 = [] := by cases n7 with
        | nil => rfl
        | cons a b => cases h7
      subst h1 h2 h3 h4 h5 h6 h7 h8 h9
      cases n13 with
      | ref cc =>
        have c2 : (PySem.W.codeIn K (.ref cc) n2 && PySem.W.keepIn K (.ref f)) = true := c
        rw [Bool.and_eq_true] at c2
        exact ⟨oc, od, n9, n10, n11, n12, n14, osl, rfl, c2.1, c2.2⟩
      | _ => cases c
    | _ => cases c
theorem foW {K : Fg} {f : Addr} {n q : Str} {st : Stmt} (e : foA K f = (⟨fun _ => 0, n, q, st, []⟩ : DefH).val) (c : foK K f q = true) : DefW K n q st f := by
  obtain ⟨oc, od, kV, doc, pm, an, ct, osl, h1, h2, h3⟩ := fo_ok e c
  exact ⟨⟨oc, od, kV, doc, pm, an, _, ct, osl, h1, h2⟩, h3⟩
/-- .. that makes lambdas -/
noncomputable def mkB (K : Fg) (f : Addr) : Bool := PySem.W.codeHdIn K (cdA K f) (tbA K (cdA K f))
theorem mkB_ok {K : Fg} {f : Addr} (h : mkB K f = true) : ∃ (co : Value) (zd : Option Addr) (vc : Array Value) (zs : Array (Option Value)), K.lookup (cdA K f) = some ⟨co, zd, .fields vc, zs⟩ ∧ vc[11]? = some (.ref (tbA K (cdA K f))) := by
  unfold mkB at h
  generalize hc : cdA K f = c at h ⊢
  generalize hp : tbA K c = P at h ⊢
  unfold PySem.W.codeHdIn at h
  split at h
  · rename_i vs _ hk
    simp only [Bool.and_eq_true] at h
    obtain ⟨⟨⟨⟨⟨e1, _⟩, _⟩, _⟩, _⟩, _⟩ := h
    split at e1
    · rename_i P' h11
      have hP : P' = P := beq_iff_eq.mp e1
      subst hP
      exact ⟨_, _, vs, _, hk, h11⟩
    · cases e1
  · cases h
noncomputable def xB (K : Fg) (C f : Addr) (file : Str) : Bool := match K.lookup f with
  | some ⟨_, _, .func fd, _⟩ => (match fd.code with
    | .ref c => (match K.lookup c with
      | some ⟨_, _, .fields vs, _⟩ => (match (vs[2]? : Option Value) with
        | some (.str fi _) => file == fi
        | _ => false)
      | _ => false)
    | _ => false) && (match fd.closure with
    | [(_, cc)] => (match K.lookup cc with
      | some ⟨_, _, .cell (some (.ref D)), _⟩ => D == C
      | _ => false)
    | _ => false)
  | _ => false
theorem xB_ok {K : Fg} {C f : Addr} {n q file : Str} {st : Stmt} (e : foA K f = (⟨fun _ => 0, n, q, st, ["__class__"]⟩ : DefH).val) (c : foK K f q = true) (x : xB K C f file = true) :
    ∃ (oc kV dc pm ct ccl cl : Value) (od an cdd cld : Option Addr) (osl ccs csl : Array (Option Value)) (vs : Array Value) (fi : Str) (tf : Tok),
    K.lookup f = some ⟨oc, od, .func (PySem.W.ksFn n q (defArgs st) (defBody st) (defScope st) .none kV dc pm an (.ref (cdA K f)) ct (ccA K f)), osl⟩ ∧ PySem.W.codeIn K (.ref (cdA K f)) q = true ∧
    K.lookup (cdA K f) = some ⟨ccl, cdd, .fields vs, ccs⟩ ∧ vs[2]? = some (.str fi tf) ∧ (file == fi) = true ∧ K.lookup (ccA K f) = some ⟨cl, cld, .cell (some (.ref C)), csl⟩ := by
  unfold foA at e
  unfold foK at c
  unfold xB at x
  unfold cdA ccA
  cases hq : K.lookup f with
  | none => rw [hq] at c; cases c
  | some o =>
    obtain ⟨oc, od, dt, osl⟩ := o
    rw [hq] at c e x
    cases dt with
    | func fd =>
      obtain ⟨n1, n2, n3, n4, n5, n6, n7, n8, n9, n10, n11, n12, n13, n14, n15⟩ := fd
      have e2 : (some (n1, n2, n3, n4, n5, n6, n7.map (·.1), n8, n15) : FO) = (some (n, q, defArgs st, FuncBody.stmts (defBody st), defScope st, mainGlobals, ["__class__"], Value.none, builtinsNs) : FO) := e
      simp only [Option.some.injEq, Prod.mk.injEq] at e2
      obtain ⟨h1, h2, h3, h4, h5, h6, h7, h8, h9⟩ := e2
      subst h1 h2 h3 h4 h5 h6 h8 h9
      cases n7 with
      | nil => cases h7
      | cons a b =>
        obtain ⟨a1, cc⟩ := a
        cases b with
        | cons _ _ => cases h7
        | nil =>
          have h7 : a1 = "__class__" := by simpa using h7
          subst h7
          cases n13 with
          | ref cd =>
            have c2 : (PySem.W.codeIn K (.ref cd) n2 && PySem.W.keepIn K (.ref f)) = true := c
            rw [Bool.and_eq_true] at c2
            rw [Bool.and_eq_true] at x
            obtain ⟨x1, x2⟩ := x
            dsimp only at x1 x2 ⊢
            split at x1
            · rename_i vs _ hv
              split at x1
              · rename_i fi tf h2
                split at x2
                · rename_i D _ hD
                  have hDC : D = C := beq_iff_eq.mp x2
                  subst hDC
                  exact ⟨oc, n9, n10, n11, n14, _, _, od, n12, _, _, osl, _, _, vs, fi, tf, rfl, c2.1, hv, h2, x1, hD⟩
                · cases x2
              · cases x1
            · cases x1
          | _ => cases c
    | _ => cases c
mutual
noncomputable def kdB (K : Fg) : Nat → D → Value → Bool
  | _, .non, .none => true
  | _, .bl b, .bool c => c == b
  | _, .int i, .int j _ => decide (j = i)
  | _, .str x, .str y _ => eqNs y.cps.toList x.cps.toList
  | n + 1, .tup ds, .ref p => (match K.lookup p with
    | some ⟨.type c, none, .seq its _, _⟩ => decide (c = "tuple") && (Nat.ble its.size sizeLine && kdsB K n ds its.toList)
    | _ => false)
  | _, _, _ => false
noncomputable def kdsB (K : Fg) : Nat → List D → List Value → Bool
  | _, [], [] => true
  | n + 1, d :: ds, v :: vs => kdB K n d v && kdsB K n ds vs
  | _, _, _ => false
end
mutual
theorem kdB_ok {K : Fg} : ∀ {n : Nat} {d : D} {u : Value}, kdB K n d u = true → ∃ v, KDV K d v ∧ RelV v u
  | n, .non, u, h => by
    cases u <;> first | (cases n <;> cases h; done) | exact ⟨.non, .non, rfl⟩
  | n, .bl b, u, h => by
    cases u with
    | bool c =>
      have e : c = b := by
        have h1 : (c == b) = true := by cases n <;> exact h
        exact eq_of_beq h1
      exact ⟨.bl b, .bl b, by rw [e]; rfl⟩
    | _ => cases n <;> cases h
  | n, .int i, u, h => by
    cases u with
    | int j t =>
      have e : j = i := by
        have h1 : decide (j = i) = true := by cases n <;> exact h
        exact of_decide_eq_true h1
      exact ⟨.int i, .int i, ⟨t, by rw [e]⟩⟩
    | _ => cases n <;> cases h
  | n, .str x, u, h => by
    cases u with
    | str y t =>
      have e : y = x := by
        have h1 : eqNs y.cps.toList x.cps.toList = true := by cases n <;> exact h
        exact strB_iff.mp h1
      exact ⟨.str x, .str x, ⟨t, by rw [e]⟩⟩
    | _ => cases n <;> cases h
  | 0, .tup ds, u, h => by cases u <;> cases h
  | n + 1, .tup ds, u, h => by
    cases u with
    | ref p =>
      have h1 : (match K.lookup p with
        | some ⟨.type c, none, .seq its _, _⟩ => decide (c = "tuple") && (Nat.ble its.size sizeLine && kdsB K n ds its.toList)
        | _ => false) = true := h
      split at h1
      · rename_i c its k sl hk
        rw [Bool.and_eq_true, Bool.and_eq_true] at h1
        obtain ⟨h2, h3, h4⟩ := h1
        obtain ⟨vs, h5, h6⟩ := kdsB_ok h4
        have e : c = "tuple" := of_decide_eq_true h2
        subst e
        exact ⟨.ref p, .tup ⟨_, its, k, hk, rfl, rfl, rfl, Nat.le_of_ble_eq_true h3, h6⟩ h5, rfl⟩
      · cases h1
    | _ => cases h
  | 0, .lst _, _, h => by cases h
  | _ + 1, .lst _, _, h => by cases h
  | 0, .dct _ _, _, h => by cases h
  | _ + 1, .dct _ _, _, h => by cases h
  | 0, .ref _, _, h => by cases h
  | _ + 1, .ref _, _, h => by cases h
  | 0, .cls _, _, h => by cases h
  | _ + 1, .cls _, _, h => by cases h
  | 0, .fn _, _, h => by cases h
  | _ + 1, .fn _, _, h => by cases h
  | 0, .exc _ _, _, h => by cases h
  | _ + 1, .exc _ _, _, h => by cases h
  | 0, .ty _, _, h => by cases h
  | _ + 1, .ty _, _, h => by cases h
  | 0, .lam _ _, _, h => by cases h
  | _ + 1, .lam _ _, _, h => by cases h
  | 0, .wtp _, _, h => by cases h
  | _ + 1, .wtp _, _, h => by cases h
theorem kdsB_ok {K : Fg} : ∀ {n : Nat} {ds : List D} {us : List Value}, kdsB K n ds us = true → ∃ vs, KDVs K ds vs ∧ Vals vs us
  | _, [], [], _ => ⟨[], .nil, .nil⟩
  | n + 1, d :: ds, u :: us, h => by
    have h1 : (kdB K n d u && kdsB K n ds us) = true := h
    rw [Bool.and_eq_true] at h1
    obtain ⟨v, h2, h3⟩ := kdB_ok h1.1
    obtain ⟨vs, h4, h5⟩ := kdsB_ok h1.2
    exact ⟨v :: vs, .cons h2 h4, .cons h3 h5⟩
  | 0, _ :: _, _ :: _, h => by cases h
  | 0, [], _ :: _, h => by cases h
  | _ + 1, [], _ :: _, h => by cases h
  | 0, _ :: _, [], h => by cases h
  | _ + 1, _ :: _, [], h => by cases h
end
noncomputable def gtB (K : Fg) (x : Str) (d : D) : Bool := refO (nsQ K mainGlobals x) && kdB K 40 d (.ref (gQ K x))
theorem gtB_ok {K : Fg} {x : Str} {d : D} (h : gtB K x d = true) : ∃ p, PySem.W.nsIn K mainGlobals x = some (some (.ref p)) ∧ KDV K d (.ref p) := by
  unfold gtB at h
  rw [Bool.and_eq_true] at h
  obtain ⟨v, h1, h2⟩ := kdB_ok h.2
  have e : v = .ref (gQ K x) := by
    cases v with
    | ref a =>
      have h3 : (Value.ref (gQ K x)) = .ref a := h2
      cases h3
      rfl
    | non => cases h2
    | bl b => cases h2
    | ty n => cases h2
    | _ => obtain ⟨_, z⟩ := h2; cases z
  subst e
  exact ⟨_, gQ_ok h.1, h1⟩
/-- the main names, the statics, what stands from n0 on -/
noncomputable def asR (n0 n : Nat) : List Addr := mainGlobals :: cStatics :: List.range' n0 (n - n0)
noncomputable def obsR (n0 : Nat) (chk : Fg → Bool) (ds : List DefH) (ts : Fg → List Addr) (g : Addr → Option Obj) (n : Nat) : Bool × List FO :=
  (chk (He.frT g (asR n0 n)) && (ts (He.frT g (asR n0 n))).all fun P => (match g P with
    | some o => He.emptyTab o
    | none => false), ds.map fun d => foA (He.frT g (asR n0 n)) (d.at_ (He.frT g (asR n0 n))))
structure SaysR (chk : Fg → Bool) (ds : List DefH) (ts : Fg → List Addr) (K : Fg) (h : Heap) : Prop where
  chk : chk K = true
  defs : ∀ (i : Nat) (d : DefH), ds[i]? = some d → foA K (d.at_ K) = d.val
  out : ∀ P ∈ ts K, K.lookup P = none
  tab : ∀ P ∈ ts K, h.get? P = some (PySem.W.tabObj #[])
noncomputable def hookR (n0 : Nat) (chk : Fg → Bool) (ds : List DefH) (ts : Fg → List Addr) : PySem.W.Hook where
  α := Bool × List FO
  obs := fun s => obsR n0 chk ds ts s.heap.get? s.heap.objs.size
  val := fun _ => (true, ds.map DefH.val)
  says := fun _ h => ∃ K : Fg, K.In h ∧ SaysR chk ds ts K h
  of := fun _ s e => by
    refine ⟨He.frT s.heap.get? (asR n0 s.heap.objs.size), He.frT_in, ?_⟩
    have e1 := (Prod.mk.inj e).1
    have e2 := (Prod.mk.inj e).2
    rw [Bool.and_eq_true] at e1
    have key := List.all_eq_true.mp e1.2
    refine ⟨e1.1, fun i d hd => ?_, fun P hP => ?_, fun P hP => ?_⟩
    · have e3 : (ds.map fun d => foA (He.frT s.heap.get? (asR n0 s.heap.objs.size)) (d.at_ (He.frT s.heap.get? (asR n0 s.heap.objs.size))))[i]? = (ds.map DefH.val)[i]? := by rw [e2]
      rw [List.getElem?_map, List.getElem?_map, hd] at e3
      exact Option.some.inj e3
    · have k := key P hP
      cases q : s.heap.get? P with
      | none => rw [q] at k; cases k
      | some o => rw [q] at k; exact He.frT_none q k
    · have k := key P hP
      cases q : s.heap.get? P with
      | none => rw [q] at k; cases k
      | some o => rw [q] at k; rw [He.emptyTab_eq k]
  keeps := fun _ _ _ ⟨K, hK, c⟩ k => ⟨K, PySem.W.Frag.In.keeps hK k, c.chk, c.defs, c.out, fun P hP => k _ _ (c.tab P hP)⟩
theorem obsR_eq {n0 : Nat} {chk : Fg → Bool} {ds : List DefH} {ts : Fg → List Addr} (s : PySem.W.SharedT) : obsR n0 chk ds ts (HandSHeadRun.getT s) s.n = (hookR n0 chk ds ts).obs s.abs := by
  have e : HandSHeadRun.getT s = s.abs.heap.get? := funext (HandSHeadRun.getT_eq s)
  have e2 : s.abs.heap.objs.size = s.n := PySem.W.absHeap_size _ _ _
  show _ = obsR n0 chk ds ts s.abs.heap.get? s.abs.heap.objs.size
  rw [e, e2]
theorem ck_at {l : List (Fg → Bool)} {K : Fg} (h : (l.all fun f => f K) = true) (i : Nat) {f : Fg → Bool} (e : l[i]? = some f := by rfl) : f K = true := List.all_eq_true.mp h f (List.mem_of_getElem? e)
theorem walk_H {l : PySem.W.OpenLaw} {n k : Nat} {q : Program} {loose : List Str} {XP : (Str → Option Value) → Heap → Prop} {YP : World → Heap → Prop} {d : DefRec} {x : Str} {c : CF} {chk : Fg → Bool} {ds : List DefH} {ts : Fg → List Addr}
    (hn : l.most = some n) (hn2 : n ≤ sizeLine) (hdf : d.params.defaults = []) (hr : Room k callerA) (hY : ∀ (w : World) (h : Heap), YP w h → ∃ K : Fg, K.In h ∧ SaysR chk ds ts K h)
    (F : ∀ (w : World) (mg : Str → Option Value) (fa : Addr) (h : Heap) (K : Fg), K.In h → h.Ns mainGlobals mg → mg d.name = some (.ref fa) → SaysR chk ds ts K h →
      ∃ (fd : FuncData) (mk : Heap → G) (cs : List (Addr × Addr)), (∀ (s : Shared) (u : Value), BindsTo s fd ⟨[u], []⟩ [(x, u)]) ∧ (∀ h, (mk h).prog = l.prog ∧ (mk h).w = w ∧ (mk h).K = K ∧ (mk h).mg = mg ∧ (mk h).base = h) ∧
        (∀ p ∈ cs, PySem.W.CodeHd h p.1 p.2 ∧ h.get? p.2 = some (PySem.W.tabObj #[])) ∧ (∀ p ∈ cs, K.lookup p.2 = none) ∧ (∀ h, ∀ t ∈ (mk h).tabs, t.1 ∈ cs.map (·.2)) ∧
        ∀ base : Heap, K.In base → base.Ns mainGlobals mg → (∀ p ∈ cs, LamX.TabB base mg p.1 p.2) → FnG (mk base) k fa fd [x] (SpC (mk base) c 1))
    (hc : ∀ ns : List Int, ns.length ≤ n → ∃ A', c [.lst (ns.map .int)] [] = .ok (.bl true) A') :
    PySem.W.WalkO q loose XP YP l.row.toRowW d [] (fun f vs => PySem.call f vs) := by
  refine Att.attach_call hn hdf fun w s₀ s₁ mg mb fa o pm cd doc a vs ns G Y ho hd hcd hmg hobj hints hlen hg => ?_
  obtain ⟨K, KX, hS⟩ := hY w _ Y
  obtain ⟨fd, mk, cs, hb, hm, hT, nT, htb, hF⟩ := F w mg fa _ K KX G.T.g hmg hS
  exact law_end hm hT nT htb G.T.bmain KX G.T.g G.T.b G.T.builtins G.T.nolimit hg hobj hints (Nat.le_trans hlen hn2) hr hF hb (hc ns hlen)
end Sm
end
section
set_option autoImplicit false
namespace Sm
open PySem PySem.Spec PyProof.Rows L2
section
variable {S β γ δ : Type} {X : Option S}
theorem rj_all {C D : S → Bool} (h1 : X.map C = some true) (h2 : X.map D = some true) : X.map (fun s => C s && D s) = some true := by
  cases X with
  | none => cases h1
  | some s =>
    have e1 : C s = true := Option.some.inj h1
    have e2 : D s = true := Option.some.inj h2
    show some (C s && D s) = some true
    rw [e1, e2]
    rfl
theorem rj_end {ζ : Type} {L : S → β} {N : S → γ} {Z : S → ζ} {C : S → Bool} {F : S → List δ} {O : S → Bool × List δ} {a : β} {b : γ} {z : ζ} {v : List δ} (ho : ∀ s, O s = (C s, F s)) (h0 : X.map (fun s => (L s, N s, Z s)) = some (a, b, z)) (h1 : X.map C = some true) (h2 : X.map F = some v) :
    X.map (fun s => (L s, N s, O s)) = some (a, b, true, v) := by
  cases X with
  | none => cases h0
  | some s =>
    have e0 : (L s, N s, Z s) = (a, b, z) := Option.some.inj h0
    have e1 : C s = true := Option.some.inj h1
    have e2 : F s = v := Option.some.inj h2
    show some (L s, N s, O s) = some (a, b, true, v)
    rw [ho, e1, e2, (Prod.mk.inj e0).1, (Prod.mk.inj (Prod.mk.inj e0).2).1]
end
/-- what is written, off the tree -/
noncomputable def kS (n0 : Nat) (s : PySem.W.SharedT) : Fg := He.frT (HandSHeadRun.getT s) (asR n0 s.n)
noncomputable def tabsE (ts : Fg → List Addr) (n0 : Nat) (s : PySem.W.SharedT) : Bool := (ts (kS n0 s)).all fun P => (match HandSHeadRun.getT s P with
  | some o => He.emptyTab o
  | none => false)
end Sm
end
namespace Sm
open PySem PySem.Spec PyProof.Rows L2
noncomputable abbrev top (i : Nat) : Stmt := PySem.Challenge.pw_piledtrees_k40_whole_stands.main.body.getD i (.Pass ⟨0, 0, 0, 0⟩)
noncomputable def efL : List (List Str) := [[], [], [], [], ["place"], [], [], [], ["value"], []]
noncomputable def efT : Nat → List Str := fun c => efL.getD c []
noncomputable def isaL : IsaT := [(.inr 4, .inr 0, true), (.inr 4, .inr 1, false), (.inr 4, .inr 2, false), (.inr 4, .inr 3, false), (.inr 4, .inr 4, true), (.inr 4, .inr 5, false), (.inr 4, .inr 6, false), (.inr 4, .inr 7, false), (.inr 4, .inr 8, false), (.inr 4, .inr 9, false), (.inr 8, .inr 0, true), (.inr 8, .inr 1, false), (.inr 8, .inr 2, false), (.inr 8, .inr 3, false), (.inr 8, .inr 4, false), (.inr 8, .inr 5, false), (.inr 8, .inr 6, false), (.inr 8, .inr 7, false), (.inr 8, .inr 8, true), (.inr 8, .inr 9, false), (.inl "tuple", .inl "tuple", true), (.inl "tuple", .inl "str", false), (.inl "str", .inl "str", true), (.inl "str", .inl "tuple", false), (.inl "dict", .inl "dict", true), (.inl "dict", .inl "tuple", false), (.inl "dict", .inl "str", false), (.inl "list", .inl "list", true), (.inl "list", .inl "tuple", false), (.inl "list", .inl "str", false), (.inl "int", .inl "int", true), (.inl "int", .inl "bool", false), (.inl "int", .inl "tuple", false), (.inl "int", .inl "str", false), (.inl "NoneType", .inl "tuple", false), (.inl "NoneType", .inl "str", false)]
noncomputable def isaT : String ⊕ Nat → String ⊕ Nat → Option Bool := isaOf isaL
noncomputable abbrev tab0 {α : Type} : Nat → Option α := fun _ => none
noncomputable abbrev tab1 {α : Type} (f : Nat) (c : α) : Nat → Option α := fun i => if i = f then some c else none
noncomputable def tA (g : G) (i : Nat) : Addr := (g.tabs.getD i (0, "")).1
noncomputable def mt0 : Nat → Option Bool := fun c => if c ∈ ([4, 8] : List Nat) then some true else none
noncomputable abbrev s_law_folded : Stmt := top 64
noncomputable abbrev n_law_folded : List Str := ["_law_script", "_law_n", "_law_found", "_law_cell"]
theorem sc_law_folded : FnScope n_law_folded ["_law_script"] (defScope s_law_folded) := ⟨rfl, rfl, rfl, by decide +kernel, rfl, by decide +kernel, by decide +kernel⟩
noncomputable abbrev s_law_begun : Stmt := top 66
noncomputable abbrev n_law_begun : List Str := ["_law_script", "_law_m", "_law_cell"]
theorem sc_law_begun : FnScope n_law_begun ["_law_script"] (defScope s_law_begun) := ⟨rfl, rfl, rfl, by decide +kernel, rfl, by decide +kernel, by decide +kernel⟩
noncomputable abbrev s_law_is_fault : Stmt := top 71
noncomputable abbrev n_law_is_fault : List Str := ["_law_stand", "_law_below", "_law_entry", "_law_truth", "_law_own", "_law_right"]
noncomputable def b_law_is_fault : CS := (cSeq (cAsg (cVar 0) (gTupN 3 (gsCons (gSetN 1) (gsCons (gSetN 2) (gsCons (gSetN 3) gsNil))))) (cSeq (cSet 4 (c2 pGetX (cLst (cCons (cC (.str "none")) (cCons (cC (.str "own")) cNil))) (cCall pInt (cCons (c2 pNeX (cVar 1) (cC (.str "none"))) cNil)))) (cSeq (cSet 5 (cDisp (((cC (.str "none")), (cLst (cCons (cVar 4) cNil))) :: (((cC (.str "gone")), (cLst (cCons (cC (.str "none")) cNil))) :: (((cC (.str "file")), (c2 (pCat false) (cLst (cCons (cC (.str "file")) cNil)) (c2 pMulX (cLst (cCons (cC (.str "own")) cNil)) (cCall pInt (cCons (c2 (pInT false) (cVar 1) (cTup (cCons (cC (.str "file")) (cCons (cC (.str "names")) cNil)))) cNil))))) :: (((cC (.str "joins")), (cIf (cB (c2 pEqX (cVar 1) (cC (.str "folder")))) (cLst (cCons (cC (.str "own")) cNil)) (cLst (cCons (cC (.str "made")) cNil)))) :: (((cC (.str "bare")), (cLst (cCons (cC (.str "made")) cNil))) :: (((cC (.str "led")), (c2 (pCat false) (cLst (cCons (cC (.str "other")) cNil)) (c2 pMulX (cLst (cCons (cC (.str "own")) cNil)) (cCall pInt (cCons (c2 pEqX (cVar 1) (cC (.str "folder"))) cNil))))) :: [])))))))) (cRet (c2 (pInT true) (cVar 3) (cMethX "dict" pDGet (cVar 5) (cCons (cVar 2) (cCons (cLst cNil) cNil))))))))
noncomputable def c_law_is_fault : CF := runB 6 (b_law_is_fault)
theorem sc_law_is_fault : FnScope n_law_is_fault ["_law_stand"] (defScope s_law_is_fault) := ⟨rfl, rfl, rfl, by decide +kernel, rfl, by decide +kernel, by decide +kernel⟩
noncomputable abbrev s_law_raised : Stmt := top 73
noncomputable abbrev n_law_raised : List Str := ["_law_book_here", "_law_stand"]
noncomputable def b_law_raised : CS := (cSeq (cIfS (cB (c2 pNeX (c2 pGetX (cVar 1) (cC (.int 1))) (cC (.str "none")))) (cRet (cVar 1)) cSkip) (cSeq (cIfS (cB (c2 pEqX (c2 pGetX (cVar 1) (cC (.int 0))) (cC (.str "folder")))) (cRet (cTup (cCons (cC (.str "folder")) (cCons (cC (.str "joins")) (cCons (cC (.str "own")) cNil))))) cSkip) (cRet (cTup (cCons (c2 pGetX (cVar 1) (cC (.int 0))) (cCons (cIf (cAnd (cB (c2 pEqX (c2 pGetX (cVar 1) (cC (.int 0))) (cC (.str "names")))) (cB (c2 pEqX (c2 pGetX (cVar 0) (cC (.int 5))) (cC (.str "copy"))))) (cC (.str "apart")) (cC (.str "file"))) (cCons (cC (.str "own")) cNil)))))))
noncomputable def c_law_raised : CF := runB 2 (b_law_raised)
theorem sc_law_raised : FnScope n_law_raised ["_law_book_here", "_law_stand"] (defScope s_law_raised) := ⟨rfl, rfl, rfl, by decide +kernel, rfl, by decide +kernel, by decide +kernel⟩
noncomputable abbrev s_law_behind : Stmt := top 74
noncomputable abbrev n_law_behind : List Str := ["_law_book_here", "_law_stand", "_law_below", "_law_entry", "_law_truth", "_law_mark", "_law_kept"]
noncomputable def b_law_behind : CS := (cSeq (cAsg (cVar 1) (gTupN 3 (gsCons (gSetN 2) (gsCons (gSetN 3) (gsCons (gSetN 4) gsNil))))) (cSeq (cIfS (cB (cCall (isoF c_law_is_fault) (cCons (cVar 1) cNil))) (cRet (cLst cNil)) cSkip) (cSeq (cIfS (cB (c2 pEqX (cVar 4) (cC (.str "none")))) (cSeq (cSet 5 (c2 pGetX (cDisp (((cC (.str "bare")), (cC (.str "bare"))) :: (((cC (.str "joins")), (cC (.str "joins"))) :: (((cC (.str "over")), (cIf (cB (c2 pEqX (cVar 3) (cC (.str "gone")))) (cC (.str "bare")) (cC (.str "joins")))) :: [])))) (c2 pGetX (cVar 0) (cC (.int 1))))) (cRet (cCall pSortedX (cCons (cLst (cCons (cTup (cCons (cVar 2) (cCons (cC (.str "file")) (cCons (cC (.str "file")) cNil)))) (cCons (cTup (cCons (cVar 2) (cCons (cVar 5) (cCons (cC (.str "made")) cNil)))) cNil))) cNil)))) cSkip) (cSeq (cSet 6 (c2 pGetX (cDisp (((cC (.str "always")), (cC (.bl true))) :: (((cC (.str "below")), (c2 pNeX (cVar 2) (cC (.str "none")))) :: (((cC (.str "shown")), (c2 pEqX (cVar 3) (cC (.str "none")))) :: (((cC (.str "never")), (cC (.bl false))) :: []))))) (c2 pGetX (cVar 0) (cC (.int 0))))) (cRet (cSortAll (cCons (cLst (cCons (cCall c_law_raised (cCons (cVar 0) (cCons (cVar 1) cNil))) (cCons (cTup (cCons (cVar 2) (cCons (c2 pGetX (cLst (cCons (cC (.str "none")) (cCons (cC (.str "gone")) cNil))) (cCall pInt (cCons (cVar 6) cNil))) (cCons (cC (.str "none")) cNil)))) cNil))) cNil)))))))
noncomputable def c_law_behind : CF := runB 7 (b_law_behind)
theorem sc_law_behind : FnScope n_law_behind ["_law_book_here", "_law_stand"] (defScope s_law_behind) := ⟨rfl, rfl, rfl, by decide +kernel, rfl, by decide +kernel, by decide +kernel⟩
noncomputable abbrev s_law_mixed : Stmt := top 63
noncomputable abbrev n_law_mixed : List Str := ["_law_cell", "_law_n", "_law_blend"]
theorem sc_law_mixed : FnScope n_law_mixed ["_law_cell", "_law_n"] (defScope s_law_mixed) := ⟨rfl, rfl, rfl, by decide +kernel, rfl, by decide +kernel, by decide +kernel⟩
noncomputable abbrev s_law_draw : Stmt := top 65
noncomputable abbrev n_law_draw : List Str := ["_law_m", "_law_limit", "_law_n", "_law_lot", "_law_here", "_law_cell"]
theorem sc_law_draw : FnScope n_law_draw ["_law_m", "_law_limit"] (defScope s_law_draw) := ⟨rfl, rfl, rfl, by decide +kernel, rfl, by decide +kernel, by decide +kernel⟩
noncomputable abbrev s_law_book : Stmt := top 67
noncomputable abbrev n_law_book : List Str := ["_law_m"]
noncomputable def b_law_book : CS := (cRet (cTup (cCons (c2 pGetX (cLst (cCons (cC (.str "always")) (cCons (cC (.str "below")) (cCons (cC (.str "shown")) (cCons (cC (.str "never")) cNil))))) (cCall c_law_draw (cCons (cVar 0) (cCons (cC (.int 4)) cNil)))) (cCons (c2 pGetX (cLst (cCons (cC (.str "bare")) (cCons (cC (.str "over")) (cCons (cC (.str "joins")) cNil)))) (cCall c_law_draw (cCons (cVar 0) (cCons (cC (.int 3)) cNil)))) (cCons (c2 pGetX (cLst (cCons (cC (.str "bare")) (cCons (cC (.str "keep")) cNil))) (cCall c_law_draw (cCons (cVar 0) (cCons (cC (.int 2)) cNil)))) (cCons (c2 pGetX (cLst (cCons (cC (.str "path")) (cCons (cC (.str "seen")) (cCons (cC (.str "name")) (cCons (cC (.str "near")) (cCons (cC (.str "copy")) (cCons (cC (.str "keep")) cNil))))))) (cCall c_law_draw (cCons (cVar 0) (cCons (cC (.int 6)) cNil)))) (cCons (c2 pGetX (cLst (cCons (cC (.str "kept")) (cCons (cC (.str "anew")) cNil))) (cCall c_law_draw (cCons (cVar 0) (cCons (cC (.int 2)) cNil)))) (cCons (c2 pGetX (cLst (cCons (cC (.str "index")) (cCons (cC (.str "copy")) cNil))) (cCall c_law_draw (cCons (cVar 0) (cCons (cC (.int 2)) cNil)))) cNil))))))))
noncomputable def c_law_book : CF := runB 1 (b_law_book)
theorem sc_law_book : FnScope n_law_book ["_law_m"] (defScope s_law_book) := ⟨rfl, rfl, rfl, by decide +kernel, rfl, by decide +kernel, by decide +kernel⟩
noncomputable abbrev s_law_first : Stmt := top 76
noncomputable abbrev n_law_first : List Str := ["_law_has_so", "_law_some", "_law_below"]
noncomputable def b_law_first : CS := (cSeq (cSet 1 (c2 (pCat false) (cLst (cCons (cC (.str "file")) (cCons (cC (.str "folder")) cNil))) (c2 pMulX (cLst (cCons (cC (.str "names")) cNil)) (cCall pInt (cCons (cVar 0) cNil))))) (cRet (cCall pSortedX (cCons (c2 (pCat false) (cLc [2] (iAny (cVar 1)) (gSetN 2) cYes (cTup (cCons (cVar 2) (cCons (cC (.str "none")) (cCons (cC (.str "own")) cNil))))) (cLst (cCons (cTup (cCons (cC (.str "none")) (cCons (cC (.str "none")) (cCons (cC (.str "none")) cNil)))) cNil))) cNil))))
noncomputable def c_law_first : CF := runB 3 (b_law_first)
theorem sc_law_first : FnScope n_law_first ["_law_has_so"] (defScope s_law_first) := ⟨rfl, rfl, rfl, by decide +kernel, rfl, by decide +kernel, by decide +kernel⟩
noncomputable abbrev s_law_has_folder : Stmt := top 72
noncomputable abbrev n_law_has_folder : List Str := ["_law_stand"]
noncomputable def b_law_has_folder : CS := (cRet (cOrV (c2 (pInT false) (c2 pGetX (cVar 0) (cC (.int 2))) (cTup (cCons (cC (.str "made")) (cCons (cC (.str "other")) cNil)))) (cAndV (c2 pEqX (c2 pGetX (cVar 0) (cC (.int 2))) (cC (.str "own"))) (c2 pEqX (c2 pGetX (cVar 0) (cC (.int 0))) (cC (.str "folder"))))))
noncomputable def c_law_has_folder : CF := runB 1 (b_law_has_folder)
theorem sc_law_has_folder : FnScope n_law_has_folder ["_law_stand"] (defScope s_law_has_folder) := ⟨rfl, rfl, rfl, by decide +kernel, rfl, by decide +kernel, by decide +kernel⟩
noncomputable abbrev s_law_moved : Stmt := top 75
noncomputable abbrev n_law_moved : List Str := ["_law_book_here", "_law_source", "_law_target", "_law_same_so", "_law_home_so", "_law_below", "_law_faulty", "_law_entry", "_law_move", "_law_free", "_law_own", "_law_word"]
noncomputable def b_law_moved : CS := (cSeq (cPar 5 6 (c2 pGetX (cVar 2) (cC (.int 0))) (cOrV (cCall (isoF c_law_is_fault) (cCons (cVar 1) cNil)) (cCall (isoF c_law_is_fault) (cCons (cVar 2) cNil)))) (cSeq (cIfS (cOr (cB (c2 pEqX (c2 pGetX (cVar 1) (cC (.int 2))) (cC (.str "none")))) (cOr (cB (c2 pNeX (c2 pGetX (cVar 2) (cC (.int 2))) (cC (.str "none")))) (cB (cVar 6)))) (cRet (cLst cNil)) cSkip) (cSeq (cIfS (cNot (cB (cCall c_law_has_folder (cCons (cVar 1) cNil)))) (cRet (c2 (pCat false) (cLst (cCons (cTup (cCons (cVar 5) (cCons (cC (.str "file")) (cCons (cC (.str "file")) cNil)))) cNil)) (c2 pMulX (cLst (cCons (cTup (cCons (cVar 5) (cCons (cC (.str "file")) (cCons (cC (.str "own")) cNil)))) cNil)) (cCall pInt (cCons (c2 (pInT false) (cVar 5) (cTup (cCons (cC (.str "file")) (cCons (cC (.str "names")) cNil)))) cNil))))) cSkip) (cSeq (cIfS (cB (c2 pEqX (c2 pGetX (cVar 1) (cC (.int 2))) (cC (.str "made")))) (cRet (cLst (cCons (cTup (cCons (cVar 5) (cCons (cIf (cB (c2 pEqX (c2 pGetX (cVar 0) (cC (.int 2))) (cC (.str "bare")))) (cC (.str "bare")) (c2 pGetX (cVar 1) (cC (.int 1)))) (cCons (cC (.str "made")) cNil)))) cNil))) cSkip) (cSeq (cPar 7 8 (c2 pGetX (cCall c_law_raised (cCons (cVar 0) (cCons (cVar 1) cNil))) (cC (.int 1))) (c2 pGetX (cVar 0) (cC (.int 3)))) (cSeq (cSet 9 (cOrV (c2 pEqX (c2 pGetX (cVar 0) (cC (.int 4))) (cC (.str "anew"))) (c2 pNeX (cVar 7) (cC (.str "led"))))) (cSeq (cIfS (cOr (cAnd (cB (c2 pEqX (cVar 8) (cC (.str "near")))) (cNot (cB (cVar 3)))) (cAnd (cB (c2 pEqX (cVar 8) (cC (.str "copy")))) (cB (cVar 9)))) (cRet (cLst (cCons (cTup (cCons (cVar 5) (cCons (cC (.str "bare")) (cCons (cC (.str "made")) cNil)))) cNil))) cSkip) (cSeq (cSet 10 (c2 pEqX (c2 pGetX (cVar 1) (cC (.int 2))) (cC (.str "own")))) (cSeq (cSet 11 (cMethX "dict" pDGet (cDisp (((cC (.str "path")), (cC (.str "led"))) :: (((cC (.str "keep")), (cVar 7)) :: (((cC (.str "seen")), (cIf (cAnd (cB (cVar 4)) (cB (cVar 10))) (cC (.str "led")) (cC (.str "off")))) :: [])))) (cCons (cVar 8) (cCons (cIf (cAnd (cB (cVar 3)) (cB (cVar 10))) (cC (.str "led")) (cC (.str "off"))) cNil)))) (cSeq (cIfS (cNot (cB (cVar 9))) (cSet 11 (cIf (cAnd (cB (c2 pEqX (cVar 8) (cC (.str "name")))) (cNot (cB (cVar 3)))) (cC (.str "off")) (cC (.str "led")))) cSkip) (cRet (c2 (pCat false) (cLst (cCons (cTup (cCons (cVar 5) (cCons (cVar 11) (cCons (cC (.str "other")) cNil)))) cNil)) (c2 pMulX (cLst (cCons (cTup (cCons (cVar 5) (cCons (cVar 11) (cCons (cC (.str "own")) cNil)))) cNil)) (cCall pInt (cCons (cAndV (c2 pEqX (cVar 5) (cC (.str "folder"))) (c2 pEqX (c2 pGetX (cVar 1) (cC (.int 2))) (cC (.str "other")))) cNil)))))))))))))))
noncomputable def c_law_moved : CF := runB 12 (b_law_moved)
theorem sc_law_moved : FnScope n_law_moved ["_law_book_here", "_law_source", "_law_target", "_law_same_so", "_law_home_so"] (defScope s_law_moved) := ⟨rfl, rfl, rfl, by decide +kernel, rfl, by decide +kernel, by decide +kernel⟩
noncomputable abbrev s_law_odds : Stmt := top 77
noncomputable abbrev n_law_odds : List Str := ["_law_stand", "_law_some"]
noncomputable def b_law_odds : CS := (cSeq (cSet 1 (cLst (cCons (cC .non) (cCons (cC (.int 5)) (cCons (cC (.str "own")) (cCons (cTup cNil) (cCons (cSl (cVar 0) cONone (cOSome (cC (.int 2)))) (cCons (c2 pAdd (cVar 0) (cTup (cCons (cC (.str "own")) cNil))) (cCons (cCall (pLstX false) (cCons (cVar 0) cNil)) (cCons (cTup (cCons (cC (.str "none")) (cCons (cC (.str "none")) cNil))) (cCons (cTup (cCons (cC (.str "None")) (cCons (cC (.str "none")) (cCons (cC (.str "none")) cNil)))) cNil))))))))))) (cSeq (cSet 1 (c2 (pCat false) (cVar 1) (cLst (cCons (cTup (cCons (cC (.str "none")) (cCons (cC (.str "none")) (cCons (cC .non) cNil)))) (cCons (cTup (cCons (cC (.int 0)) (cCons (cC (.str "none")) (cCons (cC (.str "none")) cNil)))) (cCons (cTup (cCons (cC (.str "none")) (cCons (cC (.str "names")) (cCons (cC (.str "none")) cNil)))) (cCons (cTup (cCons (cC (.str "made")) (cCons (cC (.str "none")) (cCons (cC (.str "none")) cNil)))) cNil))))))) (cRet (c2 (pCat false) (cVar 1) (cLst (cCons (cTup (cCons (cC (.str "none")) (cCons (cC (.str "none")) (cCons (cC (.str "led")) cNil)))) (cCons (cTup (cCons (cC (.str "own")) (cCons (cC (.str "none")) (cCons (cC (.str "none")) cNil)))) (cCons (cTup (cCons (cVar 0) cNil)) (cCons (cTup (cCons (cC (.str "none")) (cCons (cTup (cCons (cC (.str "none")) cNil)) (cCons (cC (.str "none")) cNil)))) (cCons cEmp cNil))))))))))
noncomputable def c_law_odds : CF := runB 2 (b_law_odds)
theorem sc_law_odds : FnScope n_law_odds ["_law_stand"] (defScope s_law_odds) := ⟨rfl, rfl, rfl, by decide +kernel, rfl, by decide +kernel, by decide +kernel⟩
noncomputable abbrev s_law_class : Stmt := top 68
noncomputable abbrev n_law_class : List Str := ["_law_error", "_law_some", "_law_words", "_law_own", "_law_holds"]
noncomputable def b_law_class : CS := (cSeq (cSet 1 (cNewL (cCons (cTup (cCons (cC (.str "tree")) (cCons (cCall (pIsa isaT) (cCons (cVar 0) (cCons (cC (.cls 1)) cNil))) cNil))) (cCons (cTup (cCons (cC (.str "path")) (cCons (cCall (pIsa isaT) (cCons (cVar 0) (cCons (cC (.cls 2)) cNil))) cNil))) cNil)))) (cSeq (cSet 1 (c2 (pCat true) (cVar 1) (cLst (cCons (cTup (cCons (cC (.str "upper")) (cCons (cCall (pIsa isaT) (cCons (cVar 0) (cCons (cC (.cls 3)) cNil))) cNil))) (cCons (cTup (cCons (cC (.str "book")) (cCons (cCall (pIsa isaT) (cCons (cVar 0) (cCons (cC (.cls 4)) cNil))) cNil))) cNil))))) (cSeq (cSet 1 (c2 (pCat true) (cVar 1) (cLst (cCons (cTup (cCons (cC (.str "deed")) (cCons (cCall (pIsa isaT) (cCons (cVar 0) (cCons (cC (.cls 5)) cNil))) cNil))) (cCons (cTup (cCons (cC (.str "row")) (cCons (cCall (pIsa isaT) (cCons (cVar 0) (cCons (cC (.cls 6)) cNil))) cNil))) cNil))))) (cSeq (cSet 1 (c2 (pCat true) (cVar 1) (cLst (cCons (cTup (cCons (cC (.str "refused")) (cCons (cCall (pIsa isaT) (cCons (cVar 0) (cCons (cC (.cls 7)) cNil))) cNil))) (cCons (cTup (cCons (cC (.str "stand")) (cCons (cCall (pIsa isaT) (cCons (cVar 0) (cCons (cC (.cls 8)) cNil))) cNil))) cNil))))) (cSeq (cExpr (cMeth "list" pAppend (cVar 1) (cCons (cTup (cCons (cC (.str "paper")) (cCons (cCall (pIsa isaT) (cCons (cVar 0) (cCons (cC (.cls 9)) cNil))) cNil))) cNil))) (cSeq (cSet 2 (cLc [3, 4] (iAny (cVar 1)) (gTupN 2 (gsCons (gSetN 3) (gsCons (gSetN 4) gsNil))) (cB (cVar 4)) (cVar 3))) (cSeq (cIfS (cB (c2 pNeX (cCall pLenX (cCons (cVar 2) cNil)) (cC (.int 1)))) (cRet (cTup (cCons (cC (.str "other")) cNil))) cSkip) (cSeq (cIfS (cB (c2 (pInT false) (c2 pGetX (cVar 2) (cC (.int 0))) (cTup (cCons (cC (.str "book")) (cCons (cC (.str "row")) cNil))))) (cRet (cTup (cCons (c2 pGetX (cVar 2) (cC (.int 0))) (cCons (cXat efT "place" (cVar 0)) cNil)))) cSkip) (cSeq (cIfS (cB (c2 (pInT false) (c2 pGetX (cVar 2) (cC (.int 0))) (cTup (cCons (cC (.str "refused")) (cCons (cC (.str "paper")) cNil))))) (cRet (cTup (cCons (c2 pGetX (cVar 2) (cC (.int 0))) (cCons (cXat efT "word" (cVar 0)) cNil)))) cSkip) (cRet (cTup (cCons (c2 pGetX (cVar 2) (cC (.int 0))) (cCons (cXat efT "value" (cVar 0)) cNil)))))))))))))
noncomputable def c_law_class : CF := runB 5 (b_law_class)
theorem sc_law_class : FnScope n_law_class ["_law_error"] (defScope s_law_class) := ⟨rfl, rfl, rfl, by decide +kernel, rfl, by decide +kernel, by decide +kernel⟩
noncomputable abbrev s_law_said : Stmt := top 69
noncomputable abbrev n_law_said : List Str := ["_law_call", "_law_told_so", "_law_error", "e"]
noncomputable def b_law_said (tf__law_call : Nat → Option CF) (tl__law_call : Nat → Option (Nat × CE)) : CS := (cSeq (cAsg (cTup (cCons (cC .non) (cCons (cC .non) cNil))) (gTupN 2 (gsCons (gSetN 1) (gsCons (gSetN 2) gsNil)))) (cSeq (cTryV mt0 3 2 (cSet 1 (cCallV tf__law_call tl__law_call 0 cNil))) (cRet (cIf (cB (c2 (pIsN false) (cVar 2) (cC .non))) (cLst (cCons (cVar 1) cNil)) (cCall c_law_class (cCons (cVar 2) cNil))))))
noncomputable def c_law_said (tf__law_call : Nat → Option CF) (tl__law_call : Nat → Option (Nat × CE)) : CF := runB 4 (b_law_said tf__law_call tl__law_call)
theorem sc_law_said : FnScope n_law_said ["_law_call"] (defScope s_law_said) := ⟨rfl, rfl, rfl, by decide +kernel, rfl, by decide +kernel, by decide +kernel⟩
noncomputable abbrev s_left_by : Stmt := top 54
noncomputable abbrev n_left_by : List Str := ["book", "below", "entry", "is_kept"]
noncomputable def b_left_by : CS := (cSeq (cSet 3 (cOrV (c2 pEqX (c2 pGetX (cVar 0) (cC (.int 0))) (cC (.str "always"))) (cOrV (cAndV (c2 pEqX (c2 pGetX (cVar 0) (cC (.int 0))) (cC (.str "below"))) (c2 pNeX (cVar 1) (cC (.str "none")))) (cAndV (c2 pEqX (c2 pGetX (cVar 0) (cC (.int 0))) (cC (.str "shown"))) (c2 pEqX (cVar 2) (cC (.str "none"))))))) (cRet (cTup (cCons (cVar 1) (cCons (cIf (cB (cVar 3)) (cC (.str "gone")) (cC (.str "none"))) (cCons (cC (.str "none")) cNil))))))
noncomputable def c_left_by : CF := runB 4 (b_left_by)
theorem sc_left_by : FnScope n_left_by ["book", "below", "entry"] (defScope s_left_by) := ⟨rfl, rfl, rfl, by decide +kernel, rfl, by decide +kernel, by decide +kernel⟩
noncomputable abbrev s_raised_stand : Stmt := top 55
noncomputable abbrev n_raised_stand : List Str := ["book", "stand", "below", "entry", "truth"]
noncomputable def b_raised_stand : CS := (cSeq (cAsg (cVar 1) (gTupN 3 (gsCons (gSetN 2) (gsCons (gSetN 3) (gsCons (gSetN 4) gsNil))))) (cSeq (cIfS (cB (c2 pNeX (cVar 3) (cC (.str "none")))) (cRet (cVar 1)) cSkip) (cSeq (cIfS (cB (c2 pEqX (cVar 2) (cC (.str "folder")))) (cRet (cTup (cCons (cVar 2) (cCons (cC (.str "joins")) (cCons (cVar 4) cNil))))) cSkip) (cRet (cTup (cCons (cVar 2) (cCons (cIf (cAnd (cB (c2 pEqX (cVar 2) (cC (.str "names")))) (cB (c2 pEqX (c2 pGetX (cVar 0) (cC (.int 5))) (cC (.str "copy"))))) (cC (.str "apart")) (cC (.str "file"))) (cCons (cVar 4) cNil))))))))
noncomputable def c_raised_stand : CF := runB 5 (b_raised_stand)
theorem sc_raised_stand : FnScope n_raised_stand ["book", "stand"] (defScope s_raised_stand) := ⟨rfl, rfl, rfl, by decide +kernel, rfl, by decide +kernel, by decide +kernel⟩
noncomputable abbrev s_behind_in : Stmt := top 56
noncomputable abbrev n_behind_in : List Str := ["book", "stand", "below", "entry", "truth", "is_bare"]
noncomputable def b_behind_in : CS := (cSeq (cAsg (cVar 1) (gTupN 3 (gsCons (gSetN 2) (gsCons (gSetN 3) (gsCons (gSetN 4) gsNil))))) (cSeq (cIfS (cB (c2 pEqX (cVar 4) (cC (.str "none")))) (cSeq (cSet 5 (cOrV (c2 pEqX (c2 pGetX (cVar 0) (cC (.int 1))) (cC (.str "bare"))) (cAndV (c2 pEqX (c2 pGetX (cVar 0) (cC (.int 1))) (cC (.str "over"))) (c2 pEqX (cVar 3) (cC (.str "gone")))))) (cRet (cLst (cCons (cTup (cCons (cVar 2) (cCons (cC (.str "file")) (cCons (cC (.str "file")) cNil)))) (cCons (cTup (cCons (cVar 2) (cCons (cIf (cB (cVar 5)) (cC (.str "bare")) (cC (.str "joins"))) (cCons (cC (.str "made")) cNil)))) cNil))))) cSkip) (cRet (cLst (cCons (cCall c_raised_stand (cCons (cVar 0) (cCons (cVar 1) cNil))) (cCons (cCall c_left_by (cCons (cVar 0) (cCons (cVar 2) (cCons (cVar 3) cNil)))) cNil))))))
noncomputable def c_behind_in : CF := runB 6 (b_behind_in)
theorem sc_behind_in : FnScope n_behind_in ["book", "stand"] (defScope s_behind_in) := ⟨rfl, rfl, rfl, by decide +kernel, rfl, by decide +kernel, by decide +kernel⟩
noncomputable abbrev s_is_fault_in : Stmt := top 50
noncomputable abbrev n_is_fault_in : List Str := ["stand", "below", "entry", "truth"]
noncomputable def b_is_fault_in : CS := (cSeq (cAsg (cVar 0) (gTupN 3 (gsCons (gSetN 1) (gsCons (gSetN 2) (gsCons (gSetN 3) gsNil))))) (cSeq (cIfS (cB (c2 pEqX (cVar 2) (cC (.str "none")))) (cRet (c2 pNeX (cVar 3) (cIf (cB (c2 pEqX (cVar 1) (cC (.str "none")))) (cC (.str "none")) (cC (.str "own"))))) cSkip) (cSeq (cIfS (cB (c2 pEqX (cVar 2) (cC (.str "gone")))) (cRet (c2 pNeX (cVar 3) (cC (.str "none")))) cSkip) (cSeq (cIfS (cB (c2 pEqX (cVar 2) (cC (.str "file")))) (cRet (cAndV (c2 pNeX (cVar 3) (cC (.str "file"))) (cOrV (c2 pNeX (cVar 3) (cC (.str "own"))) (c2 (pInT true) (cVar 1) (cTup (cCons (cC (.str "file")) (cCons (cC (.str "names")) cNil))))))) cSkip) (cSeq (cIfS (cB (c2 pEqX (cVar 2) (cC (.str "joins")))) (cRet (c2 pNeX (cVar 3) (cIf (cB (c2 pEqX (cVar 1) (cC (.str "folder")))) (cC (.str "own")) (cC (.str "made"))))) cSkip) (cSeq (cIfS (cB (c2 pEqX (cVar 2) (cC (.str "bare")))) (cRet (c2 pNeX (cVar 3) (cC (.str "made")))) cSkip) (cRet (cOrV (c2 pNeX (cVar 2) (cC (.str "led"))) (cAndV (c2 pNeX (cVar 3) (cC (.str "other"))) (cOrV (c2 pNeX (cVar 3) (cC (.str "own"))) (c2 pNeX (cVar 1) (cC (.str "folder")))))))))))))
noncomputable def c_is_fault_in : CF := runB 4 (b_is_fault_in)
theorem sc_is_fault_in : FnScope n_is_fault_in ["stand"] (defScope s_is_fault_in) := ⟨rfl, rfl, rfl, by decide +kernel, rfl, by decide +kernel, by decide +kernel⟩
noncomputable abbrev s_need_book : Stmt := top 34
noncomputable abbrev n_need_book : List Str := ["book", "place", "choice"]
noncomputable def b_need_book : CS := (cSeq (cIfS (cOr (cNot (cB (cCall (pIsa isaT) (cCons (cVar 0) (cCons (cC (.ty "tuple")) cNil))))) (cB (c2 pNeX (cCall pLenX (cCons (cVar 0) cNil)) (cCall pLenX (cCons (cC (.tup [(.tup [(.str "always"), (.str "below"), (.str "shown"), (.str "never")]), (.tup [(.str "bare"), (.str "over"), (.str "joins")]), (.tup [(.str "bare"), (.str "keep")]), (.tup [(.str "path"), (.str "seen"), (.str "name"), (.str "near"), (.str "copy"), (.str "keep")]), (.tup [(.str "kept"), (.str "anew")]), (.tup [(.str "index"), (.str "copy")])])) cNil))))) (cRaise1 4 (cC .non)) cSkip) (cSeq (cFor (iEnumX (cCons (cVar 0) cNil)) (gTupN 2 (gsCons (gSetN 1) (gsCons (gSetN 2) gsNil))) (cIfS (cOr (cNot (cB (cCall (pIsa isaT) (cCons (cVar 2) (cCons (cC (.ty "str")) cNil))))) (cB (c2 (pInT true) (cVar 2) (c2 pGetX (cC (.tup [(.tup [(.str "always"), (.str "below"), (.str "shown"), (.str "never")]), (.tup [(.str "bare"), (.str "over"), (.str "joins")]), (.tup [(.str "bare"), (.str "keep")]), (.tup [(.str "path"), (.str "seen"), (.str "name"), (.str "near"), (.str "copy"), (.str "keep")]), (.tup [(.str "kept"), (.str "anew")]), (.tup [(.str "index"), (.str "copy")])])) (cVar 1))))) (cRaise1 4 (cVar 1)) cSkip)) (cRet (cVar 0))))
noncomputable def c_need_book : CF := runB 3 (b_need_book)
theorem sc_need_book : FnScope n_need_book ["book"] (defScope s_need_book) := ⟨rfl, rfl, rfl, by decide +kernel, rfl, by decide +kernel, by decide +kernel⟩
noncomputable abbrev s_is_tuple : Stmt := top 14
noncomputable abbrev n_is_tuple : List Str := ["value", "many"]
noncomputable def b_is_tuple : CS := (cRet (cAndV (cCall (pIsa isaT) (cCons (cVar 0) (cCons (cC (.ty "tuple")) cNil))) (c2 pEqX (cCall pLenX (cCons (cVar 0) cNil)) (cVar 1))))
noncomputable def c_is_tuple : CF := runB 2 (b_is_tuple)
theorem sc_is_tuple : FnScope n_is_tuple ["value", "many"] (defScope s_is_tuple) := ⟨rfl, rfl, rfl, by decide +kernel, rfl, by decide +kernel, by decide +kernel⟩
noncomputable abbrev s_is_stand : Stmt := top 47
noncomputable abbrev n_is_stand : List Str := ["value", "word"]
noncomputable def b_is_stand : CS := (cSeq (cIfS (cOr (cNot (cB (cCall c_is_tuple (cCons (cVar 0) (cCons (cC (.int 3)) cNil))))) (cNot (cB (cCall pAll (cCons (cLc [1] (iAny (cVar 0)) (gSetN 1) cYes (cCall (pIsa isaT) (cCons (cVar 1) (cCons (cC (.ty "str")) cNil)))) cNil))))) (cRet (cC (.bl false))) cSkip) (cRet (cAndV (c2 (pInT false) (c2 pGetX (cVar 0) (cC (.int 0))) (cC (.tup [(.str "file"), (.str "folder"), (.str "names"), (.str "none")]))) (cAndV (c2 (pInT false) (c2 pGetX (cVar 0) (cC (.int 1))) (cC (.tup [(.str "apart"), (.str "bare"), (.str "file"), (.str "gone"), (.str "joins"), (.str "led"), (.str "none"), (.str "off")]))) (c2 (pInT false) (c2 pGetX (cVar 0) (cC (.int 2))) (cC (.tup [(.str "file"), (.str "made"), (.str "none"), (.str "other"), (.str "own")])))))))
noncomputable def c_is_stand : CF := runB 2 (b_is_stand)
theorem sc_is_stand : FnScope n_is_stand ["value"] (defScope s_is_stand) := ⟨rfl, rfl, rfl, by decide +kernel, rfl, by decide +kernel, by decide +kernel⟩
noncomputable abbrev s_need_stand : Stmt := top 48
noncomputable abbrev n_need_stand : List Str := ["stand"]
noncomputable def b_need_stand : CS := (cIfS (cNot (cB (cCall (isoF c_is_stand) (cCons (cVar 0) cNil)))) (cRaise1 8 (cVar 0)) cSkip)
noncomputable def c_need_stand : CF := runB 1 (b_need_stand)
theorem sc_need_stand : FnScope n_need_stand ["stand"] (defScope s_need_stand) := ⟨rfl, rfl, rfl, by decide +kernel, rfl, by decide +kernel, by decide +kernel⟩
noncomputable abbrev s_behind : Stmt := top 57
noncomputable abbrev n_behind : List Str := ["book", "stand"]
noncomputable def b_behind : CS := (cSeq (cExpr (cCall (isoF c_need_book) (cCons (cVar 0) cNil))) (cSeq (cExpr (cCall c_need_stand (cCons (cVar 1) cNil))) (cRet (cIf (cB (cCall (isoF c_is_fault_in) (cCons (cVar 1) cNil))) (cTup cNil) (cCall pTupOf (cCons (cSortAll (cCons (cCall (isoF c_behind_in) (cCons (cVar 0) (cCons (cVar 1) cNil))) cNil)) cNil))))))
noncomputable def c_behind : CF := runB 2 (b_behind)
theorem sc_behind : FnScope n_behind ["book", "stand"] (defScope s_behind) := ⟨rfl, rfl, rfl, by decide +kernel, rfl, by decide +kernel, by decide +kernel⟩
noncomputable abbrev s_is_fault : Stmt := top 51
noncomputable abbrev n_is_fault : List Str := ["stand"]
noncomputable def b_is_fault : CS := (cSeq (cExpr (cCall c_need_stand (cCons (cVar 0) cNil))) (cRet (cCall (isoF c_is_fault_in) (cCons (cVar 0) cNil))))
noncomputable def c_is_fault : CF := runB 1 (b_is_fault)
theorem sc_is_fault : FnScope n_is_fault ["stand"] (defScope s_is_fault) := ⟨rfl, rfl, rfl, by decide +kernel, rfl, by decide +kernel, by decide +kernel⟩
noncomputable abbrev s_can_move : Stmt := top 60
noncomputable abbrev n_can_move : List Str := ["source", "target"]
noncomputable def b_can_move : CS := (cRet (cAndV (c2 pNeX (c2 pGetX (cVar 0) (cC (.int 2))) (cC (.str "none"))) (cAndV (c2 pEqX (c2 pGetX (cVar 1) (cC (.int 2))) (cC (.str "none"))) (cAndV (cNotV (cCall (isoF c_is_fault_in) (cCons (cVar 0) cNil))) (cNotV (cCall (isoF c_is_fault_in) (cCons (cVar 1) cNil)))))))
noncomputable def c_can_move : CF := runB 2 (b_can_move)
theorem sc_can_move : FnScope n_can_move ["source", "target"] (defScope s_can_move) := ⟨rfl, rfl, rfl, by decide +kernel, rfl, by decide +kernel, by decide +kernel⟩
noncomputable abbrev s_is_folder_in : Stmt := top 49
noncomputable abbrev n_is_folder_in : List Str := ["stand"]
noncomputable def b_is_folder_in : CS := (cRet (cOrV (c2 (pInT false) (c2 pGetX (cVar 0) (cC (.int 2))) (cTup (cCons (cC (.str "made")) (cCons (cC (.str "other")) cNil)))) (cAndV (c2 pEqX (c2 pGetX (cVar 0) (cC (.int 2))) (cC (.str "own"))) (c2 pEqX (c2 pGetX (cVar 0) (cC (.int 0))) (cC (.str "folder"))))))
noncomputable def c_is_folder_in : CF := runB 1 (b_is_folder_in)
theorem sc_is_folder_in : FnScope n_is_folder_in ["stand"] (defScope s_is_folder_in) := ⟨rfl, rfl, rfl, by decide +kernel, rfl, by decide +kernel, by decide +kernel⟩
noncomputable abbrev s_mark_of : Stmt := top 58
noncomputable abbrev n_mark_of : List Str := ["book", "source", "is_same", "is_home", "entry", "move", "is_again", "is_right"]
noncomputable def b_mark_of : CS := (cSeq (cPar 4 5 (c2 pGetX (cCall c_raised_stand (cCons (cVar 0) (cCons (cVar 1) cNil))) (cC (.int 1))) (c2 pGetX (cVar 0) (cC (.int 3)))) (cSeq (cSet 6 (cOrV (c2 pEqX (c2 pGetX (cVar 0) (cC (.int 4))) (cC (.str "anew"))) (c2 pNeX (cVar 4) (cC (.str "led"))))) (cSeq (cIfS (cOr (cAnd (cB (c2 pEqX (cVar 5) (cC (.str "near")))) (cNot (cB (cVar 2)))) (cAnd (cB (c2 pEqX (cVar 5) (cC (.str "copy")))) (cB (cVar 6)))) (cRet (cC (.str "bare"))) cSkip) (cSeq (cIfS (cNot (cB (cVar 6))) (cRet (cIf (cOr (cB (c2 pNeX (cVar 5) (cC (.str "name")))) (cB (cVar 2))) (cC (.str "led")) (cC (.str "off")))) cSkip) (cSeq (cIfS (cB (c2 pEqX (cVar 5) (cC (.str "path")))) (cRet (cC (.str "led"))) cSkip) (cSeq (cIfS (cB (c2 pEqX (cVar 5) (cC (.str "keep")))) (cRet (cVar 4)) cSkip) (cSeq (cSet 7 (cIf (cB (c2 pEqX (cVar 5) (cC (.str "seen")))) (cVar 3) (cVar 2))) (cRet (cIf (cAnd (cB (cVar 7)) (cB (c2 pEqX (c2 pGetX (cVar 1) (cC (.int 2))) (cC (.str "own"))))) (cC (.str "led")) (cC (.str "off")))))))))))
noncomputable def c_mark_of : CF := runB 8 (b_mark_of)
theorem sc_mark_of : FnScope n_mark_of ["book", "source", "is_same", "is_home"] (defScope s_mark_of) := ⟨rfl, rfl, rfl, by decide +kernel, rfl, by decide +kernel, by decide +kernel⟩
noncomputable abbrev s_moved_in : Stmt := top 59
noncomputable abbrev n_moved_in : List Str := ["book", "source", "target", "is_same", "is_home", "below", "mark"]
noncomputable def b_moved_in : CS := (cSeq (cSet 5 (c2 pGetX (cVar 2) (cC (.int 0)))) (cSeq (cIfS (cNot (cB (cCall c_is_folder_in (cCons (cVar 1) cNil)))) (cRet (c2 (pCat false) (cLst (cCons (cTup (cCons (cVar 5) (cCons (cC (.str "file")) (cCons (cC (.str "file")) cNil)))) cNil)) (cIf (cB (c2 (pInT false) (cVar 5) (cTup (cCons (cC (.str "file")) (cCons (cC (.str "names")) cNil))))) (cLst (cCons (cTup (cCons (cVar 5) (cCons (cC (.str "file")) (cCons (cC (.str "own")) cNil)))) cNil)) (cLst cNil)))) cSkip) (cSeq (cIfS (cB (c2 pEqX (c2 pGetX (cVar 1) (cC (.int 2))) (cC (.str "made")))) (cRet (cLst (cCons (cTup (cCons (cVar 5) (cCons (cIf (cB (c2 pEqX (c2 pGetX (cVar 0) (cC (.int 2))) (cC (.str "bare")))) (cC (.str "bare")) (c2 pGetX (cVar 1) (cC (.int 1)))) (cCons (cC (.str "made")) cNil)))) cNil))) cSkip) (cSeq (cSet 6 (cCall c_mark_of (cCons (cVar 0) (cCons (cVar 1) (cCons (cVar 3) (cCons (cVar 4) cNil)))))) (cSeq (cIfS (cB (c2 pEqX (cVar 6) (cC (.str "bare")))) (cRet (cLst (cCons (cTup (cCons (cVar 5) (cCons (cC (.str "bare")) (cCons (cC (.str "made")) cNil)))) cNil))) cSkip) (cRet (c2 (pCat false) (cLst (cCons (cTup (cCons (cVar 5) (cCons (cVar 6) (cCons (cC (.str "other")) cNil)))) cNil)) (cIf (cAnd (cB (c2 pEqX (cVar 5) (cC (.str "folder")))) (cB (c2 pEqX (c2 pGetX (cVar 1) (cC (.int 2))) (cC (.str "other"))))) (cLst (cCons (cTup (cCons (cVar 5) (cCons (cVar 6) (cCons (cC (.str "own")) cNil)))) cNil)) (cLst cNil)))))))))
noncomputable def c_moved_in : CF := runB 7 (b_moved_in)
theorem sc_moved_in : FnScope n_moved_in ["book", "source", "target", "is_same", "is_home"] (defScope s_moved_in) := ⟨rfl, rfl, rfl, by decide +kernel, rfl, by decide +kernel, by decide +kernel⟩
noncomputable abbrev s_moved : Stmt := top 61
noncomputable abbrev n_moved : List Str := ["book", "source", "target", "is_same", "is_home"]
noncomputable def b_moved : CS := (cSeq (cExpr (cCall (isoF c_need_book) (cCons (cVar 0) cNil))) (cSeq (cExpr (cCall c_need_stand (cCons (cVar 1) cNil))) (cSeq (cExpr (cCall c_need_stand (cCons (cVar 2) cNil))) (cRet (cIf (cB (cCall (isoF c_can_move) (cCons (cVar 1) (cCons (cVar 2) cNil)))) (cCall pTupOf (cCons (cCall pSortedX (cCons (cCall (isoF c_moved_in) (cCons (cVar 0) (cCons (cVar 1) (cCons (cVar 2) (cCons (cVar 3) (cCons (cVar 4) cNil)))))) cNil)) cNil)) (cTup cNil))))))
noncomputable def c_moved : CF := runB 5 (b_moved)
theorem sc_moved : FnScope n_moved ["book", "source", "target", "is_same", "is_home"] (defScope s_moved) := ⟨rfl, rfl, rfl, by decide +kernel, rfl, by decide +kernel, by decide +kernel⟩
noncomputable abbrev s_law_odds_right : Stmt := top 78
noncomputable abbrev n_law_odds_right : List Str := ["_law_book_here", "_law_source", "_law_said_here", "_law_odd"]
noncomputable def lamR0 : LamRec := lamRec "_law_odds_right.<locals>.<lambda>" ["_law_n"] ["_law_book_here", "_law_odd"] (pArg 0 (pLst 1 (pAsg (pForB 0 (pBody 0 s_law_odds_right)))))
noncomputable abbrev ln0 : List Str := ["_law_n", "_law_book_here", "_law_odd"]
noncomputable def l0 : CE := (cCall c_behind (cCons (cVar 1) (cCons (cVar 2) cNil)))
noncomputable def lamR1 : LamRec := lamRec "_law_odds_right.<locals>.<lambda>" [] ["_law_odd"] (pArg 0 (pLst 0 (pAsg (pForB 0 (pBody 0 s_law_odds_right)))))
noncomputable abbrev ln1 : List Str := ["_law_odd"]
noncomputable def l1 : CE := (cCall c_is_fault (cCons (cVar 0) cNil))
noncomputable def lamR2 : LamRec := lamRec "_law_odds_right.<locals>.<lambda>" [] ["_law_book_here", "_law_odd"] (pArg 0 (pLst 0 (pBinR (pAsg (pForB 1 (pBody 0 s_law_odds_right))))))
noncomputable abbrev ln2 : List Str := ["_law_book_here", "_law_odd"]
noncomputable def l2 : CE := (cCall c_moved (cCons (cVar 0) (cCons (cVar 1) (cCons (cC .non) (cCons (cC (.bl true)) (cCons (cC (.bl true)) cNil))))))
noncomputable def lamR3 : LamRec := lamRec "_law_odds_right.<locals>.<lambda>" [] ["_law_book_here", "_law_odd", "_law_source"] (pArg 0 (pArg 0 (pExpr (pForB 2 (pBody 0 s_law_odds_right)))))
noncomputable abbrev ln3 : List Str := ["_law_book_here", "_law_odd", "_law_source"]
noncomputable def l3 : CE := (cCall c_moved (cCons (cVar 0) (cCons (cVar 2) (cCons (cVar 1) (cCons (cC (.bl false)) (cCons (cC (.bl true)) cNil))))))
noncomputable def b_law_odds_right : CS := (cSeq (cFor (iAny (cCall c_law_odds (cCons (cVar 1) cNil))) (gSetN 3) (cSeq (cSet 2 (cNewL (cCons (cCallL (c_law_said tab0 (tab1 1 (1, l1))) 1 [] [3] cNil) (cCons (cCallL (c_law_said tab0 (tab1 0 (3, l0))) 0 [(.int 0)] [0, 3] cNil) cNil)))) (cSeq (cSet 2 (c2 (pCat true) (cVar 2) (cLst (cCons (cCallL (c_law_said tab0 (tab1 2 (2, l2))) 2 [] [0, 3] cNil) cNil)))) (cSeq (cExpr (cMeth "list" pAppend (cVar 2) (cCons (cCallL (c_law_said tab0 (tab1 3 (3, l3))) 3 [] [0, 3, 1] cNil) cNil))) (cIfS (cOr (cB (c2 (pIsB true) (cCall (isoF c_is_stand) (cCons (cVar 3) cNil)) (cC (.bl false)))) (cB (c2 pNeX (cCall pRepr (cCons (cVar 2) cNil)) (cCall pRepr (cCons (c2 pMulX (cLst (cCons (cTup (cCons (cC (.str "stand")) (cCons (cVar 3) cNil))) cNil)) (cC (.int 4))) cNil))))) (cRet (cC (.bl false))) cSkip))))) (cRet (cC (.bl true))))
noncomputable def c_law_odds_right : CF := runB 4 (b_law_odds_right)
theorem sc_law_odds_right : FnScope n_law_odds_right ["_law_book_here", "_law_source"] (defScope s_law_odds_right) := ⟨rfl, rfl, rfl, by decide +kernel, rfl, by decide +kernel, by decide +kernel⟩
noncomputable abbrev s_law_stands : Stmt := top 70
noncomputable abbrev n_law_stands : List Str := ["_law_found", "_law_below", "_law_entry", "_law_truth"]
noncomputable def b_law_stands : CS := (cSeq (cSet 0 (cLst cNil)) (cSeq (cFor (iAny (cTup (cCons (cC (.str "file")) (cCons (cC (.str "folder")) (cCons (cC (.str "names")) (cCons (cC (.str "none")) cNil)))))) (gSetN 1) (cFor (iAny (cTup (cCons (cC (.str "apart")) (cCons (cC (.str "bare")) (cCons (cC (.str "file")) (cCons (cC (.str "gone")) (cCons (cC (.str "joins")) (cCons (cC (.str "led")) (cCons (cC (.str "none")) (cCons (cC (.str "off")) cNil)))))))))) (gSetN 2) (cSet 0 (c2 (pCat false) (cVar 0) (cLc [3] (iAny (cTup (cCons (cC (.str "file")) (cCons (cC (.str "made")) (cCons (cC (.str "none")) (cCons (cC (.str "other")) (cCons (cC (.str "own")) cNil))))))) (gSetN 3) cYes (cTup (cCons (cVar 1) (cCons (cVar 2) (cCons (cVar 3) cNil))))))))) (cRet (cVar 0))))
noncomputable def c_law_stands : CF := runB 4 (b_law_stands)
theorem sc_law_stands : FnScope n_law_stands [] (defScope s_law_stands) := ⟨rfl, rfl, rfl, by decide +kernel, rfl, by decide +kernel, by decide +kernel⟩
noncomputable abbrev s_first_in : Stmt := top 52
noncomputable abbrev n_first_in : List Str := ["has_names", "some", "below"]
noncomputable def b_first_in : CS := (cSeq (cSet 1 (cIf (cB (cVar 0)) (cTup (cCons (cC (.str "file")) (cCons (cC (.str "folder")) (cCons (cC (.str "names")) cNil)))) (cTup (cCons (cC (.str "file")) (cCons (cC (.str "folder")) cNil))))) (cRet (c2 (pCat false) (cLc [2] (iAny (cVar 1)) (gSetN 2) cYes (cTup (cCons (cVar 2) (cCons (cC (.str "none")) (cCons (cC (.str "own")) cNil))))) (cLst (cCons (cTup (cCons (cC (.str "none")) (cCons (cC (.str "none")) (cCons (cC (.str "none")) cNil)))) cNil)))))
noncomputable def c_first_in : CF := runB 3 (b_first_in)
theorem sc_first_in : FnScope n_first_in ["has_names"] (defScope s_first_in) := ⟨rfl, rfl, rfl, by decide +kernel, rfl, by decide +kernel, by decide +kernel⟩
noncomputable abbrev s_first_stands : Stmt := top 53
noncomputable abbrev n_first_stands : List Str := ["has_names"]
noncomputable def b_first_stands : CS := (cRet (cCall pTupOf (cCons (cCall pSortedX (cCons (cCall c_first_in (cCons (cVar 0) cNil)) cNil)) cNil)))
noncomputable def c_first_stands : CF := runB 1 (b_first_stands)
theorem sc_first_stands : FnScope n_first_stands ["has_names"] (defScope s_first_stands) := ⟨rfl, rfl, rfl, by decide +kernel, rfl, by decide +kernel, by decide +kernel⟩
noncomputable abbrev s_law : Stmt := top 79
noncomputable abbrev n_law : List Str := ["_law_script", "_law_m", "_law_every", "_law_stand", "_law_turn", "_law_book_here", "_law_source", "_law_good", "_law_said_here", "_law_one", "_law_other", "_law_way", "_law_due", "_law_free"]
noncomputable def b_law : CS := (cSeq (cSet 1 (cCall c_law_begun (cCons (cVar 0) cNil))) (cSeq (cSet 2 (cCall (isoF c_law_stands) cNil)) (cSeq (cIfS (cB (c2 pNeX (cLc [3] (iAny (cVar 2)) (gSetN 3) (cB (c2 (pIsB true) (cCall (isoF c_is_stand) (cCons (cVar 3) cNil)) (cC (.bl true)))) (cVar 3)) (cLst cNil))) (cRet (cC (.bl false))) cSkip) (cSeq (cFor (iAny (cVar 2)) (gSetN 3) (cIfS (cB (c2 pNeX (cCall pRepr (cCons (cCall (isoF c_is_fault) (cCons (cVar 3) cNil)) cNil)) (cCall pRepr (cCons (cCall (isoF c_law_is_fault) (cCons (cVar 3) cNil)) cNil)))) (cRet (cC (.bl false))) cSkip)) (cSeq (cIfS (cB (c2 pNeX (cLst (cCons (cCall (isoF c_first_stands) (cCons (cC (.bl true)) cNil)) (cCons (cCall (isoF c_first_stands) (cCons (cC (.bl false)) cNil)) cNil))) (cLst (cCons (cCall pTupOf (cCons (cCall (isoF c_law_first) (cCons (cC (.bl true)) cNil)) cNil)) (cCons (cCall pTupOf (cCons (cCall (isoF c_law_first) (cCons (cC (.bl false)) cNil)) cNil)) cNil))))) (cRet (cC (.bl false))) cSkip) (cSeq (cFor (iRng1 (cCons (cC (.int 3)) cNil)) (gSetN 4) (cSeq (cAsg (cTup (cCons (cCall c_law_book (cCons (cVar 1) cNil)) (cCons (c2 pGetX (cVar 2) (cCall c_law_draw (cCons (cVar 1) (cCons (cCall pLenX (cCons (cVar 2) cNil)) cNil)))) cNil))) (gTupN 2 (gsCons (gSetN 5) (gsCons (gSetN 6) gsNil)))) (cSeq (cSet 7 (cLc [3] (iAny (cVar 2)) (gSetN 3) (cNot (cB (cCall (isoF c_law_is_fault) (cCons (cVar 3) cNil)))) (cVar 3))) (cSeq (cSet 6 (cIf (cB (c2 pGt (cCall c_law_draw (cCons (cVar 1) (cCons (cC (.int 4)) cNil))) (cC (.int 0)))) (c2 pGetX (cVar 7) (cCall c_law_draw (cCons (cVar 1) (cCons (cCall pLenX (cCons (cVar 7) cNil)) cNil)))) (cVar 6))) (cSeq (cFor (iAny (cVar 2)) (gSetN 3) (cSeq (cSet 8 (cLst (cCons (cCall (isoF c_behind) (cCons (cVar 5) (cCons (cVar 3) cNil))) (cCons (cCall (isoF c_behind) (cCons (cVar 5) (cCons (cVar 3) cNil))) cNil)))) (cSeq (cIfS (cB (c2 pNeX (cCall pRepr (cCons (cVar 8) cNil)) (cCall pRepr (cCons (c2 pMulX (cLst (cCons (cCall pTupOf (cCons (cCall (isoF c_law_behind) (cCons (cVar 5) (cCons (cVar 3) cNil))) cNil)) cNil)) (cC (.int 2))) cNil)))) (cRet (cC (.bl false))) cSkip) (cFor (iAny (cTup (cCons (cTup (cCons (cVar 6) (cCons (cVar 3) cNil))) (cCons (cTup (cCons (cVar 3) (cCons (cVar 6) cNil))) cNil)))) (gTupN 2 (gsCons (gSetN 9) (gsCons (gSetN 10) gsNil))) (cSeq (cSet 11 (cCall c_law_draw (cCons (cVar 1) (cCons (cC (.int 4)) cNil)))) (cSeq (cSet 12 (cCall pTupOf (cCons (cCall pSortedX (cCons (cCall (isoF c_law_moved) (cCons (cVar 5) (cCons (cVar 9) (cCons (cVar 10) (cCons (c2 pGt (cVar 11) (cC (.int 1))) (cCons (c2 (pInT false) (cVar 11) (cTup (cCons (cC (.int 1)) (cCons (cC (.int 3)) cNil)))) cNil)))))) cNil)) cNil))) (cIfS (cB (c2 pNeX (cCall pRepr (cCons (cCall (isoF c_moved) (cCons (cVar 5) (cCons (cVar 9) (cCons (cVar 10) (cCons (c2 pGt (cVar 11) (cC (.int 1))) (cCons (c2 (pInT false) (cVar 11) (cTup (cCons (cC (.int 1)) (cCons (cC (.int 3)) cNil)))) cNil)))))) cNil)) (cCall pRepr (cCons (cVar 12) cNil)))) (cRet (cC (.bl false))) cSkip))))))) (cIfS (cNot (cB (cCall (isoF c_law_odds_right) (cCons (cVar 5) (cCons (cVar 6) cNil))))) (cRet (cC (.bl false))) cSkip)))))) (cSeq (cAsg (cTup (cCons (cTup (cCons (cC (.str "always")) (cCons (cC (.str "over")) (cCons (cC (.str "keep")) (cCons (cC (.str "name")) (cCons (cC (.str "kept")) (cCons (cC (.str "copy")) cNil))))))) (cCons (cTup (cCons (cC (.str "none")) (cCons (cC (.str "none")) (cCons (cC (.str "none")) cNil)))) cNil))) (gTupN 2 (gsCons (gSetN 5) (gsCons (gSetN 13) gsNil)))) (cSeq (cSet 8 (cLc [11] (iAny (cTup (cCons (cC (.bl true)) (cCons (cC (.bl false)) cNil)))) (gSetN 11) cYes (cCall (isoF c_moved) (cCons (cVar 5) (cCons (cTup (cCons (cC (.str "none")) (cCons (cC (.str "led")) (cCons (cC (.str "other")) cNil)))) (cCons (cVar 13) (cCons (cVar 11) (cCons (cC (.bl true)) cNil)))))))) (cSeq (cIfS (cB (c2 pNeX (cVar 8) (cLst (cCons (cTup (cCons (cTup (cCons (cC (.str "none")) (cCons (cC (.str "led")) (cCons (cC (.str "other")) cNil)))) cNil)) (cCons (cTup (cCons (cTup (cCons (cC (.str "none")) (cCons (cC (.str "off")) (cCons (cC (.str "other")) cNil)))) cNil)) cNil))))) (cRet (cC (.bl false))) cSkip) (cSeq (cSet 8 (cLst (cCons (cCall (isoF c_behind) (cCons (cVar 5) (cCons (cTup (cCons (cC (.str "none")) (cCons (cC (.str "gone")) (cCons (cC (.str "none")) cNil)))) cNil))) (cCons (cCall (isoF c_behind) (cCons (cVar 5) (cCons (cTup (cCons (cC (.str "names")) (cCons (cC (.str "none")) (cCons (cC (.str "own")) cNil)))) cNil))) cNil)))) (cSeq (cSet 12 (cTup (cCons (cTup (cCons (cC (.str "names")) (cCons (cC (.str "apart")) (cCons (cC (.str "own")) cNil)))) (cCons (cTup (cCons (cC (.str "names")) (cCons (cC (.str "gone")) (cCons (cC (.str "none")) cNil)))) cNil)))) (cRet (c2 pEqX (cVar 8) (cLst (cCons (cTup (cCons (cTup (cCons (cC (.str "none")) (cCons (cC (.str "bare")) (cCons (cC (.str "made")) cNil)))) (cCons (cTup (cCons (cC (.str "none")) (cCons (cC (.str "file")) (cCons (cC (.str "file")) cNil)))) cNil))) (cCons (cVar 12) cNil))))))))))))))))
noncomputable def c_law : CF := runB 14 (b_law)
theorem sc_law : FnScope n_law ["_law_script"] (defScope s_law) := ⟨rfl, rfl, rfl, by decide +kernel, rfl, by decide +kernel, by decide +kernel⟩
noncomputable def lmT : Nat → LamRec
  | 0 => lamR0
  | 1 => lamR1
  | 2 => lamR2
  | 3 => lamR3
  | _ => ⟨"", default, noE, default, [], [], none⟩
structure Txt (g : G) : Prop where
  mg_law_folded : g.mg "_law_folded" = some (.ref (g.fa 18))
  fn_law_folded : ∃ fd, Fun g.K "_law_folded" "_law_folded" s_law_folded (g.fa 18) fd ∧ Binds g.K fd ["_law_script"] []
  mg_law_begun : g.mg "_law_begun" = some (.ref (g.fa 20))
  fn_law_begun : ∃ fd, Fun g.K "_law_begun" "_law_begun" s_law_begun (g.fa 20) fd ∧ Binds g.K fd ["_law_script"] []
  mg_law_is_fault : g.mg "_law_is_fault" = some (.ref (g.fa 25))
  fn_law_is_fault : ∃ fd, Fun g.K "_law_is_fault" "_law_is_fault" s_law_is_fault (g.fa 25) fd ∧ Binds g.K fd ["_law_stand"] []
  mg_law_raised : g.mg "_law_raised" = some (.ref (g.fa 27))
  fn_law_raised : ∃ fd, Fun g.K "_law_raised" "_law_raised" s_law_raised (g.fa 27) fd ∧ Binds g.K fd ["_law_book_here", "_law_stand"] []
  mg_law_behind : g.mg "_law_behind" = some (.ref (g.fa 28))
  fn_law_behind : ∃ fd, Fun g.K "_law_behind" "_law_behind" s_law_behind (g.fa 28) fd ∧ Binds g.K fd ["_law_book_here", "_law_stand"] []
  mg_law_mixed : g.mg "_law_mixed" = some (.ref (g.fa 17))
  fn_law_mixed : ∃ fd, Fun g.K "_law_mixed" "_law_mixed" s_law_mixed (g.fa 17) fd ∧ Binds g.K fd ["_law_cell", "_law_n"] []
  mg_law_draw : g.mg "_law_draw" = some (.ref (g.fa 19))
  fn_law_draw : ∃ fd, Fun g.K "_law_draw" "_law_draw" s_law_draw (g.fa 19) fd ∧ Binds g.K fd ["_law_m", "_law_limit"] []
  mg_law_book : g.mg "_law_book" = some (.ref (g.fa 21))
  fn_law_book : ∃ fd, Fun g.K "_law_book" "_law_book" s_law_book (g.fa 21) fd ∧ Binds g.K fd ["_law_m"] []
  mg_law_first : g.mg "_law_first" = some (.ref (g.fa 30))
  fn_law_first : ∃ fd, Fun g.K "_law_first" "_law_first" s_law_first (g.fa 30) fd ∧ Binds g.K fd ["_law_has_so"] []
  mg_law_has_folder : g.mg "_law_has_folder" = some (.ref (g.fa 26))
  fn_law_has_folder : ∃ fd, Fun g.K "_law_has_folder" "_law_has_folder" s_law_has_folder (g.fa 26) fd ∧ Binds g.K fd ["_law_stand"] []
  mg_law_moved : g.mg "_law_moved" = some (.ref (g.fa 29))
  fn_law_moved : ∃ fd, Fun g.K "_law_moved" "_law_moved" s_law_moved (g.fa 29) fd ∧ Binds g.K fd ["_law_book_here", "_law_source", "_law_target", "_law_same_so", "_law_home_so"] []
  mg_law_odds : g.mg "_law_odds" = some (.ref (g.fa 31))
  fn_law_odds : ∃ fd, Fun g.K "_law_odds" "_law_odds" s_law_odds (g.fa 31) fd ∧ Binds g.K fd ["_law_stand"] []
  mg_law_class : g.mg "_law_class" = some (.ref (g.fa 22))
  fn_law_class : ∃ fd, Fun g.K "_law_class" "_law_class" s_law_class (g.fa 22) fd ∧ Binds g.K fd ["_law_error"] []
  mg_law_said : g.mg "_law_said" = some (.ref (g.fa 23))
  fn_law_said : ∃ fd, Fun g.K "_law_said" "_law_said" s_law_said (g.fa 23) fd ∧ Binds g.K fd ["_law_call"] []
  mg_left_by : g.mg "left_by" = some (.ref (g.fa 9))
  fn_left_by : ∃ fd, Fun g.K "left_by" "left_by" s_left_by (g.fa 9) fd ∧ Binds g.K fd ["book", "below", "entry"] []
  mg_raised_stand : g.mg "raised_stand" = some (.ref (g.fa 10))
  fn_raised_stand : ∃ fd, Fun g.K "raised_stand" "raised_stand" s_raised_stand (g.fa 10) fd ∧ Binds g.K fd ["book", "stand"] []
  mg_behind_in : g.mg "behind_in" = some (.ref (g.fa 11))
  fn_behind_in : ∃ fd, Fun g.K "behind_in" "behind_in" s_behind_in (g.fa 11) fd ∧ Binds g.K fd ["book", "stand"] []
  mg_is_fault_in : g.mg "is_fault_in" = some (.ref (g.fa 5))
  fn_is_fault_in : ∃ fd, Fun g.K "is_fault_in" "is_fault_in" s_is_fault_in (g.fa 5) fd ∧ Binds g.K fd ["stand"] []
  mg_need_book : g.mg "need_book" = some (.ref (g.fa 1))
  fn_need_book : ∃ fd, Fun g.K "need_book" "need_book" s_need_book (g.fa 1) fd ∧ Binds g.K fd ["book"] []
  mg_is_tuple : g.mg "is_tuple" = some (.ref (g.fa 0))
  fn_is_tuple : ∃ fd, Fun g.K "is_tuple" "is_tuple" s_is_tuple (g.fa 0) fd ∧ Binds g.K fd ["value", "many"] []
  mg_is_stand : g.mg "is_stand" = some (.ref (g.fa 2))
  fn_is_stand : ∃ fd, Fun g.K "is_stand" "is_stand" s_is_stand (g.fa 2) fd ∧ Binds g.K fd ["value"] []
  mg_need_stand : g.mg "need_stand" = some (.ref (g.fa 3))
  fn_need_stand : ∃ fd, Fun g.K "need_stand" "need_stand" s_need_stand (g.fa 3) fd ∧ Binds g.K fd ["stand"] []
  mg_behind : g.mg "behind" = some (.ref (g.fa 12))
  fn_behind : ∃ fd, Fun g.K "behind" "behind" s_behind (g.fa 12) fd ∧ Binds g.K fd ["book", "stand"] []
  mg_is_fault : g.mg "is_fault" = some (.ref (g.fa 6))
  fn_is_fault : ∃ fd, Fun g.K "is_fault" "is_fault" s_is_fault (g.fa 6) fd ∧ Binds g.K fd ["stand"] []
  mg_can_move : g.mg "can_move" = some (.ref (g.fa 15))
  fn_can_move : ∃ fd, Fun g.K "can_move" "can_move" s_can_move (g.fa 15) fd ∧ Binds g.K fd ["source", "target"] []
  mg_is_folder_in : g.mg "is_folder_in" = some (.ref (g.fa 4))
  fn_is_folder_in : ∃ fd, Fun g.K "is_folder_in" "is_folder_in" s_is_folder_in (g.fa 4) fd ∧ Binds g.K fd ["stand"] []
  mg_mark_of : g.mg "mark_of" = some (.ref (g.fa 13))
  fn_mark_of : ∃ fd, Fun g.K "mark_of" "mark_of" s_mark_of (g.fa 13) fd ∧ Binds g.K fd ["book", "source", "is_same", "is_home"] []
  mg_moved_in : g.mg "moved_in" = some (.ref (g.fa 14))
  fn_moved_in : ∃ fd, Fun g.K "moved_in" "moved_in" s_moved_in (g.fa 14) fd ∧ Binds g.K fd ["book", "source", "target", "is_same", "is_home"] []
  mg_moved : g.mg "moved" = some (.ref (g.fa 16))
  fn_moved : ∃ fd, Fun g.K "moved" "moved" s_moved (g.fa 16) fd ∧ Binds g.K fd ["book", "source", "target", "is_same", "is_home"] []
  mg_law_odds_right : g.mg "_law_odds_right" = some (.ref (g.fa 32))
  fn_law_odds_right : ∃ fd, Fun g.K "_law_odds_right" "_law_odds_right" s_law_odds_right (g.fa 32) fd ∧ Binds g.K fd ["_law_book_here", "_law_source"] [] ∧ MkOf g "_law_odds_right" fd [(tA g 0, ("_law_odds_right.<locals>.<lambda>" : Str))]
  mg_law_stands : g.mg "_law_stands" = some (.ref (g.fa 24))
  fn_law_stands : ∃ fd, Fun g.K "_law_stands" "_law_stands" s_law_stands (g.fa 24) fd ∧ Binds g.K fd [] []
  mg_first_in : g.mg "first_in" = some (.ref (g.fa 7))
  fn_first_in : ∃ fd, Fun g.K "first_in" "first_in" s_first_in (g.fa 7) fd ∧ Binds g.K fd ["has_names"] []
  mg_first_stands : g.mg "first_stands" = some (.ref (g.fa 8))
  fn_first_stands : ∃ fd, Fun g.K "first_stands" "first_stands" s_first_stands (g.fa 8) fd ∧ Binds g.K fd ["has_names"] []
  mg_law : g.mg "law" = some (.ref (g.fa 33))
  fn_law : ∃ fd, Fun g.K "law" "law" s_law (g.fa 33) fd ∧ Binds g.K fd ["_law_script"] []
  tb0 : ((tA g 0, "_law_odds_right.<locals>.<lambda>") : Addr × Str) ∈ g.tabs ∧ ∀ p ∈ g.tabs, p.1 = tA g 0 → p.2 = "_law_odds_right.<locals>.<lambda>"
  lm0 : g.lm 0 = lamR0
  lm1 : g.lm 1 = lamR1
  lm2 : g.lm 2 = lamR2
  lm3 : g.lm 3 = lamR3
  mc_ALWAYS : ∃ t, g.mg "ALWAYS" = some (.str "always" t)
  mc_ANEW : ∃ t, g.mg "ANEW" = some (.str "anew" t)
  mc_APART : ∃ t, g.mg "APART" = some (.str "apart" t)
  mc_BARE : ∃ t, g.mg "BARE" = some (.str "bare" t)
  mc_BELOW : ∃ t, g.mg "BELOW" = some (.str "below" t)
  mc_BY_NAME : ∃ t, g.mg "BY_NAME" = some (.str "name" t)
  mc_BY_PATH : ∃ t, g.mg "BY_PATH" = some (.str "path" t)
  mc_COPY : ∃ t, g.mg "COPY" = some (.str "copy" t)
  mc_FILE : ∃ t, g.mg "FILE" = some (.str "file" t)
  mc_FOLDER : ∃ t, g.mg "FOLDER" = some (.str "folder" t)
  mc_GONE : ∃ t, g.mg "GONE" = some (.str "gone" t)
  mc_JOINS : ∃ t, g.mg "JOINS" = some (.str "joins" t)
  mc_KEEP : ∃ t, g.mg "KEEP" = some (.str "keep" t)
  mc_LED : ∃ t, g.mg "LED" = some (.str "led" t)
  mc_MADE : ∃ t, g.mg "MADE" = some (.str "made" t)
  mc_NAMES : ∃ t, g.mg "NAMES" = some (.str "names" t)
  mc_NEAR : ∃ t, g.mg "NEAR" = some (.str "near" t)
  mc_NONE : ∃ t, g.mg "NONE" = some (.str "none" t)
  mc_OFF : ∃ t, g.mg "OFF" = some (.str "off" t)
  mc_OTHER : ∃ t, g.mg "OTHER" = some (.str "other" t)
  mc_OVER : ∃ t, g.mg "OVER" = some (.str "over" t)
  mc_OWN : ∃ t, g.mg "OWN" = some (.str "own" t)
  mc_SEEN : ∃ t, g.mg "SEEN" = some (.str "seen" t)
  mc_SHOWN : ∃ t, g.mg "SHOWN" = some (.str "shown" t)
  mg_PileError : g.mg "PileError" = some (.ref (g.ca 0))
  mg_BadTree : g.mg "BadTree" = some (.ref (g.ca 1))
  mg_BadPath : g.mg "BadPath" = some (.ref (g.ca 2))
  mg_BadUpper : g.mg "BadUpper" = some (.ref (g.ca 3))
  mg_BadBook : g.mg "BadBook" = some (.ref (g.ca 4))
  mg_BadDeed : g.mg "BadDeed" = some (.ref (g.ca 5))
  mg_BadRow : g.mg "BadRow" = some (.ref (g.ca 6))
  mg_Refused : g.mg "Refused" = some (.ref (g.ca 7))
  mg_BadStand : g.mg "BadStand" = some (.ref (g.ca 8))
  mg_BadPaper : g.mg "BadPaper" = some (.ref (g.ca 9))
  x_BadBook : XCls g 4 "place"
  x_BadStand : XCls g 8 "value"
  rs_BadBook : XRs g 4
  rs_BadStand : XRs g 8
  mt0 : ∀ c b, mt0 c = some b → PySem.W.exmOne g.K (.ref (g.ca c)) (.ref (g.ca 0)) = some b
  mt_CHOICES : ∃ p, g.mg "CHOICES" = some (.ref p) ∧ KDV g.K (.tup [(.tup [(.str "always"), (.str "below"), (.str "shown"), (.str "never")]), (.tup [(.str "bare"), (.str "over"), (.str "joins")]), (.tup [(.str "bare"), (.str "keep")]), (.tup [(.str "path"), (.str "seen"), (.str "name"), (.str "near"), (.str "copy"), (.str "keep")]), (.tup [(.str "kept"), (.str "anew")]), (.tup [(.str "index"), (.str "copy")])]) (.ref p)
  mt_ENTRIES : ∃ p, g.mg "ENTRIES" = some (.ref p) ∧ KDV g.K (.tup [(.str "apart"), (.str "bare"), (.str "file"), (.str "gone"), (.str "joins"), (.str "led"), (.str "none"), (.str "off")]) (.ref p)
  mt_LYING : ∃ p, g.mg "LYING" = some (.ref p) ∧ KDV g.K (.tup [(.str "file"), (.str "folder"), (.str "names"), (.str "none")]) (.ref p)
  mt_TRUTHS : ∃ p, g.mg "TRUTHS" = some (.ref p) ∧ KDV g.K (.tup [(.str "file"), (.str "made"), (.str "none"), (.str "other"), (.str "own")]) (.ref p)
  no_all : g.mg "all" = none
  no_enumerate : g.mg "enumerate" = none
  no_int : g.mg "int" = none
  no_isinstance : g.mg "isinstance" = none
  no_len : g.mg "len" = none
  no_list : g.mg "list" = none
  no_range : g.mg "range" = none
  no_repr : g.mg "repr" = none
  no_set : g.mg "set" = none
  no_sorted : g.mg "sorted" = none
  no_str : g.mg "str" = none
  no_tuple : g.mg "tuple" = none
  ee : g.ef = efT
  ei : g.isa = isaT
  io : IsaOk g
  xf_place : ∀ c, ("place" : Str) ∈ g.ef c → XFa g c
  xf_value : ∀ c, ("value" : Str) ∈ g.ef c → XFa g c
  xf_word : ∀ c, ("word" : Str) ∈ g.ef c → XFa g c
section
variable {g : G} (T : Txt g)
include T
theorem j_law_folded : JL (F.of g n_law_folded (defScope s_law_folded) 1) (defBody s_law_folded) b_law_folded := by
  have hb : 1 ≤ 1 := Nat.le_refl _
  exact (jl_cons (js_setLcH (i := 2) (own := [("_law_n", 1)]) (cl := []) rfl rfl (ji_rng1 rfl T.no_range (ja_cons je_int ja_nil)) (by dsimp only [F.of, F.blk]; decide +kernel) (by decide +kernel) (jg_name (i := 1) rfl (Or.inl rfl)) jt_nil (je_opF opF_add je_int (je_var (i := 1) rfl (Or.inl rfl))) rfl rfl (by decide +kernel)) (jl_cons (js_for (vs := [1, 3]) (ji_enum rfl T.no_enumerate (ja_cons (je_var (i := 0) rfl (Or.inl rfl)) ja_nil)) (jg_tup (n := 2) (jgs_cons (jg_name (i := 1) rfl (Or.inl rfl)) (jgs_cons (jg_name (i := 3) rfl (Or.inl rfl)) jgs_nil))) (jl_one (js_asg (vs := []) (je_opF opF_mod (je_tfn callF_int rfl T.no_int rfl (ja_cons (je_opF opF_add (je_opF opF_mul (je_get (je_var (i := 2) rfl (Or.inl rfl)) (je_opF opF_mod (je_tfn callF_int rfl T.no_int rfl (ja_cons (je_var (i := 1) rfl (Or.inl rfl)) ja_nil)) je_int)) je_int) (je_var (i := 3) rfl (Or.inl rfl))) ja_nil)) je_int) (jg_put (je_var (i := 2) rfl (Or.inl rfl)) (je_opF opF_mod (je_tfn callF_int rfl T.no_int rfl (ja_cons (je_var (i := 1) rfl (Or.inl rfl)) ja_nil)) je_int))))) (jl_cons (js_for (vs := [1]) (ji_rng2 rfl T.no_range (ja_cons je_int (ja_cons je_int ja_nil))) (jg_name (i := 1) rfl (Or.inl rfl)) (jl_one (js_asg (vs := []) (je_opF opF_mod (je_tfn callF_int rfl T.no_int rfl (ja_cons (je_opF opF_add (je_get (je_var (i := 2) rfl (Or.inl rfl)) (je_var (i := 1) rfl (Or.inl rfl))) (je_opF opF_mul (je_get (je_var (i := 2) rfl (Or.inl rfl)) (je_opF opF_sub (je_var (i := 1) rfl (Or.inl rfl)) je_int)) je_int)) ja_nil)) je_int) (jg_put (je_var (i := 2) rfl (Or.inl rfl)) (je_var (i := 1) rfl (Or.inl rfl)))))) (jl_one (js_ret (je_var (i := 2) rfl (Or.inl rfl)))))))
theorem ok_law_folded : CallOk g 2 (g.fa 18) ["_law_script"] c_law_folded := by
  obtain ⟨fd, h1, h2⟩ := T.fn_law_folded
  exact callOk_of (N := n_law_folded) h1 sc_law_folded h2 (j_law_folded T)
theorem j_law_begun : JL (F.of g n_law_begun (defScope s_law_begun) 2) (defBody s_law_begun) b_law_begun := by
  have hb : 2 ≤ 2 := Nat.le_refl _
  exact (jl_cons (js_set (i := 1) rfl (Or.inl rfl) (je_disp (jp_cons je_str (je_call ((ok_law_folded T).mono (Nat.le_trans (Nat.le_of_ble_eq_true rfl) hb)) rfl T.mg_law_folded (ja_cons (je_var (i := 0) rfl (Or.inl rfl)) ja_nil) (len_cons len_nil)) (jp_cons je_str (je_newL ja_nil len_nil) (jp_cons je_str je_int jp_nil))) (by rfl) (by rfl) (by intro h; cases h) (by decide) (by decide))) (jl_cons (js_asg (vs := []) (je_lcH (own := [("_law_cell", 2)]) (cl := []) (ji_seq (je_var (i := 0) rfl (Or.inl rfl))) (by dsimp only [F.of, F.blk]; decide +kernel) (by decide +kernel) (jg_name (i := 2) rfl (Or.inl rfl)) jt_nil (je_if (jb_cmpF opF_ge (je_var (i := 2) rfl (Or.inl rfl)) (je_opF opF_pow je_int je_int)) (je_var (i := 2) rfl (Or.inl rfl)) je_int)) (jg_put (je_var (i := 1) rfl (Or.inl rfl)) je_str)) (jl_one (js_ret (je_var (i := 1) rfl (Or.inl rfl))))))
theorem ok_law_begun : CallOk g 3 (g.fa 20) ["_law_script"] c_law_begun := by
  obtain ⟨fd, h1, h2⟩ := T.fn_law_begun
  exact callOk_of (N := n_law_begun) h1 sc_law_begun h2 (j_law_begun T)
theorem j_law_is_fault : JL (F.of g n_law_is_fault (defScope s_law_is_fault) 1) (defBody s_law_is_fault) b_law_is_fault := by
  have hb : 1 ≤ 1 := Nat.le_refl _
  exact (jl_cons (js_asg (vs := [1, 2, 3]) (je_var (i := 0) rfl (Or.inl rfl)) (jg_tup (n := 3) (jgs_cons (jg_name (i := 1) rfl (Or.inl rfl)) (jgs_cons (jg_name (i := 2) rfl (Or.inl rfl)) (jgs_cons (jg_name (i := 3) rfl (Or.inl rfl)) jgs_nil))))) (jl_cons (js_set (i := 4) rfl (Or.inl rfl) (je_getX (je_lst (ja_cons je_str (ja_cons je_str ja_nil)) (len_cons (len_cons len_nil))) (je_tfn callF_int rfl T.no_int rfl (ja_cons (je_cmpF opF_neX (je_var (i := 1) rfl (Or.inl rfl)) je_str) ja_nil)))) (jl_cons (js_set (i := 5) rfl (Or.inl rfl) (je_disp (jp_cons je_str (je_lst (ja_cons (je_var (i := 4) rfl (Or.inl rfl)) ja_nil) (len_cons len_nil)) (jp_cons je_str (je_lst (ja_cons je_str ja_nil) (len_cons len_nil)) (jp_cons je_str (je_opF opF_cat (je_lst (ja_cons je_str ja_nil) (len_cons len_nil)) (je_opF opF_mulX (je_lst (ja_cons je_str ja_nil) (len_cons len_nil)) (je_tfn callF_int rfl T.no_int rfl (ja_cons (je_cmpF opF_inT (je_var (i := 1) rfl (Or.inl rfl)) (je_tup (ja_cons je_str (ja_cons je_str ja_nil)) (len_cons (len_cons len_nil)))) ja_nil)))) (jp_cons je_str (je_if (jb_cmpF opF_eqX (je_var (i := 1) rfl (Or.inl rfl)) je_str) (je_lst (ja_cons je_str ja_nil) (len_cons len_nil)) (je_lst (ja_cons je_str ja_nil) (len_cons len_nil))) (jp_cons je_str (je_lst (ja_cons je_str ja_nil) (len_cons len_nil)) (jp_cons je_str (je_opF opF_cat (je_lst (ja_cons je_str ja_nil) (len_cons len_nil)) (je_opF opF_mulX (je_lst (ja_cons je_str ja_nil) (len_cons len_nil)) (je_tfn callF_int rfl T.no_int rfl (ja_cons (je_cmpF opF_eqX (je_var (i := 1) rfl (Or.inl rfl)) je_str) ja_nil)))) jp_nil)))))) (by rfl) (by rfl) (by intro h; cases h) (by decide) (by decide))) (jl_one (js_ret (je_cmpF opF_notInT (je_var (i := 3) rfl (Or.inl rfl)) (je_methX mtF_dget PySem.F.plainAttrs_dict PySem.F.slot_dict_get PySem.F.type_dict_get (je_var (i := 5) rfl (Or.inl rfl)) (ja_cons (je_var (i := 2) rfl (Or.inl rfl)) (ja_cons (je_lst ja_nil len_nil) ja_nil)))))))))
theorem ok_law_is_fault : CallOk g 2 (g.fa 25) ["_law_stand"] c_law_is_fault := by
  obtain ⟨fd, h1, h2⟩ := T.fn_law_is_fault
  exact callOk_of (N := n_law_is_fault) h1 sc_law_is_fault h2 (j_law_is_fault T)
theorem j_law_raised : JL (F.of g n_law_raised (defScope s_law_raised) 1) (defBody s_law_raised) b_law_raised := by
  have hb : 1 ≤ 1 := Nat.le_refl _
  exact (jl_cons (js_if (jb_cmpF opF_neX (je_getX (je_var (i := 1) rfl (Or.inl rfl)) je_int) je_str) (jl_one (js_ret (je_var (i := 1) rfl (Or.inl rfl)))) jl_nil) (jl_cons (js_if (jb_cmpF opF_eqX (je_getX (je_var (i := 1) rfl (Or.inl rfl)) je_int) je_str) (jl_one (js_ret (je_tup (ja_cons je_str (ja_cons je_str (ja_cons je_str ja_nil))) (len_cons (len_cons (len_cons len_nil)))))) jl_nil) (jl_one (js_ret (je_tup (ja_cons (je_getX (je_var (i := 1) rfl (Or.inl rfl)) je_int) (ja_cons (je_if (jb_w (jw_and (jb_cmpF opF_eqX (je_getX (je_var (i := 1) rfl (Or.inl rfl)) je_int) je_str) (jw_and1 (jb_cmpF opF_eqX (je_getX (je_var (i := 0) rfl (Or.inl rfl)) je_int) je_str)))) je_str je_str) (ja_cons je_str ja_nil))) (len_cons (len_cons (len_cons len_nil))))))))
theorem ok_law_raised : CallOk g 2 (g.fa 27) ["_law_book_here", "_law_stand"] c_law_raised := by
  obtain ⟨fd, h1, h2⟩ := T.fn_law_raised
  exact callOk_of (N := n_law_raised) h1 sc_law_raised h2 (j_law_raised T)
theorem j_law_behind : JL (F.of g n_law_behind (defScope s_law_behind) 2) (defBody s_law_behind) b_law_behind := by
  have hb : 2 ≤ 2 := Nat.le_refl _
  exact (jl_cons (js_asg (vs := [2, 3, 4]) (je_var (i := 1) rfl (Or.inl rfl)) (jg_tup (n := 3) (jgs_cons (jg_name (i := 2) rfl (Or.inl rfl)) (jgs_cons (jg_name (i := 3) rfl (Or.inl rfl)) (jgs_cons (jg_name (i := 4) rfl (Or.inl rfl)) jgs_nil))))) (jl_cons (js_if (jb_val (je_call ((ok_law_is_fault T).mono (Nat.le_trans (Nat.le_of_ble_eq_true rfl) hb)).iso rfl T.mg_law_is_fault (ja_cons (je_var (i := 1) rfl (Or.inl rfl)) ja_nil) (len_cons len_nil))) (jl_one (js_ret (je_lst ja_nil len_nil))) jl_nil) (jl_cons (js_if (jb_cmpF opF_eqX (je_var (i := 4) rfl (Or.inl rfl)) je_str) (jl_cons (js_set (i := 5) rfl (Or.inl rfl) (je_getX (je_disp (jp_cons je_str je_str (jp_cons je_str je_str (jp_cons je_str (je_if (jb_cmpF opF_eqX (je_var (i := 3) rfl (Or.inl rfl)) je_str) je_str je_str) jp_nil))) (by rfl) (by rfl) (by intro h; cases h) (by decide) (by decide)) (je_getX (je_var (i := 0) rfl (Or.inl rfl)) je_int))) (jl_one (js_ret (je_bfn callF_sortedX rfl T.no_sorted rfl (ja_cons (je_lst (ja_cons (je_tup (ja_cons (je_var (i := 2) rfl (Or.inl rfl)) (ja_cons je_str (ja_cons je_str ja_nil))) (len_cons (len_cons (len_cons len_nil)))) (ja_cons (je_tup (ja_cons (je_var (i := 2) rfl (Or.inl rfl)) (ja_cons (je_var (i := 5) rfl (Or.inl rfl)) (ja_cons je_str ja_nil))) (len_cons (len_cons (len_cons len_nil)))) ja_nil)) (len_cons (len_cons len_nil))) ja_nil))))) jl_nil) (jl_cons (js_set (i := 6) rfl (Or.inl rfl) (je_getX (je_disp (jp_cons je_str je_bl (jp_cons je_str (je_cmpF opF_neX (je_var (i := 2) rfl (Or.inl rfl)) je_str) (jp_cons je_str (je_cmpF opF_eqX (je_var (i := 3) rfl (Or.inl rfl)) je_str) (jp_cons je_str je_bl jp_nil)))) (by rfl) (by rfl) (by intro h; cases h) (by decide) (by decide)) (je_getX (je_var (i := 0) rfl (Or.inl rfl)) je_int))) (jl_one (js_ret (je_sortAll rfl T.no_sorted rfl T.no_set (ja_cons (je_lst (ja_cons (je_call ((ok_law_raised T).mono (Nat.le_trans (Nat.le_of_ble_eq_true rfl) hb)) rfl T.mg_law_raised (ja_cons (je_var (i := 0) rfl (Or.inl rfl)) (ja_cons (je_var (i := 1) rfl (Or.inl rfl)) ja_nil)) (len_cons (len_cons len_nil))) (ja_cons (je_tup (ja_cons (je_var (i := 2) rfl (Or.inl rfl)) (ja_cons (je_getX (je_lst (ja_cons je_str (ja_cons je_str ja_nil)) (len_cons (len_cons len_nil))) (je_tfn callF_int rfl T.no_int rfl (ja_cons (je_var (i := 6) rfl (Or.inl rfl)) ja_nil))) (ja_cons je_str ja_nil))) (len_cons (len_cons (len_cons len_nil)))) ja_nil)) (len_cons (len_cons len_nil))) ja_nil))))))))
theorem ok_law_behind : CallOk g 3 (g.fa 28) ["_law_book_here", "_law_stand"] c_law_behind := by
  obtain ⟨fd, h1, h2⟩ := T.fn_law_behind
  exact callOk_of (N := n_law_behind) h1 sc_law_behind h2 (j_law_behind T)
theorem j_law_mixed : JL (F.of g n_law_mixed (defScope s_law_mixed) 1) (defBody s_law_mixed) b_law_mixed := by
  have hb : 1 ≤ 1 := Nat.le_refl _
  exact (jl_cons (js_set (i := 2) rfl (Or.inl rfl) (je_opF opF_add (je_opF opF_add (je_opF opF_mod (je_tfn callF_int rfl T.no_int rfl (ja_cons (je_opF opF_mul (je_opF opF_mul (je_var (i := 0) rfl (Or.inl rfl)) (je_opF opF_add je_int (je_opF opF_mul je_int (je_var (i := 1) rfl (Or.inl rfl))))) je_int) ja_nil)) je_int) (je_opF opF_mul (je_opF opF_mul je_int (je_var (i := 1) rfl (Or.inl rfl))) (je_var (i := 1) rfl (Or.inl rfl)))) (je_opF opF_mul je_int (je_var (i := 1) rfl (Or.inl rfl))))) (jl_one (js_ret (je_opF opF_fdiv (je_opF opF_mod (je_tfn callF_int rfl T.no_int rfl (ja_cons (je_opF opF_mul (je_var (i := 2) rfl (Or.inl rfl)) je_int) ja_nil)) je_int) je_int))))
theorem ok_law_mixed : CallOk g 2 (g.fa 17) ["_law_cell", "_law_n"] c_law_mixed := by
  obtain ⟨fd, h1, h2⟩ := T.fn_law_mixed
  exact callOk_of (N := n_law_mixed) h1 sc_law_mixed h2 (j_law_mixed T)
theorem j_law_draw : JL (F.of g n_law_draw (defScope s_law_draw) 2) (defBody s_law_draw) b_law_draw := by
  have hb : 2 ≤ 2 := Nat.le_refl _
  exact (jl_cons (js_set (i := 2) rfl (Or.inl rfl) (je_get (je_var (i := 0) rfl (Or.inl rfl)) je_str)) (jl_cons (js_asg (vs := []) (je_opF opF_add (je_var (i := 2) rfl (Or.inl rfl)) je_int) (jg_put (je_var (i := 0) rfl (Or.inl rfl)) je_str)) (jl_cons (js_if (jb_cmpF opF_neD (je_get (je_var (i := 0) rfl (Or.inl rfl)) je_str) (je_lst ja_nil len_nil)) (jl_cons (js_set (i := 3) rfl (Or.inl rfl) (je_get (je_var (i := 0) rfl (Or.inl rfl)) je_str)) (jl_cons (js_set (i := 4) rfl (Or.inl rfl) (je_opF opF_mod (je_tfn callF_int rfl T.no_int rfl (ja_cons (je_var (i := 2) rfl (Or.inl rfl)) ja_nil)) (je_bfn callF_len rfl T.no_len rfl (ja_cons (je_var (i := 3) rfl (Or.inl rfl)) ja_nil)))) (jl_cons (js_set (i := 5) rfl (Or.inl rfl) (je_get (je_var (i := 3) rfl (Or.inl rfl)) (je_var (i := 4) rfl (Or.inl rfl)))) (jl_one (js_if (jb_cmpF opF_gt (je_var (i := 5) rfl (Or.inl rfl)) je_int) (jl_cons (js_asg (vs := []) (je_opF opF_fdiv (je_var (i := 5) rfl (Or.inl rfl)) (je_var (i := 1) rfl (Or.inl rfl))) (jg_put (je_var (i := 3) rfl (Or.inl rfl)) (je_var (i := 4) rfl (Or.inl rfl)))) (jl_one (js_ret (je_opF opF_mod (je_tfn callF_int rfl T.no_int rfl (ja_cons (je_var (i := 5) rfl (Or.inl rfl)) ja_nil)) (je_var (i := 1) rfl (Or.inl rfl)))))) jl_nil))))) jl_nil) (jl_cons (js_set (i := 3) rfl (Or.inl rfl) (je_get (je_var (i := 0) rfl (Or.inl rfl)) je_str)) (jl_one (js_ret (je_opF opF_mod (je_tfn callF_int rfl T.no_int rfl (ja_cons (je_call ((ok_law_mixed T).mono (Nat.le_trans (Nat.le_of_ble_eq_true rfl) hb)) rfl T.mg_law_mixed (ja_cons (je_call ((ok_law_mixed T).mono (Nat.le_trans (Nat.le_of_ble_eq_true rfl) hb)) rfl T.mg_law_mixed (ja_cons (je_opF opF_add (je_get (je_var (i := 3) rfl (Or.inl rfl)) (je_opF opF_mod (je_tfn callF_int rfl T.no_int rfl (ja_cons (je_var (i := 2) rfl (Or.inl rfl)) ja_nil)) je_int)) (je_opF opF_mul je_int (je_opF opF_fdiv (je_var (i := 2) rfl (Or.inl rfl)) je_int))) (ja_cons (je_var (i := 2) rfl (Or.inl rfl)) ja_nil)) (len_cons (len_cons len_nil))) (ja_cons (je_opF opF_add (je_var (i := 2) rfl (Or.inl rfl)) je_int) ja_nil)) (len_cons (len_cons len_nil))) ja_nil)) (je_var (i := 1) rfl (Or.inl rfl)))))))))
theorem ok_law_draw : CallOk g 3 (g.fa 19) ["_law_m", "_law_limit"] c_law_draw := by
  obtain ⟨fd, h1, h2⟩ := T.fn_law_draw
  exact callOk_of (N := n_law_draw) h1 sc_law_draw h2 (j_law_draw T)
theorem j_law_book : JL (F.of g n_law_book (defScope s_law_book) 3) (defBody s_law_book) b_law_book := by
  have hb : 3 ≤ 3 := Nat.le_refl _
  exact (jl_one (js_ret (je_tup (ja_cons (je_getX (je_lst (ja_cons je_str (ja_cons je_str (ja_cons je_str (ja_cons je_str ja_nil)))) (len_cons (len_cons (len_cons (len_cons len_nil))))) (je_call ((ok_law_draw T).mono (Nat.le_trans (Nat.le_of_ble_eq_true rfl) hb)) rfl T.mg_law_draw (ja_cons (je_var (i := 0) rfl (Or.inl rfl)) (ja_cons je_int ja_nil)) (len_cons (len_cons len_nil)))) (ja_cons (je_getX (je_lst (ja_cons je_str (ja_cons je_str (ja_cons je_str ja_nil))) (len_cons (len_cons (len_cons len_nil)))) (je_call ((ok_law_draw T).mono (Nat.le_trans (Nat.le_of_ble_eq_true rfl) hb)) rfl T.mg_law_draw (ja_cons (je_var (i := 0) rfl (Or.inl rfl)) (ja_cons je_int ja_nil)) (len_cons (len_cons len_nil)))) (ja_cons (je_getX (je_lst (ja_cons je_str (ja_cons je_str ja_nil)) (len_cons (len_cons len_nil))) (je_call ((ok_law_draw T).mono (Nat.le_trans (Nat.le_of_ble_eq_true rfl) hb)) rfl T.mg_law_draw (ja_cons (je_var (i := 0) rfl (Or.inl rfl)) (ja_cons je_int ja_nil)) (len_cons (len_cons len_nil)))) (ja_cons (je_getX (je_lst (ja_cons je_str (ja_cons je_str (ja_cons je_str (ja_cons je_str (ja_cons je_str (ja_cons je_str ja_nil)))))) (len_cons (len_cons (len_cons (len_cons (len_cons (len_cons len_nil))))))) (je_call ((ok_law_draw T).mono (Nat.le_trans (Nat.le_of_ble_eq_true rfl) hb)) rfl T.mg_law_draw (ja_cons (je_var (i := 0) rfl (Or.inl rfl)) (ja_cons je_int ja_nil)) (len_cons (len_cons len_nil)))) (ja_cons (je_getX (je_lst (ja_cons je_str (ja_cons je_str ja_nil)) (len_cons (len_cons len_nil))) (je_call ((ok_law_draw T).mono (Nat.le_trans (Nat.le_of_ble_eq_true rfl) hb)) rfl T.mg_law_draw (ja_cons (je_var (i := 0) rfl (Or.inl rfl)) (ja_cons je_int ja_nil)) (len_cons (len_cons len_nil)))) (ja_cons (je_getX (je_lst (ja_cons je_str (ja_cons je_str ja_nil)) (len_cons (len_cons len_nil))) (je_call ((ok_law_draw T).mono (Nat.le_trans (Nat.le_of_ble_eq_true rfl) hb)) rfl T.mg_law_draw (ja_cons (je_var (i := 0) rfl (Or.inl rfl)) (ja_cons je_int ja_nil)) (len_cons (len_cons len_nil)))) ja_nil)))))) (len_cons (len_cons (len_cons (len_cons (len_cons (len_cons len_nil)))))))))
theorem ok_law_book : CallOk g 4 (g.fa 21) ["_law_m"] c_law_book := by
  obtain ⟨fd, h1, h2⟩ := T.fn_law_book
  exact callOk_of (N := n_law_book) h1 sc_law_book h2 (j_law_book T)
theorem j_law_first : JL (F.of g n_law_first (defScope s_law_first) 1) (defBody s_law_first) b_law_first := by
  have hb : 1 ≤ 1 := Nat.le_refl _
  exact (jl_cons (js_set (i := 1) rfl (Or.inl rfl) (je_opF opF_cat (je_lst (ja_cons je_str (ja_cons je_str ja_nil)) (len_cons (len_cons len_nil))) (je_opF opF_mulX (je_lst (ja_cons je_str ja_nil) (len_cons len_nil)) (je_tfn callF_int rfl T.no_int rfl (ja_cons (je_var (i := 0) rfl (Or.inl rfl)) ja_nil))))) (jl_one (js_ret (je_bfn callF_sortedX rfl T.no_sorted rfl (ja_cons (je_opF opF_cat (je_lc (own := [("_law_below", 2)]) (cl := []) (ji_any (je_var (i := 1) rfl (Or.inl rfl))) (by dsimp only [F.of, F.blk]; decide +kernel) (by decide +kernel) (jg_name (i := 2) rfl (Or.inl rfl)) jt_nil (je_tup (ja_cons (je_var (i := 2) rfl (Or.inl rfl)) (ja_cons je_str (ja_cons je_str ja_nil))) (len_cons (len_cons (len_cons len_nil))))) (je_lst (ja_cons (je_tup (ja_cons je_str (ja_cons je_str (ja_cons je_str ja_nil))) (len_cons (len_cons (len_cons len_nil)))) ja_nil) (len_cons len_nil))) ja_nil)))))
theorem ok_law_first : CallOk g 2 (g.fa 30) ["_law_has_so"] c_law_first := by
  obtain ⟨fd, h1, h2⟩ := T.fn_law_first
  exact callOk_of (N := n_law_first) h1 sc_law_first h2 (j_law_first T)
theorem j_law_has_folder : JL (F.of g n_law_has_folder (defScope s_law_has_folder) 1) (defBody s_law_has_folder) b_law_has_folder := by
  have hb : 1 ≤ 1 := Nat.le_refl _
  exact (jl_one (js_ret (je_or (je_cmpF opF_inT (je_getX (je_var (i := 0) rfl (Or.inl rfl)) je_int) (je_tup (ja_cons je_str (ja_cons je_str ja_nil)) (len_cons (len_cons len_nil)))) (je_one (je_and (je_cmpF opF_eqX (je_getX (je_var (i := 0) rfl (Or.inl rfl)) je_int) je_str) (je_one (je_cmpF opF_eqX (je_getX (je_var (i := 0) rfl (Or.inl rfl)) je_int) je_str)))))))
theorem ok_law_has_folder : CallOk g 2 (g.fa 26) ["_law_stand"] c_law_has_folder := by
  obtain ⟨fd, h1, h2⟩ := T.fn_law_has_folder
  exact callOk_of (N := n_law_has_folder) h1 sc_law_has_folder h2 (j_law_has_folder T)
theorem j_law_moved : JL (F.of g n_law_moved (defScope s_law_moved) 2) (defBody s_law_moved) b_law_moved := by
  have hb : 2 ≤ 2 := Nat.le_refl _
  exact (jl_cons (js_par (i := 5) (j := 6) rfl rfl (by decide) rfl rfl (je_getX (je_var (i := 2) rfl (Or.inl rfl)) je_int) (je_or (je_call ((ok_law_is_fault T).mono (Nat.le_trans (Nat.le_of_ble_eq_true rfl) hb)).iso rfl T.mg_law_is_fault (ja_cons (je_var (i := 1) rfl (Or.inl rfl)) ja_nil) (len_cons len_nil)) (je_one (je_call ((ok_law_is_fault T).mono (Nat.le_trans (Nat.le_of_ble_eq_true rfl) hb)).iso rfl T.mg_law_is_fault (ja_cons (je_var (i := 2) rfl (Or.inl rfl)) ja_nil) (len_cons len_nil)))) (fun X h => by unfold swappedStores Env.blockKind Env.kindOf; rw [h]; rfl)) (jl_cons (js_if (jb_w (jw_or (jb_cmpF opF_eqX (je_getX (je_var (i := 1) rfl (Or.inl rfl)) je_int) je_str) (jw_or (jb_cmpF opF_neX (je_getX (je_var (i := 2) rfl (Or.inl rfl)) je_int) je_str) (jw_or1 (jb_val (je_var (i := 6) rfl (Or.inl rfl))))))) (jl_one (js_ret (je_lst ja_nil len_nil))) jl_nil) (jl_cons (js_if (jb_not (jb_val (je_call ((ok_law_has_folder T).mono (Nat.le_trans (Nat.le_of_ble_eq_true rfl) hb)) rfl T.mg_law_has_folder (ja_cons (je_var (i := 1) rfl (Or.inl rfl)) ja_nil) (len_cons len_nil)))) (jl_one (js_ret (je_opF opF_cat (je_lst (ja_cons (je_tup (ja_cons (je_var (i := 5) rfl (Or.inl rfl)) (ja_cons je_str (ja_cons je_str ja_nil))) (len_cons (len_cons (len_cons len_nil)))) ja_nil) (len_cons len_nil)) (je_opF opF_mulX (je_lst (ja_cons (je_tup (ja_cons (je_var (i := 5) rfl (Or.inl rfl)) (ja_cons je_str (ja_cons je_str ja_nil))) (len_cons (len_cons (len_cons len_nil)))) ja_nil) (len_cons len_nil)) (je_tfn callF_int rfl T.no_int rfl (ja_cons (je_cmpF opF_inT (je_var (i := 5) rfl (Or.inl rfl)) (je_tup (ja_cons je_str (ja_cons je_str ja_nil)) (len_cons (len_cons len_nil)))) ja_nil)))))) jl_nil) (jl_cons (js_if (jb_cmpF opF_eqX (je_getX (je_var (i := 1) rfl (Or.inl rfl)) je_int) je_str) (jl_one (js_ret (je_lst (ja_cons (je_tup (ja_cons (je_var (i := 5) rfl (Or.inl rfl)) (ja_cons (je_if (jb_cmpF opF_eqX (je_getX (je_var (i := 0) rfl (Or.inl rfl)) je_int) je_str) je_str (je_getX (je_var (i := 1) rfl (Or.inl rfl)) je_int)) (ja_cons je_str ja_nil))) (len_cons (len_cons (len_cons len_nil)))) ja_nil) (len_cons len_nil)))) jl_nil) (jl_cons (js_par (i := 7) (j := 8) rfl rfl (by decide) rfl rfl (je_getX (je_call ((ok_law_raised T).mono (Nat.le_trans (Nat.le_of_ble_eq_true rfl) hb)) rfl T.mg_law_raised (ja_cons (je_var (i := 0) rfl (Or.inl rfl)) (ja_cons (je_var (i := 1) rfl (Or.inl rfl)) ja_nil)) (len_cons (len_cons len_nil))) je_int) (je_getX (je_var (i := 0) rfl (Or.inl rfl)) je_int) (fun X h => by unfold swappedStores Env.blockKind Env.kindOf; rw [h]; rfl)) (jl_cons (js_set (i := 9) rfl (Or.inl rfl) (je_or (je_cmpF opF_eqX (je_getX (je_var (i := 0) rfl (Or.inl rfl)) je_int) je_str) (je_one (je_cmpF opF_neX (je_var (i := 7) rfl (Or.inl rfl)) je_str)))) (jl_cons (js_if (jb_w (jw_or (jb_w (jw_and (jb_cmpF opF_eqX (je_var (i := 8) rfl (Or.inl rfl)) je_str) (jw_and1 (jb_not (jb_val (je_var (i := 3) rfl (Or.inl rfl))))))) (jw_or1 (jb_w (jw_and (jb_cmpF opF_eqX (je_var (i := 8) rfl (Or.inl rfl)) je_str) (jw_and1 (jb_val (je_var (i := 9) rfl (Or.inl rfl))))))))) (jl_one (js_ret (je_lst (ja_cons (je_tup (ja_cons (je_var (i := 5) rfl (Or.inl rfl)) (ja_cons je_str (ja_cons je_str ja_nil))) (len_cons (len_cons (len_cons len_nil)))) ja_nil) (len_cons len_nil)))) jl_nil) (jl_cons (js_set (i := 10) rfl (Or.inl rfl) (je_cmpF opF_eqX (je_getX (je_var (i := 1) rfl (Or.inl rfl)) je_int) je_str)) (jl_cons (js_set (i := 11) rfl (Or.inl rfl) (je_methX mtF_dget PySem.F.plainAttrs_dict PySem.F.slot_dict_get PySem.F.type_dict_get (je_disp (jp_cons je_str je_str (jp_cons je_str (je_var (i := 7) rfl (Or.inl rfl)) (jp_cons je_str (je_if (jb_w (jw_and (jb_val (je_var (i := 4) rfl (Or.inl rfl))) (jw_and1 (jb_val (je_var (i := 10) rfl (Or.inl rfl)))))) je_str je_str) jp_nil))) (by rfl) (by rfl) (by intro h; cases h) (by decide) (by decide)) (ja_cons (je_var (i := 8) rfl (Or.inl rfl)) (ja_cons (je_if (jb_w (jw_and (jb_val (je_var (i := 3) rfl (Or.inl rfl))) (jw_and1 (jb_val (je_var (i := 10) rfl (Or.inl rfl)))))) je_str je_str) ja_nil)))) (jl_cons (js_if (jb_not (jb_val (je_var (i := 9) rfl (Or.inl rfl)))) (jl_one (js_set (i := 11) rfl (Or.inl rfl) (je_if (jb_w (jw_and (jb_cmpF opF_eqX (je_var (i := 8) rfl (Or.inl rfl)) je_str) (jw_and1 (jb_not (jb_val (je_var (i := 3) rfl (Or.inl rfl))))))) je_str je_str))) jl_nil) (jl_one (js_ret (je_opF opF_cat (je_lst (ja_cons (je_tup (ja_cons (je_var (i := 5) rfl (Or.inl rfl)) (ja_cons (je_var (i := 11) rfl (Or.inl rfl)) (ja_cons je_str ja_nil))) (len_cons (len_cons (len_cons len_nil)))) ja_nil) (len_cons len_nil)) (je_opF opF_mulX (je_lst (ja_cons (je_tup (ja_cons (je_var (i := 5) rfl (Or.inl rfl)) (ja_cons (je_var (i := 11) rfl (Or.inl rfl)) (ja_cons je_str ja_nil))) (len_cons (len_cons (len_cons len_nil)))) ja_nil) (len_cons len_nil)) (je_tfn callF_int rfl T.no_int rfl (ja_cons (je_and (je_cmpF opF_eqX (je_var (i := 5) rfl (Or.inl rfl)) je_str) (je_one (je_cmpF opF_eqX (je_getX (je_var (i := 1) rfl (Or.inl rfl)) je_int) je_str))) ja_nil))))))))))))))))
theorem ok_law_moved : CallOk g 3 (g.fa 29) ["_law_book_here", "_law_source", "_law_target", "_law_same_so", "_law_home_so"] c_law_moved := by
  obtain ⟨fd, h1, h2⟩ := T.fn_law_moved
  exact callOk_of (N := n_law_moved) h1 sc_law_moved h2 (j_law_moved T)
theorem j_law_odds : JL (F.of g n_law_odds (defScope s_law_odds) 1) (defBody s_law_odds) b_law_odds := by
  have hb : 1 ≤ 1 := Nat.le_refl _
  exact (jl_cons (js_set (i := 1) rfl (Or.inl rfl) (je_lst (ja_cons je_non (ja_cons je_int (ja_cons je_str (ja_cons (je_tup ja_nil len_nil) (ja_cons (je_slice (je_var (i := 0) rfl (Or.inl rfl)) jo_none (jo_some je_int)) (ja_cons (je_opF opF_add (je_var (i := 0) rfl (Or.inl rfl)) (je_tup (ja_cons je_str ja_nil) (len_cons len_nil))) (ja_cons (je_tfn callF_lstX rfl T.no_list rfl (ja_cons (je_var (i := 0) rfl (Or.inl rfl)) ja_nil)) (ja_cons (je_tup (ja_cons je_str (ja_cons je_str ja_nil)) (len_cons (len_cons len_nil))) (ja_cons (je_tup (ja_cons je_str (ja_cons je_str (ja_cons je_str ja_nil))) (len_cons (len_cons (len_cons len_nil)))) ja_nil))))))))) (len_cons (len_cons (len_cons (len_cons (len_cons (len_cons (len_cons (len_cons (len_cons len_nil))))))))))) (jl_cons (js_set (i := 1) rfl (Or.inl rfl) (je_opF opF_cat (je_var (i := 1) rfl (Or.inl rfl)) (je_lst (ja_cons (je_tup (ja_cons je_str (ja_cons je_str (ja_cons je_non ja_nil))) (len_cons (len_cons (len_cons len_nil)))) (ja_cons (je_tup (ja_cons je_int (ja_cons je_str (ja_cons je_str ja_nil))) (len_cons (len_cons (len_cons len_nil)))) (ja_cons (je_tup (ja_cons je_str (ja_cons je_str (ja_cons je_str ja_nil))) (len_cons (len_cons (len_cons len_nil)))) (ja_cons (je_tup (ja_cons je_str (ja_cons je_str (ja_cons je_str ja_nil))) (len_cons (len_cons (len_cons len_nil)))) ja_nil)))) (len_cons (len_cons (len_cons (len_cons len_nil))))))) (jl_one (js_ret (je_opF opF_cat (je_var (i := 1) rfl (Or.inl rfl)) (je_lst (ja_cons (je_tup (ja_cons je_str (ja_cons je_str (ja_cons je_str ja_nil))) (len_cons (len_cons (len_cons len_nil)))) (ja_cons (je_tup (ja_cons je_str (ja_cons je_str (ja_cons je_str ja_nil))) (len_cons (len_cons (len_cons len_nil)))) (ja_cons (je_tup (ja_cons (je_var (i := 0) rfl (Or.inl rfl)) ja_nil) (len_cons len_nil)) (ja_cons (je_tup (ja_cons je_str (ja_cons (je_tup (ja_cons je_str ja_nil) (len_cons len_nil)) (ja_cons je_str ja_nil))) (len_cons (len_cons (len_cons len_nil)))) (ja_cons je_emp ja_nil))))) (len_cons (len_cons (len_cons (len_cons (len_cons len_nil)))))))))))
theorem ok_law_odds : CallOk g 2 (g.fa 31) ["_law_stand"] c_law_odds := by
  obtain ⟨fd, h1, h2⟩ := T.fn_law_odds
  exact callOk_of (N := n_law_odds) h1 sc_law_odds h2 (j_law_odds T)
theorem j_law_class : JL (F.of g n_law_class (defScope s_law_class) 1) (defBody s_law_class) b_law_class := by
  have hb : 1 ≤ 1 := Nat.le_refl _
  exact (jl_cons (js_set (i := 1) rfl (Or.inl rfl) (je_newL (ja_cons (je_tup (ja_cons je_str (ja_cons (je_bfn (callF_isa T.io T.ei) rfl T.no_isinstance rfl (ja_cons (je_var (i := 0) rfl (Or.inl rfl)) (ja_cons (je_glob (v := .ref (g.ca 1)) rfl T.mg_BadTree rfl fun _ _ => .cls 1) ja_nil))) ja_nil)) (len_cons (len_cons len_nil))) (ja_cons (je_tup (ja_cons je_str (ja_cons (je_bfn (callF_isa T.io T.ei) rfl T.no_isinstance rfl (ja_cons (je_var (i := 0) rfl (Or.inl rfl)) (ja_cons (je_glob (v := .ref (g.ca 2)) rfl T.mg_BadPath rfl fun _ _ => .cls 2) ja_nil))) ja_nil)) (len_cons (len_cons len_nil))) ja_nil)) (len_cons (len_cons len_nil)))) (jl_cons (js_set (i := 1) rfl (Or.inl rfl) (je_opF opF_cat (je_var (i := 1) rfl (Or.inl rfl)) (je_lst (ja_cons (je_tup (ja_cons je_str (ja_cons (je_bfn (callF_isa T.io T.ei) rfl T.no_isinstance rfl (ja_cons (je_var (i := 0) rfl (Or.inl rfl)) (ja_cons (je_glob (v := .ref (g.ca 3)) rfl T.mg_BadUpper rfl fun _ _ => .cls 3) ja_nil))) ja_nil)) (len_cons (len_cons len_nil))) (ja_cons (je_tup (ja_cons je_str (ja_cons (je_bfn (callF_isa T.io T.ei) rfl T.no_isinstance rfl (ja_cons (je_var (i := 0) rfl (Or.inl rfl)) (ja_cons (je_glob (v := .ref (g.ca 4)) rfl T.mg_BadBook rfl fun _ _ => .cls 4) ja_nil))) ja_nil)) (len_cons (len_cons len_nil))) ja_nil)) (len_cons (len_cons len_nil))))) (jl_cons (js_set (i := 1) rfl (Or.inl rfl) (je_opF opF_cat (je_var (i := 1) rfl (Or.inl rfl)) (je_lst (ja_cons (je_tup (ja_cons je_str (ja_cons (je_bfn (callF_isa T.io T.ei) rfl T.no_isinstance rfl (ja_cons (je_var (i := 0) rfl (Or.inl rfl)) (ja_cons (je_glob (v := .ref (g.ca 5)) rfl T.mg_BadDeed rfl fun _ _ => .cls 5) ja_nil))) ja_nil)) (len_cons (len_cons len_nil))) (ja_cons (je_tup (ja_cons je_str (ja_cons (je_bfn (callF_isa T.io T.ei) rfl T.no_isinstance rfl (ja_cons (je_var (i := 0) rfl (Or.inl rfl)) (ja_cons (je_glob (v := .ref (g.ca 6)) rfl T.mg_BadRow rfl fun _ _ => .cls 6) ja_nil))) ja_nil)) (len_cons (len_cons len_nil))) ja_nil)) (len_cons (len_cons len_nil))))) (jl_cons (js_set (i := 1) rfl (Or.inl rfl) (je_opF opF_cat (je_var (i := 1) rfl (Or.inl rfl)) (je_lst (ja_cons (je_tup (ja_cons je_str (ja_cons (je_bfn (callF_isa T.io T.ei) rfl T.no_isinstance rfl (ja_cons (je_var (i := 0) rfl (Or.inl rfl)) (ja_cons (je_glob (v := .ref (g.ca 7)) rfl T.mg_Refused rfl fun _ _ => .cls 7) ja_nil))) ja_nil)) (len_cons (len_cons len_nil))) (ja_cons (je_tup (ja_cons je_str (ja_cons (je_bfn (callF_isa T.io T.ei) rfl T.no_isinstance rfl (ja_cons (je_var (i := 0) rfl (Or.inl rfl)) (ja_cons (je_glob (v := .ref (g.ca 8)) rfl T.mg_BadStand rfl fun _ _ => .cls 8) ja_nil))) ja_nil)) (len_cons (len_cons len_nil))) ja_nil)) (len_cons (len_cons len_nil))))) (jl_cons (js_expr (je_meth mtF_append PySem.F.plainAttrs_list PySem.F.slot_list_append PySem.F.type_list_append (je_var (i := 1) rfl (Or.inl rfl)) (ja_cons (je_tup (ja_cons je_str (ja_cons (je_bfn (callF_isa T.io T.ei) rfl T.no_isinstance rfl (ja_cons (je_var (i := 0) rfl (Or.inl rfl)) (ja_cons (je_glob (v := .ref (g.ca 9)) rfl T.mg_BadPaper rfl fun _ _ => .cls 9) ja_nil))) ja_nil)) (len_cons (len_cons len_nil))) ja_nil))) (jl_cons (js_setLc (i := 2) (own := [("_law_own", 3), ("_law_holds", 4)]) (cl := []) rfl rfl (ji_any (je_var (i := 1) rfl (Or.inl rfl))) (by dsimp only [F.of, F.blk]; decide +kernel) (by decide +kernel) (jg_tup (n := 2) (jgs_cons (jg_name (i := 3) rfl (Or.inl rfl)) (jgs_cons (jg_name (i := 4) rfl (Or.inl rfl)) jgs_nil))) (jt_one (jb_val (je_var (i := 4) rfl (Or.inl rfl)))) (je_var (i := 3) rfl (Or.inl rfl)) rfl rfl (by decide +kernel)) (jl_cons (js_if (jb_cmpF opF_neX (je_bfn callF_lenX rfl T.no_len rfl (ja_cons (je_var (i := 2) rfl (Or.inl rfl)) ja_nil)) je_int) (jl_one (js_ret (je_tup (ja_cons je_str ja_nil) (len_cons len_nil)))) jl_nil) (jl_cons (js_if (jb_cmpF opF_inT (je_getX (je_var (i := 2) rfl (Or.inl rfl)) je_int) (je_tup (ja_cons je_str (ja_cons je_str ja_nil)) (len_cons (len_cons len_nil)))) (jl_one (js_ret (je_tup (ja_cons (je_getX (je_var (i := 2) rfl (Or.inl rfl)) je_int) (ja_cons (je_xat T.ee T.xf_place (je_var (i := 0) rfl (Or.inl rfl))) ja_nil)) (len_cons (len_cons len_nil))))) jl_nil) (jl_cons (js_if (jb_cmpF opF_inT (je_getX (je_var (i := 2) rfl (Or.inl rfl)) je_int) (je_tup (ja_cons je_str (ja_cons je_str ja_nil)) (len_cons (len_cons len_nil)))) (jl_one (js_ret (je_tup (ja_cons (je_getX (je_var (i := 2) rfl (Or.inl rfl)) je_int) (ja_cons (je_xat T.ee T.xf_word (je_var (i := 0) rfl (Or.inl rfl))) ja_nil)) (len_cons (len_cons len_nil))))) jl_nil) (jl_one (js_ret (je_tup (ja_cons (je_getX (je_var (i := 2) rfl (Or.inl rfl)) je_int) (ja_cons (je_xat T.ee T.xf_value (je_var (i := 0) rfl (Or.inl rfl))) ja_nil)) (len_cons (len_cons len_nil))))))))))))))
theorem ok_law_class : CallOk g 2 (g.fa 22) ["_law_error"] c_law_class := by
  obtain ⟨fd, h1, h2⟩ := T.fn_law_class
  exact callOk_of (N := n_law_class) h1 sc_law_class h2 (j_law_class T)
theorem j_law_said {b : Nat} (hb : 2 ≤ b) {tf__law_call : Nat → Option CF} {tl__law_call : Nat → Option (Nat × CE)} (hf__law_call : TabF g b 0 tf__law_call) (hl__law_call : TabL g b 0 tl__law_call) : JL (F.of g n_law_said (defScope s_law_said) b) (defBody s_law_said) (b_law_said tf__law_call tl__law_call) :=
  (jl_cons (js_asgF (vs := [1, 2]) (je_tup (ja_cons je_non (ja_cons je_non ja_nil)) (len_cons (len_cons len_nil))) (jg_tup (n := 2) (jgs_cons (jg_name (i := 1) rfl (Or.inl rfl)) (jgs_cons (jg_name (i := 2) rfl (Or.inl rfl)) jgs_nil))) (fun X h => by unfold swappedStores Env.blockKind Env.kindOf; rw [h]; rfl)) (jl_cons (js_tryv (i := 3) (j := 2) (k := 0) rfl rfl rfl rfl (by decide) rfl T.mg_PileError T.mt0 (jl_one (js_set (i := 1) rfl (Or.inl rfl) (je_callV0 (i := 0) rfl (Or.inl rfl) hf__law_call hl__law_call)))) (jl_one (js_ret (je_if (jb_cmpF opF_is (je_var (i := 2) rfl (Or.inl rfl)) je_non) (je_lst (ja_cons (je_var (i := 1) rfl (Or.inl rfl)) ja_nil) (len_cons len_nil)) (je_call ((ok_law_class T).mono (Nat.le_trans (Nat.le_of_ble_eq_true rfl) hb)) rfl T.mg_law_class (ja_cons (je_var (i := 2) rfl (Or.inl rfl)) ja_nil) (len_cons len_nil)))))))
theorem ok_law_said {b : Nat} (hb : 2 ≤ b) {tf__law_call : Nat → Option CF} {tl__law_call : Nat → Option (Nat × CE)} (hf__law_call : TabF g b 0 tf__law_call) (hl__law_call : TabL g b 0 tl__law_call) : CallOk g (b + 1) (g.fa 23) ["_law_call"] (c_law_said tf__law_call tl__law_call) := by
  obtain ⟨fd, h1, h2⟩ := T.fn_law_said
  exact callOk_of (N := n_law_said) h1 sc_law_said h2 (j_law_said T hb hf__law_call hl__law_call)
theorem j_left_by : JL (F.of g n_left_by (defScope s_left_by) 1) (defBody s_left_by) b_left_by := by
  have hb : 1 ≤ 1 := Nat.le_refl _
  exact (jl_cons (js_set (i := 3) rfl (Or.inl rfl) (je_or (je_cmpF opF_eqX (je_getX (je_var (i := 0) rfl (Or.inl rfl)) je_int) (je_gstr rfl T.mc_ALWAYS)) (je_or (je_and (je_cmpF opF_eqX (je_getX (je_var (i := 0) rfl (Or.inl rfl)) je_int) (je_gstr rfl T.mc_BELOW)) (je_one (je_cmpF opF_neX (je_var (i := 1) rfl (Or.inl rfl)) (je_gstr rfl T.mc_NONE)))) (je_one (je_and (je_cmpF opF_eqX (je_getX (je_var (i := 0) rfl (Or.inl rfl)) je_int) (je_gstr rfl T.mc_SHOWN)) (je_one (je_cmpF opF_eqX (je_var (i := 2) rfl (Or.inl rfl)) (je_gstr rfl T.mc_NONE)))))))) (jl_one (js_ret (je_tup (ja_cons (je_var (i := 1) rfl (Or.inl rfl)) (ja_cons (je_if (jb_val (je_var (i := 3) rfl (Or.inl rfl))) (je_gstr rfl T.mc_GONE) (je_gstr rfl T.mc_NONE)) (ja_cons (je_gstr rfl T.mc_NONE) ja_nil))) (len_cons (len_cons (len_cons len_nil)))))))
theorem ok_left_by : CallOk g 2 (g.fa 9) ["book", "below", "entry"] c_left_by := by
  obtain ⟨fd, h1, h2⟩ := T.fn_left_by
  exact callOk_of (N := n_left_by) h1 sc_left_by h2 (j_left_by T)
theorem j_raised_stand : JL (F.of g n_raised_stand (defScope s_raised_stand) 1) (defBody s_raised_stand) b_raised_stand := by
  have hb : 1 ≤ 1 := Nat.le_refl _
  exact (jl_cons (js_asg (vs := [2, 3, 4]) (je_var (i := 1) rfl (Or.inl rfl)) (jg_tup (n := 3) (jgs_cons (jg_name (i := 2) rfl (Or.inl rfl)) (jgs_cons (jg_name (i := 3) rfl (Or.inl rfl)) (jgs_cons (jg_name (i := 4) rfl (Or.inl rfl)) jgs_nil))))) (jl_cons (js_if (jb_cmpF opF_neX (je_var (i := 3) rfl (Or.inl rfl)) (je_gstr rfl T.mc_NONE)) (jl_one (js_ret (je_var (i := 1) rfl (Or.inl rfl)))) jl_nil) (jl_cons (js_if (jb_cmpF opF_eqX (je_var (i := 2) rfl (Or.inl rfl)) (je_gstr rfl T.mc_FOLDER)) (jl_one (js_ret (je_tup (ja_cons (je_var (i := 2) rfl (Or.inl rfl)) (ja_cons (je_gstr rfl T.mc_JOINS) (ja_cons (je_var (i := 4) rfl (Or.inl rfl)) ja_nil))) (len_cons (len_cons (len_cons len_nil)))))) jl_nil) (jl_one (js_ret (je_tup (ja_cons (je_var (i := 2) rfl (Or.inl rfl)) (ja_cons (je_if (jb_w (jw_and (jb_cmpF opF_eqX (je_var (i := 2) rfl (Or.inl rfl)) (je_gstr rfl T.mc_NAMES)) (jw_and1 (jb_cmpF opF_eqX (je_getX (je_var (i := 0) rfl (Or.inl rfl)) je_int) (je_gstr rfl T.mc_COPY))))) (je_gstr rfl T.mc_APART) (je_gstr rfl T.mc_FILE)) (ja_cons (je_var (i := 4) rfl (Or.inl rfl)) ja_nil))) (len_cons (len_cons (len_cons len_nil)))))))))
theorem ok_raised_stand : CallOk g 2 (g.fa 10) ["book", "stand"] c_raised_stand := by
  obtain ⟨fd, h1, h2⟩ := T.fn_raised_stand
  exact callOk_of (N := n_raised_stand) h1 sc_raised_stand h2 (j_raised_stand T)
theorem j_behind_in : JL (F.of g n_behind_in (defScope s_behind_in) 2) (defBody s_behind_in) b_behind_in := by
  have hb : 2 ≤ 2 := Nat.le_refl _
  exact (jl_cons (js_asg (vs := [2, 3, 4]) (je_var (i := 1) rfl (Or.inl rfl)) (jg_tup (n := 3) (jgs_cons (jg_name (i := 2) rfl (Or.inl rfl)) (jgs_cons (jg_name (i := 3) rfl (Or.inl rfl)) (jgs_cons (jg_name (i := 4) rfl (Or.inl rfl)) jgs_nil))))) (jl_cons (js_if (jb_cmpF opF_eqX (je_var (i := 4) rfl (Or.inl rfl)) (je_gstr rfl T.mc_NONE)) (jl_cons (js_set (i := 5) rfl (Or.inl rfl) (je_or (je_cmpF opF_eqX (je_getX (je_var (i := 0) rfl (Or.inl rfl)) je_int) (je_gstr rfl T.mc_BARE)) (je_one (je_and (je_cmpF opF_eqX (je_getX (je_var (i := 0) rfl (Or.inl rfl)) je_int) (je_gstr rfl T.mc_OVER)) (je_one (je_cmpF opF_eqX (je_var (i := 3) rfl (Or.inl rfl)) (je_gstr rfl T.mc_GONE))))))) (jl_one (js_ret (je_lst (ja_cons (je_tup (ja_cons (je_var (i := 2) rfl (Or.inl rfl)) (ja_cons (je_gstr rfl T.mc_FILE) (ja_cons (je_gstr rfl T.mc_FILE) ja_nil))) (len_cons (len_cons (len_cons len_nil)))) (ja_cons (je_tup (ja_cons (je_var (i := 2) rfl (Or.inl rfl)) (ja_cons (je_if (jb_val (je_var (i := 5) rfl (Or.inl rfl))) (je_gstr rfl T.mc_BARE) (je_gstr rfl T.mc_JOINS)) (ja_cons (je_gstr rfl T.mc_MADE) ja_nil))) (len_cons (len_cons (len_cons len_nil)))) ja_nil)) (len_cons (len_cons len_nil)))))) jl_nil) (jl_one (js_ret (je_lst (ja_cons (je_call ((ok_raised_stand T).mono (Nat.le_trans (Nat.le_of_ble_eq_true rfl) hb)) rfl T.mg_raised_stand (ja_cons (je_var (i := 0) rfl (Or.inl rfl)) (ja_cons (je_var (i := 1) rfl (Or.inl rfl)) ja_nil)) (len_cons (len_cons len_nil))) (ja_cons (je_call ((ok_left_by T).mono (Nat.le_trans (Nat.le_of_ble_eq_true rfl) hb)) rfl T.mg_left_by (ja_cons (je_var (i := 0) rfl (Or.inl rfl)) (ja_cons (je_var (i := 2) rfl (Or.inl rfl)) (ja_cons (je_var (i := 3) rfl (Or.inl rfl)) ja_nil))) (len_cons (len_cons (len_cons len_nil)))) ja_nil)) (len_cons (len_cons len_nil)))))))
theorem ok_behind_in : CallOk g 3 (g.fa 11) ["book", "stand"] c_behind_in := by
  obtain ⟨fd, h1, h2⟩ := T.fn_behind_in
  exact callOk_of (N := n_behind_in) h1 sc_behind_in h2 (j_behind_in T)
theorem j_is_fault_in : JL (F.of g n_is_fault_in (defScope s_is_fault_in) 1) (defBody s_is_fault_in) b_is_fault_in := by
  have hb : 1 ≤ 1 := Nat.le_refl _
  exact (jl_cons (js_asg (vs := [1, 2, 3]) (je_var (i := 0) rfl (Or.inl rfl)) (jg_tup (n := 3) (jgs_cons (jg_name (i := 1) rfl (Or.inl rfl)) (jgs_cons (jg_name (i := 2) rfl (Or.inl rfl)) (jgs_cons (jg_name (i := 3) rfl (Or.inl rfl)) jgs_nil))))) (jl_cons (js_if (jb_cmpF opF_eqX (je_var (i := 2) rfl (Or.inl rfl)) (je_gstr rfl T.mc_NONE)) (jl_one (js_ret (je_cmpF opF_neX (je_var (i := 3) rfl (Or.inl rfl)) (je_if (jb_cmpF opF_eqX (je_var (i := 1) rfl (Or.inl rfl)) (je_gstr rfl T.mc_NONE)) (je_gstr rfl T.mc_NONE) (je_gstr rfl T.mc_OWN))))) jl_nil) (jl_cons (js_if (jb_cmpF opF_eqX (je_var (i := 2) rfl (Or.inl rfl)) (je_gstr rfl T.mc_GONE)) (jl_one (js_ret (je_cmpF opF_neX (je_var (i := 3) rfl (Or.inl rfl)) (je_gstr rfl T.mc_NONE)))) jl_nil) (jl_cons (js_if (jb_cmpF opF_eqX (je_var (i := 2) rfl (Or.inl rfl)) (je_gstr rfl T.mc_FILE)) (jl_one (js_ret (je_and (je_cmpF opF_neX (je_var (i := 3) rfl (Or.inl rfl)) (je_gstr rfl T.mc_FILE)) (je_one (je_or (je_cmpF opF_neX (je_var (i := 3) rfl (Or.inl rfl)) (je_gstr rfl T.mc_OWN)) (je_one (je_cmpF opF_notInT (je_var (i := 1) rfl (Or.inl rfl)) (je_tup (ja_cons (je_gstr rfl T.mc_FILE) (ja_cons (je_gstr rfl T.mc_NAMES) ja_nil)) (len_cons (len_cons len_nil)))))))))) jl_nil) (jl_cons (js_if (jb_cmpF opF_eqX (je_var (i := 2) rfl (Or.inl rfl)) (je_gstr rfl T.mc_JOINS)) (jl_one (js_ret (je_cmpF opF_neX (je_var (i := 3) rfl (Or.inl rfl)) (je_if (jb_cmpF opF_eqX (je_var (i := 1) rfl (Or.inl rfl)) (je_gstr rfl T.mc_FOLDER)) (je_gstr rfl T.mc_OWN) (je_gstr rfl T.mc_MADE))))) jl_nil) (jl_cons (js_if (jb_cmpF opF_eqX (je_var (i := 2) rfl (Or.inl rfl)) (je_gstr rfl T.mc_BARE)) (jl_one (js_ret (je_cmpF opF_neX (je_var (i := 3) rfl (Or.inl rfl)) (je_gstr rfl T.mc_MADE)))) jl_nil) (jl_one (js_ret (je_or (je_cmpF opF_neX (je_var (i := 2) rfl (Or.inl rfl)) (je_gstr rfl T.mc_LED)) (je_one (je_and (je_cmpF opF_neX (je_var (i := 3) rfl (Or.inl rfl)) (je_gstr rfl T.mc_OTHER)) (je_one (je_or (je_cmpF opF_neX (je_var (i := 3) rfl (Or.inl rfl)) (je_gstr rfl T.mc_OWN)) (je_one (je_cmpF opF_neX (je_var (i := 1) rfl (Or.inl rfl)) (je_gstr rfl T.mc_FOLDER))))))))))))))))
theorem ok_is_fault_in : CallOk g 2 (g.fa 5) ["stand"] c_is_fault_in := by
  obtain ⟨fd, h1, h2⟩ := T.fn_is_fault_in
  exact callOk_of (N := n_is_fault_in) h1 sc_is_fault_in h2 (j_is_fault_in T)
theorem j_need_book : JL (F.of g n_need_book (defScope s_need_book) 1) (defBody s_need_book) b_need_book := by
  have hb : 1 ≤ 1 := Nat.le_refl _
  exact (jl_cons (js_if (jb_w (jw_or (jb_not (jb_val (je_bfn (callF_isa T.io T.ei) rfl T.no_isinstance rfl (ja_cons (je_var (i := 0) rfl (Or.inl rfl)) (ja_cons (je_bty rfl T.no_tuple rfl) ja_nil))))) (jw_or1 (jb_cmpF opF_neX (je_bfn callF_lenX rfl T.no_len rfl (ja_cons (je_var (i := 0) rfl (Or.inl rfl)) ja_nil)) (je_bfn callF_lenX rfl T.no_len rfl (ja_cons (je_gtup rfl T.mt_CHOICES) ja_nil)))))) (jl_one (js_raise1 T.x_BadBook T.rs_BadBook rfl rfl T.mg_BadBook je_non)) jl_nil) (jl_cons (js_for (vs := [1, 2]) (ji_enumX rfl T.no_enumerate (ja_cons (je_var (i := 0) rfl (Or.inl rfl)) ja_nil)) (jg_tup (n := 2) (jgs_cons (jg_name (i := 1) rfl (Or.inl rfl)) (jgs_cons (jg_name (i := 2) rfl (Or.inl rfl)) jgs_nil))) (jl_one (js_if (jb_w (jw_or (jb_not (jb_val (je_bfn (callF_isa T.io T.ei) rfl T.no_isinstance rfl (ja_cons (je_var (i := 2) rfl (Or.inl rfl)) (ja_cons (je_bty rfl T.no_str rfl) ja_nil))))) (jw_or1 (jb_cmpF opF_notInT (je_var (i := 2) rfl (Or.inl rfl)) (je_getX (je_gtup rfl T.mt_CHOICES) (je_var (i := 1) rfl (Or.inl rfl))))))) (jl_one (js_raise1 T.x_BadBook T.rs_BadBook rfl rfl T.mg_BadBook (je_var (i := 1) rfl (Or.inl rfl)))) jl_nil))) (jl_one (js_ret (je_var (i := 0) rfl (Or.inl rfl))))))
theorem ok_need_book : CallOk g 2 (g.fa 1) ["book"] c_need_book := by
  obtain ⟨fd, h1, h2⟩ := T.fn_need_book
  exact callOk_of (N := n_need_book) h1 sc_need_book h2 (j_need_book T)
theorem j_is_tuple : JL (F.of g n_is_tuple (defScope s_is_tuple) 1) (defBody s_is_tuple) b_is_tuple := by
  have hb : 1 ≤ 1 := Nat.le_refl _
  exact (jl_one (js_ret (je_and (je_bfn (callF_isa T.io T.ei) rfl T.no_isinstance rfl (ja_cons (je_var (i := 0) rfl (Or.inl rfl)) (ja_cons (je_bty rfl T.no_tuple rfl) ja_nil))) (je_one (je_cmpF opF_eqX (je_bfn callF_lenX rfl T.no_len rfl (ja_cons (je_var (i := 0) rfl (Or.inl rfl)) ja_nil)) (je_var (i := 1) rfl (Or.inl rfl)))))))
theorem ok_is_tuple : CallOk g 2 (g.fa 0) ["value", "many"] c_is_tuple := by
  obtain ⟨fd, h1, h2⟩ := T.fn_is_tuple
  exact callOk_of (N := n_is_tuple) h1 sc_is_tuple h2 (j_is_tuple T)
theorem j_is_stand : JL (F.of g n_is_stand (defScope s_is_stand) 2) (defBody s_is_stand) b_is_stand := by
  have hb : 2 ≤ 2 := Nat.le_refl _
  exact (jl_cons (js_if (jb_w (jw_or (jb_not (jb_val (je_call ((ok_is_tuple T).mono (Nat.le_trans (Nat.le_of_ble_eq_true rfl) hb)) rfl T.mg_is_tuple (ja_cons (je_var (i := 0) rfl (Or.inl rfl)) (ja_cons je_int ja_nil)) (len_cons (len_cons len_nil))))) (jw_or1 (jb_not (jb_val (je_bfn callF_all rfl T.no_all rfl (ja_cons (je_lc (own := [("word", 1)]) (cl := []) (ji_any (je_var (i := 0) rfl (Or.inl rfl))) (by dsimp only [F.of, F.blk]; decide +kernel) (by decide +kernel) (jg_name (i := 1) rfl (Or.inl rfl)) jt_nil (je_bfn (callF_isa T.io T.ei) rfl T.no_isinstance rfl (ja_cons (je_var (i := 1) rfl (Or.inl rfl)) (ja_cons (je_bty rfl T.no_str rfl) ja_nil)))) ja_nil))))))) (jl_one (js_ret je_bl)) jl_nil) (jl_one (js_ret (je_and (je_cmpF opF_inT (je_getX (je_var (i := 0) rfl (Or.inl rfl)) je_int) (je_gtup rfl T.mt_LYING)) (je_and (je_cmpF opF_inT (je_getX (je_var (i := 0) rfl (Or.inl rfl)) je_int) (je_gtup rfl T.mt_ENTRIES)) (je_one (je_cmpF opF_inT (je_getX (je_var (i := 0) rfl (Or.inl rfl)) je_int) (je_gtup rfl T.mt_TRUTHS))))))))
theorem ok_is_stand : CallOk g 3 (g.fa 2) ["value"] c_is_stand := by
  obtain ⟨fd, h1, h2⟩ := T.fn_is_stand
  exact callOk_of (N := n_is_stand) h1 sc_is_stand h2 (j_is_stand T)
theorem j_need_stand : JL (F.of g n_need_stand (defScope s_need_stand) 3) (defBody s_need_stand) b_need_stand := by
  have hb : 3 ≤ 3 := Nat.le_refl _
  exact (jl_one (js_if (jb_not (jb_val (je_call ((ok_is_stand T).mono (Nat.le_trans (Nat.le_of_ble_eq_true rfl) hb)).iso rfl T.mg_is_stand (ja_cons (je_var (i := 0) rfl (Or.inl rfl)) ja_nil) (len_cons len_nil)))) (jl_one (js_raise1 T.x_BadStand T.rs_BadStand rfl rfl T.mg_BadStand (je_var (i := 0) rfl (Or.inl rfl)))) jl_nil))
theorem ok_need_stand : CallOk g 4 (g.fa 3) ["stand"] c_need_stand := by
  obtain ⟨fd, h1, h2⟩ := T.fn_need_stand
  exact callOk_of (N := n_need_stand) h1 sc_need_stand h2 (j_need_stand T)
theorem j_behind : JL (F.of g n_behind (defScope s_behind) 4) (defBody s_behind) b_behind := by
  have hb : 4 ≤ 4 := Nat.le_refl _
  exact (jl_cons (js_expr (je_call ((ok_need_book T).mono (Nat.le_trans (Nat.le_of_ble_eq_true rfl) hb)).iso rfl T.mg_need_book (ja_cons (je_var (i := 0) rfl (Or.inl rfl)) ja_nil) (len_cons len_nil))) (jl_cons (js_expr (je_call ((ok_need_stand T).mono (Nat.le_trans (Nat.le_of_ble_eq_true rfl) hb)) rfl T.mg_need_stand (ja_cons (je_var (i := 1) rfl (Or.inl rfl)) ja_nil) (len_cons len_nil))) (jl_one (js_ret (je_if (jb_val (je_call ((ok_is_fault_in T).mono (Nat.le_trans (Nat.le_of_ble_eq_true rfl) hb)).iso rfl T.mg_is_fault_in (ja_cons (je_var (i := 1) rfl (Or.inl rfl)) ja_nil) (len_cons len_nil))) (je_tup ja_nil len_nil) (je_tfn callF_tupOf rfl T.no_tuple rfl (ja_cons (je_sortAll rfl T.no_sorted rfl T.no_set (ja_cons (je_call ((ok_behind_in T).mono (Nat.le_trans (Nat.le_of_ble_eq_true rfl) hb)).iso rfl T.mg_behind_in (ja_cons (je_var (i := 0) rfl (Or.inl rfl)) (ja_cons (je_var (i := 1) rfl (Or.inl rfl)) ja_nil)) (len_cons (len_cons len_nil))) ja_nil)) ja_nil)))))))
theorem ok_behind : CallOk g 5 (g.fa 12) ["book", "stand"] c_behind := by
  obtain ⟨fd, h1, h2⟩ := T.fn_behind
  exact callOk_of (N := n_behind) h1 sc_behind h2 (j_behind T)
theorem j_is_fault : JL (F.of g n_is_fault (defScope s_is_fault) 4) (defBody s_is_fault) b_is_fault := by
  have hb : 4 ≤ 4 := Nat.le_refl _
  exact (jl_cons (js_expr (je_call ((ok_need_stand T).mono (Nat.le_trans (Nat.le_of_ble_eq_true rfl) hb)) rfl T.mg_need_stand (ja_cons (je_var (i := 0) rfl (Or.inl rfl)) ja_nil) (len_cons len_nil))) (jl_one (js_ret (je_call ((ok_is_fault_in T).mono (Nat.le_trans (Nat.le_of_ble_eq_true rfl) hb)).iso rfl T.mg_is_fault_in (ja_cons (je_var (i := 0) rfl (Or.inl rfl)) ja_nil) (len_cons len_nil)))))
theorem ok_is_fault : CallOk g 5 (g.fa 6) ["stand"] c_is_fault := by
  obtain ⟨fd, h1, h2⟩ := T.fn_is_fault
  exact callOk_of (N := n_is_fault) h1 sc_is_fault h2 (j_is_fault T)
theorem j_can_move : JL (F.of g n_can_move (defScope s_can_move) 2) (defBody s_can_move) b_can_move := by
  have hb : 2 ≤ 2 := Nat.le_refl _
  exact (jl_one (js_ret (je_and (je_cmpF opF_neX (je_getX (je_var (i := 0) rfl (Or.inl rfl)) je_int) (je_gstr rfl T.mc_NONE)) (je_and (je_cmpF opF_eqX (je_getX (je_var (i := 1) rfl (Or.inl rfl)) je_int) (je_gstr rfl T.mc_NONE)) (je_and (je_not (je_call ((ok_is_fault_in T).mono (Nat.le_trans (Nat.le_of_ble_eq_true rfl) hb)).iso rfl T.mg_is_fault_in (ja_cons (je_var (i := 0) rfl (Or.inl rfl)) ja_nil) (len_cons len_nil))) (je_one (je_not (je_call ((ok_is_fault_in T).mono (Nat.le_trans (Nat.le_of_ble_eq_true rfl) hb)).iso rfl T.mg_is_fault_in (ja_cons (je_var (i := 1) rfl (Or.inl rfl)) ja_nil) (len_cons len_nil)))))))))
theorem ok_can_move : CallOk g 3 (g.fa 15) ["source", "target"] c_can_move := by
  obtain ⟨fd, h1, h2⟩ := T.fn_can_move
  exact callOk_of (N := n_can_move) h1 sc_can_move h2 (j_can_move T)
theorem j_is_folder_in : JL (F.of g n_is_folder_in (defScope s_is_folder_in) 1) (defBody s_is_folder_in) b_is_folder_in := by
  have hb : 1 ≤ 1 := Nat.le_refl _
  exact (jl_one (js_ret (je_or (je_cmpF opF_inT (je_getX (je_var (i := 0) rfl (Or.inl rfl)) je_int) (je_tup (ja_cons (je_gstr rfl T.mc_MADE) (ja_cons (je_gstr rfl T.mc_OTHER) ja_nil)) (len_cons (len_cons len_nil)))) (je_one (je_and (je_cmpF opF_eqX (je_getX (je_var (i := 0) rfl (Or.inl rfl)) je_int) (je_gstr rfl T.mc_OWN)) (je_one (je_cmpF opF_eqX (je_getX (je_var (i := 0) rfl (Or.inl rfl)) je_int) (je_gstr rfl T.mc_FOLDER))))))))
theorem ok_is_folder_in : CallOk g 2 (g.fa 4) ["stand"] c_is_folder_in := by
  obtain ⟨fd, h1, h2⟩ := T.fn_is_folder_in
  exact callOk_of (N := n_is_folder_in) h1 sc_is_folder_in h2 (j_is_folder_in T)
theorem j_mark_of : JL (F.of g n_mark_of (defScope s_mark_of) 2) (defBody s_mark_of) b_mark_of := by
  have hb : 2 ≤ 2 := Nat.le_refl _
  exact (jl_cons (js_par (i := 4) (j := 5) rfl rfl (by decide) rfl rfl (je_getX (je_call ((ok_raised_stand T).mono (Nat.le_trans (Nat.le_of_ble_eq_true rfl) hb)) rfl T.mg_raised_stand (ja_cons (je_var (i := 0) rfl (Or.inl rfl)) (ja_cons (je_var (i := 1) rfl (Or.inl rfl)) ja_nil)) (len_cons (len_cons len_nil))) je_int) (je_getX (je_var (i := 0) rfl (Or.inl rfl)) je_int) (fun X h => by unfold swappedStores Env.blockKind Env.kindOf; rw [h]; rfl)) (jl_cons (js_set (i := 6) rfl (Or.inl rfl) (je_or (je_cmpF opF_eqX (je_getX (je_var (i := 0) rfl (Or.inl rfl)) je_int) (je_gstr rfl T.mc_ANEW)) (je_one (je_cmpF opF_neX (je_var (i := 4) rfl (Or.inl rfl)) (je_gstr rfl T.mc_LED))))) (jl_cons (js_if (jb_w (jw_or (jb_w (jw_and (jb_cmpF opF_eqX (je_var (i := 5) rfl (Or.inl rfl)) (je_gstr rfl T.mc_NEAR)) (jw_and1 (jb_not (jb_val (je_var (i := 2) rfl (Or.inl rfl))))))) (jw_or1 (jb_w (jw_and (jb_cmpF opF_eqX (je_var (i := 5) rfl (Or.inl rfl)) (je_gstr rfl T.mc_COPY)) (jw_and1 (jb_val (je_var (i := 6) rfl (Or.inl rfl))))))))) (jl_one (js_ret (je_gstr rfl T.mc_BARE))) jl_nil) (jl_cons (js_if (jb_not (jb_val (je_var (i := 6) rfl (Or.inl rfl)))) (jl_one (js_ret (je_if (jb_w (jw_or (jb_cmpF opF_neX (je_var (i := 5) rfl (Or.inl rfl)) (je_gstr rfl T.mc_BY_NAME)) (jw_or1 (jb_val (je_var (i := 2) rfl (Or.inl rfl)))))) (je_gstr rfl T.mc_LED) (je_gstr rfl T.mc_OFF)))) jl_nil) (jl_cons (js_if (jb_cmpF opF_eqX (je_var (i := 5) rfl (Or.inl rfl)) (je_gstr rfl T.mc_BY_PATH)) (jl_one (js_ret (je_gstr rfl T.mc_LED))) jl_nil) (jl_cons (js_if (jb_cmpF opF_eqX (je_var (i := 5) rfl (Or.inl rfl)) (je_gstr rfl T.mc_KEEP)) (jl_one (js_ret (je_var (i := 4) rfl (Or.inl rfl)))) jl_nil) (jl_cons (js_set (i := 7) rfl (Or.inl rfl) (je_if (jb_cmpF opF_eqX (je_var (i := 5) rfl (Or.inl rfl)) (je_gstr rfl T.mc_SEEN)) (je_var (i := 3) rfl (Or.inl rfl)) (je_var (i := 2) rfl (Or.inl rfl)))) (jl_one (js_ret (je_if (jb_w (jw_and (jb_val (je_var (i := 7) rfl (Or.inl rfl))) (jw_and1 (jb_cmpF opF_eqX (je_getX (je_var (i := 1) rfl (Or.inl rfl)) je_int) (je_gstr rfl T.mc_OWN))))) (je_gstr rfl T.mc_LED) (je_gstr rfl T.mc_OFF)))))))))))
theorem ok_mark_of : CallOk g 3 (g.fa 13) ["book", "source", "is_same", "is_home"] c_mark_of := by
  obtain ⟨fd, h1, h2⟩ := T.fn_mark_of
  exact callOk_of (N := n_mark_of) h1 sc_mark_of h2 (j_mark_of T)
theorem j_moved_in : JL (F.of g n_moved_in (defScope s_moved_in) 3) (defBody s_moved_in) b_moved_in := by
  have hb : 3 ≤ 3 := Nat.le_refl _
  exact (jl_cons (js_set (i := 5) rfl (Or.inl rfl) (je_getX (je_var (i := 2) rfl (Or.inl rfl)) je_int)) (jl_cons (js_if (jb_not (jb_val (je_call ((ok_is_folder_in T).mono (Nat.le_trans (Nat.le_of_ble_eq_true rfl) hb)) rfl T.mg_is_folder_in (ja_cons (je_var (i := 1) rfl (Or.inl rfl)) ja_nil) (len_cons len_nil)))) (jl_one (js_ret (je_opF opF_cat (je_lst (ja_cons (je_tup (ja_cons (je_var (i := 5) rfl (Or.inl rfl)) (ja_cons (je_gstr rfl T.mc_FILE) (ja_cons (je_gstr rfl T.mc_FILE) ja_nil))) (len_cons (len_cons (len_cons len_nil)))) ja_nil) (len_cons len_nil)) (je_if (jb_cmpF opF_inT (je_var (i := 5) rfl (Or.inl rfl)) (je_tup (ja_cons (je_gstr rfl T.mc_FILE) (ja_cons (je_gstr rfl T.mc_NAMES) ja_nil)) (len_cons (len_cons len_nil)))) (je_lst (ja_cons (je_tup (ja_cons (je_var (i := 5) rfl (Or.inl rfl)) (ja_cons (je_gstr rfl T.mc_FILE) (ja_cons (je_gstr rfl T.mc_OWN) ja_nil))) (len_cons (len_cons (len_cons len_nil)))) ja_nil) (len_cons len_nil)) (je_lst ja_nil len_nil))))) jl_nil) (jl_cons (js_if (jb_cmpF opF_eqX (je_getX (je_var (i := 1) rfl (Or.inl rfl)) je_int) (je_gstr rfl T.mc_MADE)) (jl_one (js_ret (je_lst (ja_cons (je_tup (ja_cons (je_var (i := 5) rfl (Or.inl rfl)) (ja_cons (je_if (jb_cmpF opF_eqX (je_getX (je_var (i := 0) rfl (Or.inl rfl)) je_int) (je_gstr rfl T.mc_BARE)) (je_gstr rfl T.mc_BARE) (je_getX (je_var (i := 1) rfl (Or.inl rfl)) je_int)) (ja_cons (je_gstr rfl T.mc_MADE) ja_nil))) (len_cons (len_cons (len_cons len_nil)))) ja_nil) (len_cons len_nil)))) jl_nil) (jl_cons (js_set (i := 6) rfl (Or.inl rfl) (je_call ((ok_mark_of T).mono (Nat.le_trans (Nat.le_of_ble_eq_true rfl) hb)) rfl T.mg_mark_of (ja_cons (je_var (i := 0) rfl (Or.inl rfl)) (ja_cons (je_var (i := 1) rfl (Or.inl rfl)) (ja_cons (je_var (i := 3) rfl (Or.inl rfl)) (ja_cons (je_var (i := 4) rfl (Or.inl rfl)) ja_nil)))) (len_cons (len_cons (len_cons (len_cons len_nil)))))) (jl_cons (js_if (jb_cmpF opF_eqX (je_var (i := 6) rfl (Or.inl rfl)) (je_gstr rfl T.mc_BARE)) (jl_one (js_ret (je_lst (ja_cons (je_tup (ja_cons (je_var (i := 5) rfl (Or.inl rfl)) (ja_cons (je_gstr rfl T.mc_BARE) (ja_cons (je_gstr rfl T.mc_MADE) ja_nil))) (len_cons (len_cons (len_cons len_nil)))) ja_nil) (len_cons len_nil)))) jl_nil) (jl_one (js_ret (je_opF opF_cat (je_lst (ja_cons (je_tup (ja_cons (je_var (i := 5) rfl (Or.inl rfl)) (ja_cons (je_var (i := 6) rfl (Or.inl rfl)) (ja_cons (je_gstr rfl T.mc_OTHER) ja_nil))) (len_cons (len_cons (len_cons len_nil)))) ja_nil) (len_cons len_nil)) (je_if (jb_w (jw_and (jb_cmpF opF_eqX (je_var (i := 5) rfl (Or.inl rfl)) (je_gstr rfl T.mc_FOLDER)) (jw_and1 (jb_cmpF opF_eqX (je_getX (je_var (i := 1) rfl (Or.inl rfl)) je_int) (je_gstr rfl T.mc_OTHER))))) (je_lst (ja_cons (je_tup (ja_cons (je_var (i := 5) rfl (Or.inl rfl)) (ja_cons (je_var (i := 6) rfl (Or.inl rfl)) (ja_cons (je_gstr rfl T.mc_OWN) ja_nil))) (len_cons (len_cons (len_cons len_nil)))) ja_nil) (len_cons len_nil)) (je_lst ja_nil len_nil))))))))))
theorem ok_moved_in : CallOk g 4 (g.fa 14) ["book", "source", "target", "is_same", "is_home"] c_moved_in := by
  obtain ⟨fd, h1, h2⟩ := T.fn_moved_in
  exact callOk_of (N := n_moved_in) h1 sc_moved_in h2 (j_moved_in T)
theorem j_moved : JL (F.of g n_moved (defScope s_moved) 4) (defBody s_moved) b_moved := by
  have hb : 4 ≤ 4 := Nat.le_refl _
  exact (jl_cons (js_expr (je_call ((ok_need_book T).mono (Nat.le_trans (Nat.le_of_ble_eq_true rfl) hb)).iso rfl T.mg_need_book (ja_cons (je_var (i := 0) rfl (Or.inl rfl)) ja_nil) (len_cons len_nil))) (jl_cons (js_expr (je_call ((ok_need_stand T).mono (Nat.le_trans (Nat.le_of_ble_eq_true rfl) hb)) rfl T.mg_need_stand (ja_cons (je_var (i := 1) rfl (Or.inl rfl)) ja_nil) (len_cons len_nil))) (jl_cons (js_expr (je_call ((ok_need_stand T).mono (Nat.le_trans (Nat.le_of_ble_eq_true rfl) hb)) rfl T.mg_need_stand (ja_cons (je_var (i := 2) rfl (Or.inl rfl)) ja_nil) (len_cons len_nil))) (jl_one (js_ret (je_if (jb_val (je_call ((ok_can_move T).mono (Nat.le_trans (Nat.le_of_ble_eq_true rfl) hb)).iso rfl T.mg_can_move (ja_cons (je_var (i := 1) rfl (Or.inl rfl)) (ja_cons (je_var (i := 2) rfl (Or.inl rfl)) ja_nil)) (len_cons (len_cons len_nil)))) (je_tfn callF_tupOf rfl T.no_tuple rfl (ja_cons (je_bfn callF_sortedX rfl T.no_sorted rfl (ja_cons (je_call ((ok_moved_in T).mono (Nat.le_trans (Nat.le_of_ble_eq_true rfl) hb)).iso rfl T.mg_moved_in (ja_cons (je_var (i := 0) rfl (Or.inl rfl)) (ja_cons (je_var (i := 1) rfl (Or.inl rfl)) (ja_cons (je_var (i := 2) rfl (Or.inl rfl)) (ja_cons (je_var (i := 3) rfl (Or.inl rfl)) (ja_cons (je_var (i := 4) rfl (Or.inl rfl)) ja_nil))))) (len_cons (len_cons (len_cons (len_cons (len_cons len_nil)))))) ja_nil)) ja_nil)) (je_tup ja_nil len_nil)))))))
theorem ok_moved : CallOk g 5 (g.fa 16) ["book", "source", "target", "is_same", "is_home"] c_moved := by
  obtain ⟨fd, h1, h2⟩ := T.fn_moved
  exact callOk_of (N := n_moved) h1 sc_moved h2 (j_moved T)
theorem la0 {b : Nat} : LamAt (F.of g n_law_odds_right (defScope s_law_odds_right) b [(tA g 0, ("_law_odds_right.<locals>.<lambda>" : Str))]) 0 :=
  { tab := ⟨tA g 0, by dsimp only [F.of]; rw [T.lm0]; exact List.mem_cons_self, by dsimp only [F.of]; rw [T.lm0]; exact T.tb0.1, by dsimp only [F.of]; rw [T.lm0]; exact T.tb0.2⟩, dp := rfl,
    fr := by dsimp only [F.of]; rw [T.lm0]; decide +kernel, sub := by dsimp only [F.of]; rw [T.lm0]; decide +kernel, sup := by dsimp only [F.of]; rw [T.lm0]; decide +kernel }
theorem jl0 {k : Nat} (hb : 5 ≤ k) : JE (⟨g, ln0, lamR0.scope, k, [], true, []⟩ : Sm.F) lamR0.body (l0) :=
  (je_call ((ok_behind T).mono (Nat.le_trans (Nat.le_of_ble_eq_true rfl) hb)) rfl T.mg_behind (ja_cons (je_var (i := 1) rfl (Or.inr (Or.inr rfl))) (ja_cons (je_var (i := 2) rfl (Or.inr (Or.inr rfl))) ja_nil)) (len_cons (len_cons len_nil)))
theorem lo0 {k : Nat} (hb : 5 ≤ k) : LamOk g (k + 1) 0 0 ln0 (l0) :=
  { sc := by rw [T.lm0]; exact NdefX.nscope_by (by decide +kernel),
    bnd := by rw [T.lm0]; exact fun cl T0 doc pm cv ct us hl => match us, hl with | [], _ => fun u => ⟨_, rfl, rfl⟩,
    np := by rw [T.lm0]; rfl,
    body := ⟨k, Nat.le_refl _, by have h := jl0 T hb; show JE (⟨g, ln0, (g.lm 0).scope, k, [], true, []⟩ : Sm.F) (g.lm 0).body _; rw [T.lm0]; exact h⟩ }
theorem la1 {b : Nat} : LamAt (F.of g n_law_odds_right (defScope s_law_odds_right) b [(tA g 0, ("_law_odds_right.<locals>.<lambda>" : Str))]) 1 :=
  { tab := ⟨tA g 0, by dsimp only [F.of]; rw [T.lm1]; exact List.mem_cons_self, by dsimp only [F.of]; rw [T.lm1]; exact T.tb0.1, by dsimp only [F.of]; rw [T.lm1]; exact T.tb0.2⟩, dp := rfl,
    fr := by dsimp only [F.of]; rw [T.lm1]; decide +kernel, sub := by dsimp only [F.of]; rw [T.lm1]; decide +kernel, sup := by dsimp only [F.of]; rw [T.lm1]; decide +kernel }
theorem jl1 {k : Nat} (hb : 5 ≤ k) : JE (⟨g, ln1, lamR1.scope, k, [], true, []⟩ : Sm.F) lamR1.body (l1) :=
  (je_call ((ok_is_fault T).mono (Nat.le_trans (Nat.le_of_ble_eq_true rfl) hb)) rfl T.mg_is_fault (ja_cons (je_var (i := 0) rfl (Or.inr (Or.inr rfl))) ja_nil) (len_cons len_nil))
theorem lo1 {k : Nat} (hb : 5 ≤ k) : LamOk g (k + 1) 1 0 ln1 (l1) :=
  { sc := by rw [T.lm1]; exact NdefX.nscope_by (by decide +kernel),
    bnd := by rw [T.lm1]; exact fun cl T0 doc pm cv ct us hl => match us, hl with | [], _ => rfl,
    np := by rw [T.lm1]; rfl,
    body := ⟨k, Nat.le_refl _, by have h := jl1 T hb; show JE (⟨g, ln1, (g.lm 1).scope, k, [], true, []⟩ : Sm.F) (g.lm 1).body _; rw [T.lm1]; exact h⟩ }
theorem la2 {b : Nat} : LamAt (F.of g n_law_odds_right (defScope s_law_odds_right) b [(tA g 0, ("_law_odds_right.<locals>.<lambda>" : Str))]) 2 :=
  { tab := ⟨tA g 0, by dsimp only [F.of]; rw [T.lm2]; exact List.mem_cons_self, by dsimp only [F.of]; rw [T.lm2]; exact T.tb0.1, by dsimp only [F.of]; rw [T.lm2]; exact T.tb0.2⟩, dp := rfl,
    fr := by dsimp only [F.of]; rw [T.lm2]; decide +kernel, sub := by dsimp only [F.of]; rw [T.lm2]; decide +kernel, sup := by dsimp only [F.of]; rw [T.lm2]; decide +kernel }
theorem jl2 {k : Nat} (hb : 5 ≤ k) : JE (⟨g, ln2, lamR2.scope, k, [], true, []⟩ : Sm.F) lamR2.body (l2) :=
  (je_call ((ok_moved T).mono (Nat.le_trans (Nat.le_of_ble_eq_true rfl) hb)) rfl T.mg_moved (ja_cons (je_var (i := 0) rfl (Or.inr (Or.inr rfl))) (ja_cons (je_var (i := 1) rfl (Or.inr (Or.inr rfl))) (ja_cons je_non (ja_cons je_bl (ja_cons je_bl ja_nil))))) (len_cons (len_cons (len_cons (len_cons (len_cons len_nil))))))
theorem lo2 {k : Nat} (hb : 5 ≤ k) : LamOk g (k + 1) 2 0 ln2 (l2) :=
  { sc := by rw [T.lm2]; exact NdefX.nscope_by (by decide +kernel),
    bnd := by rw [T.lm2]; exact fun cl T0 doc pm cv ct us hl => match us, hl with | [], _ => rfl,
    np := by rw [T.lm2]; rfl,
    body := ⟨k, Nat.le_refl _, by have h := jl2 T hb; show JE (⟨g, ln2, (g.lm 2).scope, k, [], true, []⟩ : Sm.F) (g.lm 2).body _; rw [T.lm2]; exact h⟩ }
theorem la3 {b : Nat} : LamAt (F.of g n_law_odds_right (defScope s_law_odds_right) b [(tA g 0, ("_law_odds_right.<locals>.<lambda>" : Str))]) 3 :=
  { tab := ⟨tA g 0, by dsimp only [F.of]; rw [T.lm3]; exact List.mem_cons_self, by dsimp only [F.of]; rw [T.lm3]; exact T.tb0.1, by dsimp only [F.of]; rw [T.lm3]; exact T.tb0.2⟩, dp := rfl,
    fr := by dsimp only [F.of]; rw [T.lm3]; decide +kernel, sub := by dsimp only [F.of]; rw [T.lm3]; decide +kernel, sup := by dsimp only [F.of]; rw [T.lm3]; decide +kernel }
theorem jl3 {k : Nat} (hb : 5 ≤ k) : JE (⟨g, ln3, lamR3.scope, k, [], true, []⟩ : Sm.F) lamR3.body (l3) :=
  (je_call ((ok_moved T).mono (Nat.le_trans (Nat.le_of_ble_eq_true rfl) hb)) rfl T.mg_moved (ja_cons (je_var (i := 0) rfl (Or.inr (Or.inr rfl))) (ja_cons (je_var (i := 2) rfl (Or.inr (Or.inr rfl))) (ja_cons (je_var (i := 1) rfl (Or.inr (Or.inr rfl))) (ja_cons je_bl (ja_cons je_bl ja_nil))))) (len_cons (len_cons (len_cons (len_cons (len_cons len_nil))))))
theorem lo3 {k : Nat} (hb : 5 ≤ k) : LamOk g (k + 1) 3 0 ln3 (l3) :=
  { sc := by rw [T.lm3]; exact NdefX.nscope_by (by decide +kernel),
    bnd := by rw [T.lm3]; exact fun cl T0 doc pm cv ct us hl => match us, hl with | [], _ => rfl,
    np := by rw [T.lm3]; rfl,
    body := ⟨k, Nat.le_refl _, by have h := jl3 T hb; show JE (⟨g, ln3, (g.lm 3).scope, k, [], true, []⟩ : Sm.F) (g.lm 3).body _; rw [T.lm3]; exact h⟩ }
theorem j_law_odds_right {k : Nat} (hb0 : 5 ≤ k) : JL (F.of g n_law_odds_right (defScope s_law_odds_right) (k + 2) [(tA g 0, ("_law_odds_right.<locals>.<lambda>" : Str))]) (defBody s_law_odds_right) (b_law_odds_right) := by
  have hb : 5 ≤ k + 2 := Nat.le_trans hb0 (Nat.le_add_right k 2)
  have hb1 : 5 ≤ k + 1 := Nat.le_trans hb0 (Nat.le_add_right k 1)
  exact (jl_cons (js_for (vs := [3]) (ji_any (je_call ((ok_law_odds T).mono (Nat.le_trans (Nat.le_of_ble_eq_true rfl) hb)) rfl T.mg_law_odds (ja_cons (je_var (i := 1) rfl (Or.inr (Or.inl rfl))) ja_nil) (len_cons len_nil))) (jg_name (i := 3) rfl (Or.inr ⟨rfl, by dsimp only [F.of, F.blk]; decide +kernel⟩)) (jl_cons (js_set (i := 2) rfl (Or.inl rfl) (je_newL (ja_cons (je_callL (js := [3]) (ok_law_said T (b := k + 1) (Nat.le_trans (Nat.le_of_ble_eq_true rfl) hb1) TabF.non (TabL.one (lo1 T hb0) TabL.non)) rfl T.mg_law_said (la1 T) (jal_nil (la1 T) (by dsimp only [F.of]; rw [T.lm1]; rfl) (by dsimp only [F.of]; rw [T.lm1]; rfl) (by dsimp only [F.of]; rw [T.lm1]; rfl) (by dsimp only [F.of]; rw [T.lm1]; exact fun _ => rfl)) len_nil (by dsimp only [F.of]; rw [T.lm1]; rfl) (by dsimp only [F.of]; rw [T.lm1]; rfl)) (ja_cons (je_callL (js := [0, 3]) (ok_law_said T (b := k + 1) (Nat.le_trans (Nat.le_of_ble_eq_true rfl) hb1) TabF.non (TabL.one (lo0 T hb0) TabL.non)) rfl T.mg_law_said (la0 T) (jal_nil (la0 T) (by dsimp only [F.of]; rw [T.lm0]; rfl) (by dsimp only [F.of]; rw [T.lm0]; rfl) (by dsimp only [F.of]; rw [T.lm0]; rfl) (by dsimp only [F.of]; rw [T.lm0]; exact fun _ => ⟨_, _, rfl, rfl⟩)) len_nil (by dsimp only [F.of]; rw [T.lm0]; rfl) (by dsimp only [F.of]; rw [T.lm0]; rfl)) ja_nil)) (len_cons (len_cons len_nil)))) (jl_cons (js_set (i := 2) rfl (Or.inl rfl) (je_opF opF_cat (je_var (i := 2) rfl (Or.inl rfl)) (je_lst (ja_cons (je_callL (js := [0, 3]) (ok_law_said T (b := k + 1) (Nat.le_trans (Nat.le_of_ble_eq_true rfl) hb1) TabF.non (TabL.one (lo2 T hb0) TabL.non)) rfl T.mg_law_said (la2 T) (jal_nil (la2 T) (by dsimp only [F.of]; rw [T.lm2]; rfl) (by dsimp only [F.of]; rw [T.lm2]; rfl) (by dsimp only [F.of]; rw [T.lm2]; rfl) (by dsimp only [F.of]; rw [T.lm2]; exact fun _ => rfl)) len_nil (by dsimp only [F.of]; rw [T.lm2]; rfl) (by dsimp only [F.of]; rw [T.lm2]; rfl)) ja_nil) (len_cons len_nil)))) (jl_cons (js_expr (je_meth mtF_append PySem.F.plainAttrs_list PySem.F.slot_list_append PySem.F.type_list_append (je_var (i := 2) rfl (Or.inl rfl)) (ja_cons (je_callL (js := [0, 3, 1]) (ok_law_said T (b := k + 1) (Nat.le_trans (Nat.le_of_ble_eq_true rfl) hb1) TabF.non (TabL.one (lo3 T hb0) TabL.non)) rfl T.mg_law_said (la3 T) (jal_nil (la3 T) (by dsimp only [F.of]; rw [T.lm3]; rfl) (by dsimp only [F.of]; rw [T.lm3]; rfl) (by dsimp only [F.of]; rw [T.lm3]; rfl) (by dsimp only [F.of]; rw [T.lm3]; exact fun _ => rfl)) len_nil (by dsimp only [F.of]; rw [T.lm3]; rfl) (by dsimp only [F.of]; rw [T.lm3]; rfl)) ja_nil))) (jl_one (js_if (jb_w (jw_or (jb_cmpF opF_isNotB (je_call ((ok_is_stand T).mono (Nat.le_trans (Nat.le_of_ble_eq_true rfl) hb)).iso rfl T.mg_is_stand (ja_cons (je_var (i := 3) rfl (Or.inr (Or.inl rfl))) ja_nil) (len_cons len_nil)) je_bl) (jw_or1 (jb_cmpF opF_neX (je_bfn callF_repr rfl T.no_repr rfl (ja_cons (je_var (i := 2) rfl (Or.inl rfl)) ja_nil)) (je_bfn callF_repr rfl T.no_repr rfl (ja_cons (je_opF opF_mulX (je_lst (ja_cons (je_tup (ja_cons je_str (ja_cons (je_var (i := 3) rfl (Or.inr (Or.inl rfl))) ja_nil)) (len_cons (len_cons len_nil))) ja_nil) (len_cons len_nil)) je_int) ja_nil)))))) (jl_one (js_ret je_bl)) jl_nil)))))) (jl_one (js_ret je_bl)))
theorem ok_law_odds_right : CallOk g 8 (g.fa 32) ["_law_book_here", "_law_source"] c_law_odds_right := by
  obtain ⟨fd, h1, h2, h3⟩ := T.fn_law_odds_right
  exact callOk_of (N := n_law_odds_right) h1 sc_law_odds_right h2 (j_law_odds_right T (k := 5) (Nat.le_refl _)) h3
theorem j_law_stands : JL (F.of g n_law_stands (defScope s_law_stands) 1) (defBody s_law_stands) b_law_stands := by
  have hb : 1 ≤ 1 := Nat.le_refl _
  exact (jl_cons (js_set (i := 0) rfl (Or.inl rfl) (je_lst ja_nil len_nil)) (jl_cons (js_for (vs := [1]) (ji_any (je_tup (ja_cons je_str (ja_cons je_str (ja_cons je_str (ja_cons je_str ja_nil)))) (len_cons (len_cons (len_cons (len_cons len_nil)))))) (jg_name (i := 1) rfl (Or.inr ⟨rfl, by dsimp only [F.of, F.blk]; decide +kernel⟩)) (jl_one (js_for (vs := [2]) (ji_any (je_tup (ja_cons je_str (ja_cons je_str (ja_cons je_str (ja_cons je_str (ja_cons je_str (ja_cons je_str (ja_cons je_str (ja_cons je_str ja_nil)))))))) (len_cons (len_cons (len_cons (len_cons (len_cons (len_cons (len_cons (len_cons len_nil)))))))))) (jg_name (i := 2) rfl (Or.inr ⟨rfl, by dsimp only [F.of, F.blk]; decide +kernel⟩)) (jl_one (js_set (i := 0) rfl (Or.inl rfl) (je_opF opF_cat (je_var (i := 0) rfl (Or.inl rfl)) (je_lc (own := [("_law_truth", 3)]) (cl := []) (ji_any (je_tup (ja_cons je_str (ja_cons je_str (ja_cons je_str (ja_cons je_str (ja_cons je_str ja_nil))))) (len_cons (len_cons (len_cons (len_cons (len_cons len_nil))))))) (by dsimp only [F.of, F.blk]; decide +kernel) (by decide +kernel) (jg_name (i := 3) rfl (Or.inl rfl)) jt_nil (je_tup (ja_cons (je_var (i := 1) rfl (Or.inr (Or.inl rfl))) (ja_cons (je_var (i := 2) rfl (Or.inr (Or.inl rfl))) (ja_cons (je_var (i := 3) rfl (Or.inl rfl)) ja_nil))) (len_cons (len_cons (len_cons len_nil))))))))))) (jl_one (js_ret (je_var (i := 0) rfl (Or.inl rfl))))))
theorem ok_law_stands : CallOk g 2 (g.fa 24) [] c_law_stands := by
  obtain ⟨fd, h1, h2⟩ := T.fn_law_stands
  exact callOk_of (N := n_law_stands) h1 sc_law_stands h2 (j_law_stands T)
theorem j_first_in : JL (F.of g n_first_in (defScope s_first_in) 1) (defBody s_first_in) b_first_in := by
  have hb : 1 ≤ 1 := Nat.le_refl _
  exact (jl_cons (js_set (i := 1) rfl (Or.inl rfl) (je_if (jb_val (je_var (i := 0) rfl (Or.inl rfl))) (je_tup (ja_cons (je_gstr rfl T.mc_FILE) (ja_cons (je_gstr rfl T.mc_FOLDER) (ja_cons (je_gstr rfl T.mc_NAMES) ja_nil))) (len_cons (len_cons (len_cons len_nil)))) (je_tup (ja_cons (je_gstr rfl T.mc_FILE) (ja_cons (je_gstr rfl T.mc_FOLDER) ja_nil)) (len_cons (len_cons len_nil))))) (jl_one (js_ret (je_opF opF_cat (je_lc (own := [("below", 2)]) (cl := []) (ji_any (je_var (i := 1) rfl (Or.inl rfl))) (by dsimp only [F.of, F.blk]; decide +kernel) (by decide +kernel) (jg_name (i := 2) rfl (Or.inl rfl)) jt_nil (je_tup (ja_cons (je_var (i := 2) rfl (Or.inl rfl)) (ja_cons (je_gstr rfl T.mc_NONE) (ja_cons (je_gstr rfl T.mc_OWN) ja_nil))) (len_cons (len_cons (len_cons len_nil))))) (je_lst (ja_cons (je_tup (ja_cons (je_gstr rfl T.mc_NONE) (ja_cons (je_gstr rfl T.mc_NONE) (ja_cons (je_gstr rfl T.mc_NONE) ja_nil))) (len_cons (len_cons (len_cons len_nil)))) ja_nil) (len_cons len_nil))))))
theorem ok_first_in : CallOk g 2 (g.fa 7) ["has_names"] c_first_in := by
  obtain ⟨fd, h1, h2⟩ := T.fn_first_in
  exact callOk_of (N := n_first_in) h1 sc_first_in h2 (j_first_in T)
theorem j_first_stands : JL (F.of g n_first_stands (defScope s_first_stands) 2) (defBody s_first_stands) b_first_stands := by
  have hb : 2 ≤ 2 := Nat.le_refl _
  exact (jl_one (js_ret (je_tfn callF_tupOf rfl T.no_tuple rfl (ja_cons (je_bfn callF_sortedX rfl T.no_sorted rfl (ja_cons (je_call ((ok_first_in T).mono (Nat.le_trans (Nat.le_of_ble_eq_true rfl) hb)) rfl T.mg_first_in (ja_cons (je_var (i := 0) rfl (Or.inl rfl)) ja_nil) (len_cons len_nil)) ja_nil)) ja_nil))))
theorem ok_first_stands : CallOk g 3 (g.fa 8) ["has_names"] c_first_stands := by
  obtain ⟨fd, h1, h2⟩ := T.fn_first_stands
  exact callOk_of (N := n_first_stands) h1 sc_first_stands h2 (j_first_stands T)
theorem j_law : JL (F.of g n_law (defScope s_law) 8) (defBody s_law) b_law := by
  have hb : 8 ≤ 8 := Nat.le_refl _
  exact (jl_cons (js_set (i := 1) rfl (Or.inl rfl) (je_call ((ok_law_begun T).mono (Nat.le_trans (Nat.le_of_ble_eq_true rfl) hb)) rfl T.mg_law_begun (ja_cons (je_var (i := 0) rfl (Or.inl rfl)) ja_nil) (len_cons len_nil))) (jl_cons (js_set (i := 2) rfl (Or.inl rfl) (je_call0 ((ok_law_stands T).mono (Nat.le_trans (Nat.le_of_ble_eq_true rfl) hb)).iso rfl T.mg_law_stands)) (jl_cons (js_if (jb_cmpF opF_neX (je_lc (own := [("_law_stand", 3)]) (cl := []) (ji_any (je_var (i := 2) rfl (Or.inl rfl))) (by dsimp only [F.of, F.blk]; decide +kernel) (by decide +kernel) (jg_name (i := 3) rfl (Or.inl rfl)) (jt_one (jb_cmpF opF_isNotB (je_call ((ok_is_stand T).mono (Nat.le_trans (Nat.le_of_ble_eq_true rfl) hb)).iso rfl T.mg_is_stand (ja_cons (je_var (i := 3) rfl (Or.inl rfl)) ja_nil) (len_cons len_nil)) je_bl)) (je_var (i := 3) rfl (Or.inl rfl))) (je_lst ja_nil len_nil)) (jl_one (js_ret je_bl)) jl_nil) (jl_cons (js_for (vs := [3]) (ji_any (je_var (i := 2) rfl (Or.inl rfl))) (jg_name (i := 3) rfl (Or.inl rfl)) (jl_one (js_if (jb_cmpF opF_neX (je_bfn callF_repr rfl T.no_repr rfl (ja_cons (je_call ((ok_is_fault T).mono (Nat.le_trans (Nat.le_of_ble_eq_true rfl) hb)).iso rfl T.mg_is_fault (ja_cons (je_var (i := 3) rfl (Or.inl rfl)) ja_nil) (len_cons len_nil)) ja_nil)) (je_bfn callF_repr rfl T.no_repr rfl (ja_cons (je_call ((ok_law_is_fault T).mono (Nat.le_trans (Nat.le_of_ble_eq_true rfl) hb)).iso rfl T.mg_law_is_fault (ja_cons (je_var (i := 3) rfl (Or.inl rfl)) ja_nil) (len_cons len_nil)) ja_nil))) (jl_one (js_ret je_bl)) jl_nil))) (jl_cons (js_if (jb_cmpF opF_neX (je_lst (ja_cons (je_call ((ok_first_stands T).mono (Nat.le_trans (Nat.le_of_ble_eq_true rfl) hb)).iso rfl T.mg_first_stands (ja_cons je_bl ja_nil) (len_cons len_nil)) (ja_cons (je_call ((ok_first_stands T).mono (Nat.le_trans (Nat.le_of_ble_eq_true rfl) hb)).iso rfl T.mg_first_stands (ja_cons je_bl ja_nil) (len_cons len_nil)) ja_nil)) (len_cons (len_cons len_nil))) (je_lst (ja_cons (je_tfn callF_tupOf rfl T.no_tuple rfl (ja_cons (je_call ((ok_law_first T).mono (Nat.le_trans (Nat.le_of_ble_eq_true rfl) hb)).iso rfl T.mg_law_first (ja_cons je_bl ja_nil) (len_cons len_nil)) ja_nil)) (ja_cons (je_tfn callF_tupOf rfl T.no_tuple rfl (ja_cons (je_call ((ok_law_first T).mono (Nat.le_trans (Nat.le_of_ble_eq_true rfl) hb)).iso rfl T.mg_law_first (ja_cons je_bl ja_nil) (len_cons len_nil)) ja_nil)) ja_nil)) (len_cons (len_cons len_nil)))) (jl_one (js_ret je_bl)) jl_nil) (jl_cons (js_for (vs := [4]) (ji_rng1 rfl T.no_range (ja_cons je_int ja_nil)) (jg_name (i := 4) rfl (Or.inl rfl)) (jl_cons (js_asgF (vs := [5, 6]) (je_tup (ja_cons (je_call ((ok_law_book T).mono (Nat.le_trans (Nat.le_of_ble_eq_true rfl) hb)) rfl T.mg_law_book (ja_cons (je_var (i := 1) rfl (Or.inl rfl)) ja_nil) (len_cons len_nil)) (ja_cons (je_getX (je_var (i := 2) rfl (Or.inl rfl)) (je_call ((ok_law_draw T).mono (Nat.le_trans (Nat.le_of_ble_eq_true rfl) hb)) rfl T.mg_law_draw (ja_cons (je_var (i := 1) rfl (Or.inl rfl)) (ja_cons (je_bfn callF_lenX rfl T.no_len rfl (ja_cons (je_var (i := 2) rfl (Or.inl rfl)) ja_nil)) ja_nil)) (len_cons (len_cons len_nil)))) ja_nil)) (len_cons (len_cons len_nil))) (jg_tup (n := 2) (jgs_cons (jg_name (i := 5) rfl (Or.inr ⟨rfl, by dsimp only [F.of, F.blk]; decide +kernel⟩)) (jgs_cons (jg_name (i := 6) rfl (Or.inl rfl)) jgs_nil))) (fun X h => by unfold swappedStores Env.blockKind Env.kindOf; rw [h]; rfl)) (jl_cons (js_setLc (i := 7) (own := [("_law_stand", 3)]) (cl := []) rfl rfl (ji_any (je_var (i := 2) rfl (Or.inl rfl))) (by dsimp only [F.of, F.blk]; decide +kernel) (by decide +kernel) (jg_name (i := 3) rfl (Or.inl rfl)) (jt_one (jb_not (jb_val (je_call ((ok_law_is_fault T).mono (Nat.le_trans (Nat.le_of_ble_eq_true rfl) hb)).iso rfl T.mg_law_is_fault (ja_cons (je_var (i := 3) rfl (Or.inl rfl)) ja_nil) (len_cons len_nil))))) (je_var (i := 3) rfl (Or.inl rfl)) rfl rfl (by decide +kernel)) (jl_cons (js_set (i := 6) rfl (Or.inl rfl) (je_if (jb_cmpF opF_gt (je_call ((ok_law_draw T).mono (Nat.le_trans (Nat.le_of_ble_eq_true rfl) hb)) rfl T.mg_law_draw (ja_cons (je_var (i := 1) rfl (Or.inl rfl)) (ja_cons je_int ja_nil)) (len_cons (len_cons len_nil))) je_int) (je_getX (je_var (i := 7) rfl (Or.inl rfl)) (je_call ((ok_law_draw T).mono (Nat.le_trans (Nat.le_of_ble_eq_true rfl) hb)) rfl T.mg_law_draw (ja_cons (je_var (i := 1) rfl (Or.inl rfl)) (ja_cons (je_bfn callF_lenX rfl T.no_len rfl (ja_cons (je_var (i := 7) rfl (Or.inl rfl)) ja_nil)) ja_nil)) (len_cons (len_cons len_nil)))) (je_var (i := 6) rfl (Or.inl rfl)))) (jl_cons (js_for (vs := [3]) (ji_any (je_var (i := 2) rfl (Or.inl rfl))) (jg_name (i := 3) rfl (Or.inl rfl)) (jl_cons (js_set (i := 8) rfl (Or.inl rfl) (je_lst (ja_cons (je_call ((ok_behind T).mono (Nat.le_trans (Nat.le_of_ble_eq_true rfl) hb)).iso rfl T.mg_behind (ja_cons (je_var (i := 5) rfl (Or.inr (Or.inl rfl))) (ja_cons (je_var (i := 3) rfl (Or.inl rfl)) ja_nil)) (len_cons (len_cons len_nil))) (ja_cons (je_call ((ok_behind T).mono (Nat.le_trans (Nat.le_of_ble_eq_true rfl) hb)).iso rfl T.mg_behind (ja_cons (je_var (i := 5) rfl (Or.inr (Or.inl rfl))) (ja_cons (je_var (i := 3) rfl (Or.inl rfl)) ja_nil)) (len_cons (len_cons len_nil))) ja_nil)) (len_cons (len_cons len_nil)))) (jl_cons (js_if (jb_cmpF opF_neX (je_bfn callF_repr rfl T.no_repr rfl (ja_cons (je_var (i := 8) rfl (Or.inl rfl)) ja_nil)) (je_bfn callF_repr rfl T.no_repr rfl (ja_cons (je_opF opF_mulX (je_lst (ja_cons (je_tfn callF_tupOf rfl T.no_tuple rfl (ja_cons (je_call ((ok_law_behind T).mono (Nat.le_trans (Nat.le_of_ble_eq_true rfl) hb)).iso rfl T.mg_law_behind (ja_cons (je_var (i := 5) rfl (Or.inr (Or.inl rfl))) (ja_cons (je_var (i := 3) rfl (Or.inl rfl)) ja_nil)) (len_cons (len_cons len_nil))) ja_nil)) ja_nil) (len_cons len_nil)) je_int) ja_nil))) (jl_one (js_ret je_bl)) jl_nil) (jl_one (js_for (vs := [9, 10]) (ji_any (je_tup (ja_cons (je_tup (ja_cons (je_var (i := 6) rfl (Or.inl rfl)) (ja_cons (je_var (i := 3) rfl (Or.inl rfl)) ja_nil)) (len_cons (len_cons len_nil))) (ja_cons (je_tup (ja_cons (je_var (i := 3) rfl (Or.inl rfl)) (ja_cons (je_var (i := 6) rfl (Or.inl rfl)) ja_nil)) (len_cons (len_cons len_nil))) ja_nil)) (len_cons (len_cons len_nil)))) (jg_tup (n := 2) (jgs_cons (jg_name (i := 9) rfl (Or.inl rfl)) (jgs_cons (jg_name (i := 10) rfl (Or.inl rfl)) jgs_nil))) (jl_cons (js_set (i := 11) rfl (Or.inl rfl) (je_call ((ok_law_draw T).mono (Nat.le_trans (Nat.le_of_ble_eq_true rfl) hb)) rfl T.mg_law_draw (ja_cons (je_var (i := 1) rfl (Or.inl rfl)) (ja_cons je_int ja_nil)) (len_cons (len_cons len_nil)))) (jl_cons (js_set (i := 12) rfl (Or.inl rfl) (je_tfn callF_tupOf rfl T.no_tuple rfl (ja_cons (je_bfn callF_sortedX rfl T.no_sorted rfl (ja_cons (je_call ((ok_law_moved T).mono (Nat.le_trans (Nat.le_of_ble_eq_true rfl) hb)).iso rfl T.mg_law_moved (ja_cons (je_var (i := 5) rfl (Or.inr (Or.inl rfl))) (ja_cons (je_var (i := 9) rfl (Or.inl rfl)) (ja_cons (je_var (i := 10) rfl (Or.inl rfl)) (ja_cons (je_cmpF opF_gt (je_var (i := 11) rfl (Or.inl rfl)) je_int) (ja_cons (je_cmpF opF_inT (je_var (i := 11) rfl (Or.inl rfl)) (je_tup (ja_cons je_int (ja_cons je_int ja_nil)) (len_cons (len_cons len_nil)))) ja_nil))))) (len_cons (len_cons (len_cons (len_cons (len_cons len_nil)))))) ja_nil)) ja_nil))) (jl_one (js_if (jb_cmpF opF_neX (je_bfn callF_repr rfl T.no_repr rfl (ja_cons (je_call ((ok_moved T).mono (Nat.le_trans (Nat.le_of_ble_eq_true rfl) hb)).iso rfl T.mg_moved (ja_cons (je_var (i := 5) rfl (Or.inr (Or.inl rfl))) (ja_cons (je_var (i := 9) rfl (Or.inl rfl)) (ja_cons (je_var (i := 10) rfl (Or.inl rfl)) (ja_cons (je_cmpF opF_gt (je_var (i := 11) rfl (Or.inl rfl)) je_int) (ja_cons (je_cmpF opF_inT (je_var (i := 11) rfl (Or.inl rfl)) (je_tup (ja_cons je_int (ja_cons je_int ja_nil)) (len_cons (len_cons len_nil)))) ja_nil))))) (len_cons (len_cons (len_cons (len_cons (len_cons len_nil)))))) ja_nil)) (je_bfn callF_repr rfl T.no_repr rfl (ja_cons (je_var (i := 12) rfl (Or.inl rfl)) ja_nil))) (jl_one (js_ret je_bl)) jl_nil))))))))) (jl_one (js_if (jb_not (jb_val (je_call ((ok_law_odds_right T).mono (Nat.le_trans (Nat.le_of_ble_eq_true rfl) hb)).iso rfl T.mg_law_odds_right (ja_cons (je_var (i := 5) rfl (Or.inr (Or.inl rfl))) (ja_cons (je_var (i := 6) rfl (Or.inl rfl)) ja_nil)) (len_cons (len_cons len_nil))))) (jl_one (js_ret je_bl)) jl_nil))))))) (jl_cons (js_asgF (vs := [5, 13]) (je_tup (ja_cons (je_tup (ja_cons je_str (ja_cons je_str (ja_cons je_str (ja_cons je_str (ja_cons je_str (ja_cons je_str ja_nil)))))) (len_cons (len_cons (len_cons (len_cons (len_cons (len_cons len_nil))))))) (ja_cons (je_tup (ja_cons je_str (ja_cons je_str (ja_cons je_str ja_nil))) (len_cons (len_cons (len_cons len_nil)))) ja_nil)) (len_cons (len_cons len_nil))) (jg_tup (n := 2) (jgs_cons (jg_name (i := 5) rfl (Or.inr ⟨rfl, by dsimp only [F.of, F.blk]; decide +kernel⟩)) (jgs_cons (jg_name (i := 13) rfl (Or.inr ⟨rfl, by dsimp only [F.of, F.blk]; decide +kernel⟩)) jgs_nil))) (fun X h => by unfold swappedStores Env.blockKind Env.kindOf; rw [h]; rfl)) (jl_cons (js_setLc (i := 8) (own := [("_law_way", 11)]) (cl := []) rfl rfl (ji_any (je_tup (ja_cons je_bl (ja_cons je_bl ja_nil)) (len_cons (len_cons len_nil)))) (by dsimp only [F.of, F.blk]; decide +kernel) (by decide +kernel) (jg_name (i := 11) rfl (Or.inl rfl)) jt_nil (je_call ((ok_moved T).mono (Nat.le_trans (Nat.le_of_ble_eq_true rfl) hb)).iso rfl T.mg_moved (ja_cons (je_var (i := 5) rfl (Or.inr (Or.inl rfl))) (ja_cons (je_tup (ja_cons je_str (ja_cons je_str (ja_cons je_str ja_nil))) (len_cons (len_cons (len_cons len_nil)))) (ja_cons (je_var (i := 13) rfl (Or.inr (Or.inl rfl))) (ja_cons (je_var (i := 11) rfl (Or.inl rfl)) (ja_cons je_bl ja_nil))))) (len_cons (len_cons (len_cons (len_cons (len_cons len_nil)))))) rfl rfl (by decide +kernel)) (jl_cons (js_if (jb_cmpF opF_neX (je_var (i := 8) rfl (Or.inl rfl)) (je_lst (ja_cons (je_tup (ja_cons (je_tup (ja_cons je_str (ja_cons je_str (ja_cons je_str ja_nil))) (len_cons (len_cons (len_cons len_nil)))) ja_nil) (len_cons len_nil)) (ja_cons (je_tup (ja_cons (je_tup (ja_cons je_str (ja_cons je_str (ja_cons je_str ja_nil))) (len_cons (len_cons (len_cons len_nil)))) ja_nil) (len_cons len_nil)) ja_nil)) (len_cons (len_cons len_nil)))) (jl_one (js_ret je_bl)) jl_nil) (jl_cons (js_set (i := 8) rfl (Or.inl rfl) (je_lst (ja_cons (je_call ((ok_behind T).mono (Nat.le_trans (Nat.le_of_ble_eq_true rfl) hb)).iso rfl T.mg_behind (ja_cons (je_var (i := 5) rfl (Or.inr (Or.inl rfl))) (ja_cons (je_tup (ja_cons je_str (ja_cons je_str (ja_cons je_str ja_nil))) (len_cons (len_cons (len_cons len_nil)))) ja_nil)) (len_cons (len_cons len_nil))) (ja_cons (je_call ((ok_behind T).mono (Nat.le_trans (Nat.le_of_ble_eq_true rfl) hb)).iso rfl T.mg_behind (ja_cons (je_var (i := 5) rfl (Or.inr (Or.inl rfl))) (ja_cons (je_tup (ja_cons je_str (ja_cons je_str (ja_cons je_str ja_nil))) (len_cons (len_cons (len_cons len_nil)))) ja_nil)) (len_cons (len_cons len_nil))) ja_nil)) (len_cons (len_cons len_nil)))) (jl_cons (js_set (i := 12) rfl (Or.inl rfl) (je_tup (ja_cons (je_tup (ja_cons je_str (ja_cons je_str (ja_cons je_str ja_nil))) (len_cons (len_cons (len_cons len_nil)))) (ja_cons (je_tup (ja_cons je_str (ja_cons je_str (ja_cons je_str ja_nil))) (len_cons (len_cons (len_cons len_nil)))) ja_nil)) (len_cons (len_cons len_nil)))) (jl_one (js_ret (je_cmpF opF_eqX (je_var (i := 8) rfl (Or.inl rfl)) (je_lst (ja_cons (je_tup (ja_cons (je_tup (ja_cons je_str (ja_cons je_str (ja_cons je_str ja_nil))) (len_cons (len_cons (len_cons len_nil)))) (ja_cons (je_tup (ja_cons je_str (ja_cons je_str (ja_cons je_str ja_nil))) (len_cons (len_cons (len_cons len_nil)))) ja_nil)) (len_cons (len_cons len_nil))) (ja_cons (je_var (i := 12) rfl (Or.inl rfl)) ja_nil)) (len_cons (len_cons len_nil)))))))))))))))))
end
end Sm
section
set_option autoImplicit false
namespace St
/-- a book: the places of its six words -/
structure Bk where
  s : Nat
  m : Nat
  a : Nat
  v : Nat
  g : Nat
  w : Nat
noncomputable abbrev st (b e t : Nat) : Nat := b * 40 + e * 5 + t
noncomputable def bel (n : Nat) : Nat := n / 40
noncomputable def ent (n : Nat) : Nat := n / 5 % 8
noncomputable def tru (n : Nat) : Nat := n % 5
/-- below: 0 file 1 folder 2 names 3 none; entry: 0 apart 1 bare 2 file 3 gone 4 joins 5 led 6 none 7 off; truth: 0 file 1 made 2 none 3 other 4 own -/
noncomputable def faultBy (b e t : Nat) : Bool := match e with
  | 1 => !Nat.beq t 1
  | 2 => !(Nat.beq t 0 || (Nat.beq t 4 && (Nat.beq b 0 || Nat.beq b 2)))
  | 3 => !Nat.beq t 2
  | 4 => !Nat.beq t (cond (Nat.beq b 1) 4 1)
  | 5 => !(Nat.beq t 3 || (Nat.beq t 4 && Nat.beq b 1))
  | 6 => !Nat.beq t (cond (Nat.beq b 3) 2 4)
  | _ => true
noncomputable def fault (n : Nat) : Bool := faultBy (bel n) (ent n) (tru n)
noncomputable def isDir (n : Nat) : Bool := Nat.beq (tru n) 1 || Nat.beq (tru n) 3 || (Nat.beq (tru n) 4 && Nat.beq (bel n) 1)
/-- the entry of the raised stand -/
noncomputable def upE (k : Bk) (n : Nat) : Nat := cond (Nat.beq (ent n) 6) (cond (Nat.beq (bel n) 1) 4 (cond (Nat.beq (bel n) 2 && Nat.beq k.w 1) 0 2)) (ent n)
noncomputable def up (k : Bk) (n : Nat) : Nat := st (bel n) (upE k n) (tru n)
noncomputable def keeps (k : Bk) (n : Nat) : Bool := Nat.beq k.s 0 || (Nat.beq k.s 1 && !Nat.beq (bel n) 3) || (Nat.beq k.s 2 && Nat.beq (ent n) 6)
noncomputable def behind (k : Bk) (n : Nat) : List Nat := match Nat.beq (tru n) 2 with
  | true => [st (bel n) 2 0, st (bel n) (cond (Nat.beq k.m 0 || (Nat.beq k.m 1 && Nat.beq (ent n) 3)) 1 4) 1]
  | false => [up k n, st (bel n) (cond (keeps k n) 3 6) 2]
/-- the entry of a folder of the tree that is moved -/
noncomputable def mark (k : Bk) (n : Nat) (same home : Bool) : Nat :=
  let e := upE k n
  let free := Nat.beq k.g 1 || !Nat.beq e 5
  match (Nat.beq k.v 3 && !same) || (Nat.beq k.v 4 && free) with
  | true => 1
  | false => match free with
    | false => cond (!Nat.beq k.v 2 || same) 5 7
    | true => match k.v with
      | 0 => 5
      | 5 => e
      | 1 => cond (home && Nat.beq (tru n) 4) 5 7
      | _ => cond (same && Nat.beq (tru n) 4) 5 7
/-- what comes at a place, below it b, of what is at n -/
noncomputable def moved (k : Bk) (n b : Nat) (same home : Bool) : List Nat := match isDir n with
  | false => st b 2 0 :: cond (Nat.beq b 0 || Nat.beq b 2) [st b 2 4] []
  | true => match Nat.beq (tru n) 1 with
    | true => [st b (cond (Nat.beq k.a 0) 1 (ent n)) 1]
    | false => match mark k n same home with
      | 1 => [st b 1 1]
      | e => st b e 3 :: cond (Nat.beq b 1 && Nat.beq (tru n) 3) [st b e 4] []
noncomputable def canMove (s t : Nat) : Bool := !Nat.beq (tru s) 2 && Nat.beq (tru t) 2 && !fault s && !fault t
noncomputable def free (t : Nat) : Bool := Nat.beq (tru t) 2
noncomputable def first (has : Bool) : List Nat := cond has [34, 74, 114, 152] [34, 74, 152]
noncomputable def wy1 (i : Nat) : Bool := Nat.blt 1 i
noncomputable def wy2 (i : Nat) : Bool := Nat.beq i 1 || Nat.beq i 3
noncomputable def ord2 : List Nat → List Nat
  | [a, b] => match Nat.blt a b with
    | true => [a, b]
    | false => match Nat.beq a b with
      | true => [a]
      | false => [b, a]
  | l => l
theorem ord2_mem {l : List Nat} {x : Nat} : x ∈ ord2 l ↔ x ∈ l := by
  unfold ord2
  split
  · split
    · rfl
    · split
      · rename_i h
        have := Nat.eq_of_beq_eq_true h
        subst this
        simp
      · simp [or_comm]
  · rfl
/-- the places of a book's words are such -/
noncomputable def Bk.ok (k : Bk) : Prop := k.s < 4 ∧ k.m < 3 ∧ k.a < 2 ∧ k.v < 6 ∧ k.g < 2 ∧ k.w < 2
noncomputable def allN (n : Nat) (p : Nat → Bool) : Bool := Nat.rec true (fun i r => p i && r) n
theorem allN_iff {p : Nat → Bool} : ∀ {n : Nat}, allN n p = true ↔ ∀ i, i < n → p i = true
  | 0 => ⟨fun _ i h => absurd h (Nat.not_lt_zero i), fun _ => rfl⟩
  | n + 1 => by
    show (p n && allN n p) = true ↔ _
    rw [Bool.and_eq_true, allN_iff (n := n)]
    exact ⟨fun ⟨a, b⟩ i h => (Nat.lt_succ_iff_lt_or_eq.mp h).elim (b i) (fun e => e ▸ a), fun h => ⟨h n (Nat.lt_succ_self n), fun i hi => h i (Nat.lt_succ_of_lt hi)⟩⟩
theorem get_all {n : Nat} {p : Nat → Bool} (h : allN n p = true) {i : Nat} (hi : i < n) : p i = true := allN_iff.mp h i hi
noncomputable def hasN (l : List Nat) (x : Nat) : Bool := match l with
  | [] => false
  | y :: r => Nat.beq x y || hasN r x
theorem hasN_iff {x : Nat} : ∀ {l : List Nat}, hasN l x = true ↔ x ∈ l
  | [] => by simp [hasN]
  | y :: r => by
    unfold hasN
    rw [Bool.or_eq_true, Nat.beq_eq, hasN_iff (l := r), List.mem_cons]
/-- all stands that come of others, or are there at first -/
noncomputable def RL : List Nat := [6, 10, 14, 17, 21, 23, 28, 32, 34, 38, 46, 50, 57, 61, 63, 64, 68, 69, 72, 74, 78, 79, 84, 86, 90, 94, 97, 101, 103, 108, 112, 114, 118, 126, 130, 137, 141, 143, 148, 152, 158]
theorem RL_lt : ∀ x ∈ RL, x < 160 := by decide
theorem behind_chk : allN 160 (fun n => fault n || allN 4 fun s => allN 3 fun m => allN 2 fun w => (behind ⟨s, m, 0, 0, 0, w⟩ n).all fun x => Nat.beq x n || hasN RL x) = true := by decide +kernel
theorem moved_chk : allN 160 (fun n => fault n || Nat.beq (tru n) 2 || allN 4 fun b => allN 4 fun i => allN 2 fun a => allN 6 fun v => allN 2 fun g => allN 2 fun w => (moved ⟨0, 0, a, v, g, w⟩ n b (wy1 i) (wy2 i)).all fun x => hasN RL x) = true := by decide +kernel
theorem behind_RL {k : Bk} (hk : Bk.ok k) {n x : Nat} (hn : n < 160) (hf : fault n = false) (h : x ∈ behind k n) : x = n ∨ x ∈ RL := by
  obtain ⟨h1, h2, h3, h4, h5, h6⟩ := hk
  have c := get_all behind_chk hn
  rw [hf, Bool.false_or] at c
  have c := List.all_eq_true.mp (get_all (get_all (get_all c h1) h2) h6) x h
  rw [Bool.or_eq_true, Nat.beq_eq, hasN_iff] at c
  exact c
theorem moved_RL {k : Bk} (hk : Bk.ok k) {n b i x : Nat} (hn : n < 160) (hf : fault n = false) (ht : tru n ≠ 2) (hb : b < 4) (hi : i < 4) (h : x ∈ moved k n b (wy1 i) (wy2 i)) : x ∈ RL := by
  obtain ⟨h1, h2, h3, h4, h5, h6⟩ := hk
  have c := get_all moved_chk hn
  have e : Nat.beq (tru n) 2 = false := by
    cases hq : Nat.beq (tru n) 2 with
    | false => rfl
    | true => exact absurd (Nat.eq_of_beq_eq_true hq) ht
  rw [hf, e, Bool.false_or, Bool.false_or] at c
  exact hasN_iff.mp (List.all_eq_true.mp (get_all (get_all (get_all (get_all (get_all (get_all c hb) hi) h3) h4) h5) h6) x h)
theorem bel_lt {n : Nat} (h : n < 160) : bel n < 4 := by unfold bel; omega
theorem canMove_iff {s t : Nat} : canMove s t = true ↔ tru s ≠ 2 ∧ tru t = 2 ∧ fault s = false ∧ fault t = false := by
  unfold canMove
  rw [Bool.and_eq_true, Bool.and_eq_true, Bool.and_eq_true, Bool.not_eq_true', Bool.not_eq_true', Bool.not_eq_true', Nat.beq_eq]
  have : Nat.beq (tru s) 2 = false ↔ tru s ≠ 2 := by
    rw [← Bool.not_eq_true, Nat.beq_eq]
  rw [this]
  exact ⟨fun ⟨⟨⟨a, b⟩, c⟩, d⟩ => ⟨a, b, c, d⟩, fun ⟨a, b, c, d⟩ => ⟨⟨⟨a, b⟩, c⟩, d⟩⟩
/-- what comes of some stands -/
noncomputable def InCome (k : Bk) (T : List Nat) (x : Nat) : Prop := (∃ s ∈ T, fault s = false ∧ x ∈ behind k s) ∨ ∃ s ∈ T, ∃ t ∈ T, canMove s t = true ∧ ∃ i, i < 4 ∧ x ∈ moved k s (bel t) (wy1 i) (wy2 i)
theorem InCome.mono {k : Bk} {T U : List Nat} {x : Nat} (h : ∀ y ∈ T, y ∈ U) : InCome k T x → InCome k U x
  | .inl ⟨s, a, b⟩ => .inl ⟨s, h s a, b⟩
  | .inr ⟨s, a, t, b, c⟩ => .inr ⟨s, h s a, t, h t b, c⟩
/-- the list of it, as the law makes it -/
noncomputable def lb (k : Bk) (n : Nat) : List Nat := cond (fault n) [] (ord2 (behind k n))
noncomputable def lm (k : Bk) (n t i : Nat) : List Nat := cond (canMove n t) (moved k n (bel t) (wy1 i) (wy2 i)) []
noncomputable def comeS (k : Bk) (T : List Nat) (n : Nat) : List Nat := lb k n ++ (T.filter free).flatMap fun t => [0, 1, 2, 3].flatMap (lm k n t)
noncomputable def comeL (k : Bk) (T : List Nat) : List Nat := T.flatMap (comeS k T)
/-- .. ascending, each once -/
noncomputable def canon (l : List Nat) : List Nat := (List.range 160).filter (hasN l)
theorem canon_mem {l : List Nat} (h : ∀ x ∈ l, x < 160) {x : Nat} : x ∈ canon l ↔ x ∈ l := by
  unfold canon
  rw [List.mem_filter, List.mem_range, hasN_iff]
  exact ⟨fun a => a.2, fun a => ⟨h x a, a⟩⟩
theorem canon_lt {l : List Nat} {x : Nat} (h : x ∈ canon l) : x < 160 := by
  unfold canon at h
  exact List.mem_range.mp (List.mem_filter.mp h).1
theorem canon_sorted {l : List Nat} : (canon l).Pairwise (· < ·) := List.Pairwise.filter _ List.pairwise_lt_range
theorem canon_nodup {l : List Nat} : (canon l).Nodup := canon_sorted.imp fun h => Nat.ne_of_lt h
/-- what is new -/
noncomputable def fresh (k : Bk) (T : List Nat) : List Nat := (canon (comeL k T)).filter fun x => !hasN T x
noncomputable def run (k : Bk) : Nat → List Nat → List Nat
  | 0, T => T
  | n + 1, T => match fresh k T with
    | [] => T
    | f => run k n (T ++ f)
noncomputable def InR (T : List Nat) : Prop := T.Nodup ∧ ∀ x ∈ T, x ∈ RL
theorem InR.lt {T : List Nat} (h : InR T) {x : Nat} (hx : x ∈ T) : x < 160 := RL_lt x (h.2 x hx)
theorem InR.len {T : List Nat} (h : InR T) : T.length ≤ 41 := Sm.nodup_fits h.1 h.2
/-- closed, and in all that are closed and have T -/
structure Least (k : Bk) (T U : List Nat) : Prop where
  inr : InR U
  has : ∀ x ∈ T, x ∈ U
  closed : ∀ x, InCome k U x → x ∈ U
  least : ∀ C : List Nat, (∀ x ∈ T, x ∈ C) → (∀ x, InCome k C x → x ∈ C) → ∀ x ∈ U, x ∈ C
theorem Least.canon {k : Bk} {T U : List Nat} (h : Least k T U) : Least k T (canon U) := by
  have m : ∀ x, x ∈ St.canon U ↔ x ∈ U := fun x => canon_mem (fun y hy => h.inr.lt hy)
  exact ⟨⟨canon_nodup, fun x hx => h.inr.2 x ((m x).mp hx)⟩, fun x hx => (m x).mpr (h.has x hx), fun x hx => (m x).mpr (h.closed x (hx.mono fun y hy => (m y).mp hy)), fun C a b x hx => h.least C a b x ((m x).mp hx)⟩
end St
end
section
set_option autoImplicit false
namespace Sm
open PySem PySem.Spec PyProof.Rows L2
open St
noncomputable def bW : Nat → Str
  | 0 => "file" | 1 => "folder" | 2 => "names" | _ => "none"
noncomputable def eW : Nat → Str
  | 0 => "apart" | 1 => "bare" | 2 => "file" | 3 => "gone" | 4 => "joins" | 5 => "led" | 6 => "none" | _ => "off"
noncomputable def tW : Nat → Str
  | 0 => "file" | 1 => "made" | 2 => "none" | 3 => "other" | _ => "own"
noncomputable def sD (n : Nat) : D := .tup [.str (bW (bel n)), .str (eW (ent n)), .str (tW (tru n))]
noncomputable def w0 : Nat → Str
  | 0 => "always" | 1 => "below" | 2 => "shown" | _ => "never"
noncomputable def w1 : Nat → Str
  | 0 => "bare" | 1 => "over" | _ => "joins"
noncomputable def w2 : Nat → Str
  | 0 => "bare" | _ => "keep"
noncomputable def w3 : Nat → Str
  | 0 => "path" | 1 => "seen" | 2 => "name" | 3 => "near" | 4 => "copy" | _ => "keep"
noncomputable def w4 : Nat → Str
  | 0 => "kept" | _ => "anew"
noncomputable def w5 : Nat → Str
  | 0 => "index" | _ => "copy"
noncomputable def kD (k : Bk) : D := .tup [.str (w0 k.s), .str (w1 k.m), .str (w2 k.a), .str (w3 k.v), .str (w4 k.g), .str (w5 k.w)]
noncomputable abbrev lS (l : List Nat) : D := .lst (l.map sD)
noncomputable def sK (n : Nat) : List Key := [.inr (bW (bel n)), .inr (eW (ent n)), .inr (tW (tru n))]
noncomputable def sP (n : Nat) : PyData := .tuple [.str (bW (bel n)), .str (eW (ent n)), .str (tW (tru n))]
theorem sD_key (n : Nat) : toKeyT (sD n) = some (sK n) := rfl
theorem sK_py (n : Nat) : keysPy (sK n) = sP n := rfl
theorem sP_of (n : Nat) : ofPy (sP n) = sD n := rfl
theorem sD_py (A : HA) (n : Nat) : toPy A 32 (sD n) = some (sP n) := rfl
theorem sP_alike (m n : Nat) : W.alike (sP m) (sP n) = true := rfl
theorem sP_next : allN 159 (fun n => pltB (sP n) (sP (n + 1))) = true := by decide +kernel
theorem sP_lt {m n : Nat} (h : m < n) (hn : n < 160) : pltB (sP m) (sP n) = true := by
  obtain ⟨d, rfl⟩ : ∃ d, n = m + 1 + d := ⟨n - m - 1, by omega⟩
  clear h
  induction d with
  | zero => exact get_all sP_next (by omega)
  | succ d ih => exact plt_trans _ _ _ (ih (by omega)) (get_all sP_next (by omega))
theorem plt_irr (a : PyData) : pltB a a = false := lex_irrefl (O := itemOrd) _
theorem sP_inj {m n : Nat} (hm : m < 160) (hn : n < 160) (h : sP m = sP n) : m = n := by
  rcases Nat.lt_trichotomy m n with c | c | c
  · have := sP_lt c hn
    rw [h, plt_irr] at this
    cases this
  · exact c
  · have := sP_lt c hm
    rw [h, plt_irr] at this
    cases this
theorem sK_inj {m n : Nat} (hm : m < 160) (hn : n < 160) (h : sK m = sK n) : m = n := sP_inj hm hn (by rw [← sK_py, ← sK_py, h])
theorem map_P (l : List Nat) : (l.map sK).map keysPy = l.map sP := by rw [List.map_map]; rfl
theorem ofPys_map (l : List Nat) : ofPys (l.map sP) = l.map sD := by
  induction l with
  | nil => rfl
  | cons x r ih => show ofPy (sP x) :: ofPys (r.map sP) = _; rw [ih, sP_of]; rfl
/-- one order for what rises -/
theorem insB_pwP {lt : PyData → PyData → Bool} (asym : ∀ a b, lt a b = true → lt b a = false) (neg : ∀ a b c, lt c a = true → lt c b = true ∨ lt b a = true) : ∀ {x : PyData} {l : List PyData}, l.Pairwise (fun a b => lt b a = false) → (insB lt x l).Pairwise (fun a b => lt b a = false)
  | x, [], _ => by simp [insB]
  | x, y :: r, h => by
    obtain ⟨h1, h2⟩ := List.pairwise_cons.mp h
    unfold insB
    split
    · rename_i hk
      refine List.pairwise_cons.mpr ⟨fun z hz => ?_, insB_pwP asym neg h2⟩
      rcases List.mem_cons.mp (insB_perm.mem_iff.mp hz) with rfl | hz
      · exact asym _ _ hk
      · exact h1 z hz
    · rename_i hk
      have hk : lt y x = false := by simpa using hk
      refine List.pairwise_cons.mpr ⟨fun z hz => ?_, h⟩
      rcases List.mem_cons.mp hz with rfl | hz
      · exact hk
      · cases hq : lt z x with
        | false => rfl
        | true =>
          rcases neg x y z hq with q | q
          · rw [h1 z hz] at q; cases q
          · rw [hk] at q; cases q
theorem plt_asym (a b : PyData) (h : pltB a b = true) : pltB b a = false := by
  cases h2 : pltB b a with
  | false => rfl
  | true =>
    have := plt_trans _ _ _ h h2
    rw [plt_irr] at this
    cases this
theorem plt_neg (a b c : PyData) (h : pltB c a = true) : pltB c b = true ∨ pltB b a = true := lex_negTrans (O := itemOrd) _ (W.keyToks b) _ h
theorem sortP_pw : ∀ l : List PyData, (sortB pltB l).Pairwise (fun a b => pltB b a = false)
  | [] => .nil
  | x :: r => insB_pwP plt_asym plt_neg (sortP_pw r)
theorem rise_pw {l : List Nat} (h : l.Pairwise (· < ·)) (hl : ∀ x ∈ l, x < 160) : (l.map sP).Pairwise (fun a b => pltB a b = true) := by
  rw [List.pairwise_map]
  exact h.imp_of_mem fun {a b} _ hb hab => sP_lt hab (hl b hb)
theorem rise_chain : ∀ {l : List Nat}, l.Pairwise (· < ·) → (∀ x ∈ l, x < 160) → chainB pltB (l.map sP) = true
  | [], _, _ => rfl
  | [x], _, _ => rfl
  | x :: y :: r, h, hl => by
    obtain ⟨h1, h2⟩ := List.pairwise_cons.mp h
    show (pltB (sP x) (sP y) && chainB pltB ((y :: r).map sP)) = true
    rw [sP_lt (h1 y (by simp)) (hl y (by simp)), rise_chain h2 fun z hz => hl z (List.mem_cons_of_mem _ hz)]
    rfl
/-- sorting what is some rising list in another order -/
theorem sort_rise {ps : List PyData} {l : List Nat} (p : ps.Perm (l.map sP)) (h : l.Pairwise (· < ·)) (hl : ∀ x ∈ l, x < 160) : sortB pltB ps = l.map sP :=
  sort_uniq (lt := pltB) (sortB_perm.trans p) (sortP_pw ps) (rise_pw h hl)
theorem alike_all (l : List Nat) {ps : List PyData} (h : ∀ p ∈ ps, ∃ n, p = sP n) : alikeB ps = true := by
  unfold alikeB
  refine List.all_eq_true.mpr fun x hx => List.all_eq_true.mpr fun y hy => ?_
  obtain ⟨m, rfl⟩ := h x hx
  obtain ⟨n, rfl⟩ := h y hy
  exact sP_alike m n
theorem sortable_all {ps : List PyData} (h : ∀ p ∈ ps, ∃ n, p = sP n) : sortableB ps = true := by
  unfold sortableB
  rw [Bool.or_eq_true]
  refine .inl (List.all_eq_true.mpr fun x hx => ?_)
  obtain ⟨m, rfl⟩ := h x hx
  rfl
theorem mem_sP {l : List Nat} {p : PyData} (h : p ∈ l.map sP) : ∃ n, p = sP n := by
  obtain ⟨n, _, rfl⟩ := List.mem_map.mp h
  exact ⟨n, rfl⟩
theorem optL_K : ∀ l : List Nat, optL toKeyT (l.map sD) = some (l.map sK)
  | [] => rfl
  | x :: r => by
    rw [List.map_cons]
    unfold optL
    rw [optL_K r, sD_key]
    rfl
theorem optA_P (A : HA) : ∀ l : List Nat, optAll (toPy A 32) (l.map sD) = some (l.map sP)
  | [] => rfl
  | x :: r => by
    rw [List.map_cons]
    unfold optAll
    rw [optA_P A r, sD_py]
    rfl
theorem nodup_map {α β : Type} {f : α → β} : ∀ {l : List α}, l.Nodup → (∀ x ∈ l, ∀ y ∈ l, f x = f y → x = y) → (l.map f).Nodup
  | [], _, _ => .nil
  | x :: r, h, i => by
    obtain ⟨h1, h2⟩ := List.nodup_cons.mp h
    refine List.nodup_cons.mpr ⟨fun hm => ?_, nodup_map h2 fun a ha b hb => i a (List.mem_cons_of_mem _ ha) b (List.mem_cons_of_mem _ hb)⟩
    obtain ⟨y, hy, e⟩ := List.mem_map.mp hm
    have := i y (List.mem_cons_of_mem _ hy) x List.mem_cons_self e
    exact h1 (this ▸ hy)
/-- sorted(set(stands)) -/
theorem sortAll_st {ca : CA} {E : SA} {A A1 : HA} {l : List Nat} (h : ca E A = .ok [lS l] A1) (hl : ∀ x ∈ l, x < 160) (hz : l.length < 100000) (hc : (canon l).length < 63) : cSortAll ca E A = .ok (lS (canon l)) A1 := by
  have hset : cSetT ca E A = .ok (setK (l.map sK)) A1 := by
    unfold cSetT
    rw [h]
    show (match (listOf A1 (lS l)).bind (optL toKeyT) with
      | some ns => if ns.length < 100000 ∧ (setK ns).length < 63 then R.ok (setK ns) A1 else .no
      | none => .no) = _
    rw [show (listOf A1 (lS l)).bind (optL toKeyT) = some (l.map sK) from optL_K l]
    refine if_pos ⟨by simpa using hz, ?_⟩
    have : (setK (l.map sK)).length ≤ (canon l).length := by
      have q := nodup_fits (l := setK (l.map sK)) (m := (canon l).map sK) setK_nodup fun k hk => by
        obtain ⟨n, hn, rfl⟩ := List.mem_map.mp (setK_mem.mp hk)
        exact List.mem_map_of_mem ((canon_mem hl).mpr hn)
      rwa [List.length_map] at q
    omega
  have hp : ((setK (l.map sK)).map keysPy).Perm ((canon l).map sP) := by
    rw [← map_P]
    refine List.Perm.map _ ?_
    refine (perm_of_in (l := setK (l.map sK)) setK_nodup (fun k hk => ?_) ?_).symm
    · obtain ⟨n, hn, rfl⟩ := List.mem_map.mp (setK_mem.mp hk)
      exact List.mem_map_of_mem ((canon_mem hl).mpr hn)
    · refine Nat.le_antisymm (nodup_fits setK_nodup fun k hk => ?_) (nodup_fits (nodup_map canon_nodup fun x hx y hy => sK_inj (canon_lt hx) (canon_lt hy)) fun k hk => ?_)
      · obtain ⟨n, hn, rfl⟩ := List.mem_map.mp (setK_mem.mp hk)
        exact List.mem_map_of_mem ((canon_mem hl).mpr hn)
      · obtain ⟨n, hn, rfl⟩ := List.mem_map.mp hk
        exact setK_mem.mpr (List.mem_map_of_mem ((canon_mem hl).mp hn))
  have hT : cSortT (cSetT ca) E A = .ok (lS (canon l)) A1 := by
    unfold cSortT
    rw [hset]
    have e := sort_rise hp canon_sorted fun x hx => canon_lt hx
    have hm : ∀ p ∈ (setK (l.map sK)).map keysPy, ∃ n, p = sP n := fun p hq => mem_sP (hp.mem_iff.mp hq)
    show (if (setK (l.map sK)).length < 63 ∧ alikeB ((setK (l.map sK)).map keysPy) = true ∧ sortableB ((setK (l.map sK)).map keysPy) = true ∧ chainB pltB (sortB pltB ((setK (l.map sK)).map keysPy)) = true then R.ok (D.lst (ofPys (sortB pltB ((setK (l.map sK)).map keysPy)))) A1 else .no) = _
    rw [e, if_pos ⟨by have := hp.length_eq; rw [List.length_map, List.length_map] at this; omega, alike_all l hm, sortable_all hm, rise_chain canon_sorted fun x hx => canon_lt hx⟩, ofPys_map]
  cases l with
  | nil =>
    unfold cSortAll cSortIS cSortS cSetS
    rw [h]
    rfl
  | cons x r =>
    have hno : cSortIS ca E A = .no := by
      unfold cSortIS cSortS cSetS
      rw [h]
      unfold cSortI cSetI
      rw [h]
      rfl
    unfold cSortAll
    rw [hno]
    exact hT
/-- sorted(list of stands) -/
theorem sortX_st {A : HA} {l m : List Nat} (hp : l.Perm m) (hm : m.Pairwise (· < ·)) (hl : ∀ x ∈ m, x < 160) (hz : m.length < 200) : pSortedX [lS l] A = .ok (lS m) A := by
  have hq : (l.map sP).Perm (m.map sP) := hp.map _
  have e := sort_rise hq hm hl
  have hs : sortPs A (l.map sD) = some (m.map sP) := by
    unfold sortPs
    rw [optA_P]
    show (if (l.map sP).length ≤ sizeLine ∧ noLstAll (l.map sP) = true ∧ alikeB (l.map sP) = true ∧ sortableB (l.map sP) = true ∧ chainB pltB (sortB pltB (l.map sP)) = true then some (sortB pltB (l.map sP)) else none) = _
    rw [e]
    refine if_pos ⟨by rw [hq.length_eq, List.length_map, sizeLine_eq]; omega, ?_, alike_all l fun p h => mem_sP h, sortable_all fun p h => mem_sP h, rise_chain hm hl⟩
    clear e hq hp
    induction l with
    | nil => rfl
    | cons x r ih => show (noLst (sP x) && noLstAll (r.map sP)) = true; rw [ih]; rfl
  have h1 : pSortedX [lS l] A = pSorted [lS l] A := rfl
  rw [h1]
  unfold pSorted
  show (match sortPs A (l.map sD) with
    | some qs => R.ok (D.lst (ofPys qs)) A
    | none => .no) = _
  rw [hs]
  show R.ok (D.lst (ofPys (m.map sP))) A = _
  rw [ofPys_map]
theorem optA_P' (A : HA) (k : Nat) : ∀ l : List Nat, optAll (toPy A (k + 2)) (l.map sD) = some (l.map sP)
  | [] => rfl
  | x :: r => by
    rw [List.map_cons]
    unfold optAll
    rw [optA_P' A k r, show toPy A (k + 2) (sD x) = some (sP x) from rfl]
    rfl
/-- a list or tuple of stands -/
noncomputable def SL (d : D) (l : List Nat) : Prop := d = .lst (l.map sD) ∨ d = .tup (l.map sD)
theorem iAny_st {ce : CE} {E : SA} {A A1 : HA} {d : D} {l : List Nat} (h : ce E A = .ok d A1) (hd : SL d l) : iAny ce E A = .ok (.fix (l.map sD)) A1 := by
  unfold iAny
  rcases hd with rfl | rfl <;> (rw [h]; rfl)
theorem lb_len (k : Bk) (n : Nat) : (lb k n).length ≤ 2 := by
  unfold lb ord2 behind
  cases fault n with
  | true => simp
  | false =>
    cases Nat.beq (tru n) 2 with
    | true => simp only [cond_false]; split <;> (try split) <;> simp
    | false => simp only [cond_false]; split <;> (try split) <;> simp
theorem lm_len (k : Bk) (n t i : Nat) : (lm k n t i).length ≤ 2 := by
  unfold lm
  cases canMove n t with
  | false => simp
  | true =>
    show (moved k n (bel t) (wy1 i) (wy2 i)).length ≤ 2
    unfold moved
    cases isDir n with
    | false => cases Nat.beq (bel t) 0 || Nat.beq (bel t) 2 <;> simp
    | true =>
      cases Nat.beq (tru n) 1 with
      | true => simp
      | false =>
        dsimp only
        split
        · simp
        · cases Nat.beq (bel t) 1 && Nat.beq (tru n) 3 <;> simp
end Sm
end
section
set_option autoImplicit false
namespace Sm
open PySem PySem.Spec PyProof.Rows L2
open St
theorem fault_law : allN 160 (fun n => tells (.bl (fault n)) (c_law_is_fault [sD n] [])) = true := by decide +kernel
theorem fault_in : allN 160 (fun n => tells (.bl (fault n)) (c_is_fault_in [sD n] [])) = true := by decide +kernel
/-- the sources: files, made folders, folders of the tree; the free places -/
noncomputable def sF : List Nat := [10, 14, 34, 50, 90, 94, 114, 130]
noncomputable def sM : List Nat := [6, 21, 46, 86, 101, 126, 141]
noncomputable def sN : List Nat := [28, 64, 68, 69, 74, 108, 148]
noncomputable def tgts : List Nat := [17, 57, 97, 137, 152]
theorem src_cases : allN 160 (fun n => fault n || Nat.beq (tru n) 2 || sF.contains n || sM.contains n || sN.contains n) = true := by decide +kernel
theorem tgt_cases : allN 160 (fun n => fault n || !Nat.beq (tru n) 2 || tgts.contains n) = true := by decide +kernel
noncomputable def mvF (c : CF) (l : List Nat) (k : Bk) (b : D) (y1 y2 : Bool) : Bool := l.all fun n => tgts.all fun t => tells (lS (moved k n (bel t) y1 y2)) (c [b, sD n, sD t, .bl y1, .bl y2] [])
noncomputable def mvT (c : CF) (l : List Nat) (k : Bk) (b : D) : Bool := l.all fun n => tgts.all fun t => allN 4 fun i => tells (lS (moved k n (bel t) (wy1 i) (wy2 i))) (c [b, sD n, sD t, .bl (wy1 i), .bl (wy2 i)] [])
noncomputable abbrev bks (x0 x1 x2 x3 x4 x5 : Str) : D := .tup [.str x0, .str x1, .str x2, .str x3, .str x4, .str x5]
theorem mlf (y1 y2 : Bool) (s m a v g w : Nat) (x0 x1 x2 x3 x4 x5 : Str) : mvF c_law_moved sF ⟨s, m, a, v, g, w⟩ (bks x0 x1 x2 x3 x4 x5) y1 y2 = true := by kernel_rfl
theorem mlm0 (y1 y2 : Bool) (s m v g w : Nat) (x0 x1 x3 x4 x5 : Str) : mvF c_law_moved sM ⟨s, m, 0, v, g, w⟩ (bks x0 x1 "bare" x3 x4 x5) y1 y2 = true := by kernel_rfl
theorem mlm1 (y1 y2 : Bool) (s m v g w : Nat) (x0 x1 x3 x4 x5 : Str) : mvF c_law_moved sM ⟨s, m, 1, v, g, w⟩ (bks x0 x1 "keep" x3 x4 x5) y1 y2 = true := by kernel_rfl
theorem mln00 (s m a w : Nat) (x0 x1 x2 x5 : Str) : mvT c_law_moved sN ⟨s, m, a, 0, 0, w⟩ (bks x0 x1 x2 "path" "kept" x5) = true := by kernel_rfl
theorem mln01 (s m a w : Nat) (x0 x1 x2 x5 : Str) : mvT c_law_moved sN ⟨s, m, a, 0, 1, w⟩ (bks x0 x1 x2 "path" "anew" x5) = true := by kernel_rfl
theorem mln10 (s m a w : Nat) (x0 x1 x2 x5 : Str) : mvT c_law_moved sN ⟨s, m, a, 1, 0, w⟩ (bks x0 x1 x2 "seen" "kept" x5) = true := by kernel_rfl
theorem mln11 (s m a w : Nat) (x0 x1 x2 x5 : Str) : mvT c_law_moved sN ⟨s, m, a, 1, 1, w⟩ (bks x0 x1 x2 "seen" "anew" x5) = true := by kernel_rfl
theorem mln20 (s m a w : Nat) (x0 x1 x2 x5 : Str) : mvT c_law_moved sN ⟨s, m, a, 2, 0, w⟩ (bks x0 x1 x2 "name" "kept" x5) = true := by kernel_rfl
theorem mln21 (s m a w : Nat) (x0 x1 x2 x5 : Str) : mvT c_law_moved sN ⟨s, m, a, 2, 1, w⟩ (bks x0 x1 x2 "name" "anew" x5) = true := by kernel_rfl
theorem mln30 (s m a w : Nat) (x0 x1 x2 x5 : Str) : mvT c_law_moved sN ⟨s, m, a, 3, 0, w⟩ (bks x0 x1 x2 "near" "kept" x5) = true := by kernel_rfl
theorem mln31 (s m a w : Nat) (x0 x1 x2 x5 : Str) : mvT c_law_moved sN ⟨s, m, a, 3, 1, w⟩ (bks x0 x1 x2 "near" "anew" x5) = true := by kernel_rfl
theorem mln40 (s m a w : Nat) (x0 x1 x2 x5 : Str) : mvT c_law_moved sN ⟨s, m, a, 4, 0, w⟩ (bks x0 x1 x2 "copy" "kept" x5) = true := by kernel_rfl
theorem mln41 (s m a w : Nat) (x0 x1 x2 x5 : Str) : mvT c_law_moved sN ⟨s, m, a, 4, 1, w⟩ (bks x0 x1 x2 "copy" "anew" x5) = true := by kernel_rfl
theorem mln50 (s m a w : Nat) (x0 x1 x2 x5 : Str) : mvT c_law_moved sN ⟨s, m, a, 5, 0, w⟩ (bks x0 x1 x2 "keep" "kept" x5) = true := by kernel_rfl
theorem mln51 (s m a w : Nat) (x0 x1 x2 x5 : Str) : mvT c_law_moved sN ⟨s, m, a, 5, 1, w⟩ (bks x0 x1 x2 "keep" "anew" x5) = true := by kernel_rfl
theorem ml_all (k : Bk) (hk : Bk.ok k) {n t : Nat} (hn : n < 160) (ht : t < 160) (h : canMove n t = true) (i : Nat) (hi : i < 4) : tells (lS (moved k n (bel t) (wy1 i) (wy2 i))) (c_law_moved [kD k, sD n, sD t, .bl (wy1 i), .bl (wy2 i)] []) = true := by
  unfold canMove at h
  rw [Bool.and_eq_true, Bool.and_eq_true, Bool.and_eq_true] at h
  obtain ⟨⟨⟨h1, h2⟩, h3⟩, h4⟩ := h
  have cs := get_all src_cases hn
  have ct := get_all tgt_cases ht
  have h1' : Nat.beq (tru n) 2 = false := by simpa using h1
  have h3' : fault n = false := by simpa using h3
  have h4' : fault t = false := by simpa using h4
  simp only [h3', h1', Bool.false_or, Bool.or_eq_true] at cs
  simp only [h4', h2, Bool.not_true, Bool.false_or] at ct
  have ht' : t ∈ tgts := by simpa using ct
  have use : ∀ l, mvT c_law_moved l k (kD k) = true → n ∈ l → tells (lS (moved k n (bel t) (wy1 i) (wy2 i))) (c_law_moved [kD k, sD n, sD t, .bl (wy1 i), .bl (wy2 i)] []) = true := fun l hl hm => by
    unfold mvT at hl
    exact get_all (List.all_eq_true.mp (List.all_eq_true.mp hl n hm) t ht') hi
  have useF : ∀ l, mvF c_law_moved l k (kD k) (wy1 i) (wy2 i) = true → n ∈ l → tells (lS (moved k n (bel t) (wy1 i) (wy2 i))) (c_law_moved [kD k, sD n, sD t, .bl (wy1 i), .bl (wy2 i)] []) = true := fun l hl hm => by
    unfold mvF at hl
    exact List.all_eq_true.mp (List.all_eq_true.mp hl n hm) t ht'
  obtain ⟨s, m, a, v, g, w⟩ := k
  obtain ⟨k1, k2, k3, k4, k5, k6⟩ := hk
  have k3 : a < 2 := k3
  have k4 : v < 6 := k4
  have k5 : g < 2 := k5
  rcases cs with (cs | cs) | cs
  · exact useF sF (mlf _ _ s m a v g w _ _ _ _ _ _) (by simpa using cs)
  · refine useF sM ?_ (by simpa using cs)
    match a, k3 with
    | 0, _ => exact mlm0 _ _ s m v g w _ _ _ _ _
    | 1, _ => exact mlm1 _ _ s m v g w _ _ _ _ _
  · refine use sN ?_ (by simpa using cs)
    match v, k4, g, k5 with
    | 0, _, 0, _ => exact mln00 s m a w _ _ _ _
    | 0, _, 1, _ => exact mln01 s m a w _ _ _ _
    | 1, _, 0, _ => exact mln10 s m a w _ _ _ _
    | 1, _, 1, _ => exact mln11 s m a w _ _ _ _
    | 2, _, 0, _ => exact mln20 s m a w _ _ _ _
    | 2, _, 1, _ => exact mln21 s m a w _ _ _ _
    | 3, _, 0, _ => exact mln30 s m a w _ _ _ _
    | 3, _, 1, _ => exact mln31 s m a w _ _ _ _
    | 4, _, 0, _ => exact mln40 s m a w _ _ _ _
    | 4, _, 1, _ => exact mln41 s m a w _ _ _ _
    | 5, _, 0, _ => exact mln50 s m a w _ _ _ _
    | 5, _, 1, _ => exact mln51 s m a w _ _ _ _
theorem mif (y1 y2 : Bool) (s m a v g w : Nat) (x0 x1 x2 x3 x4 x5 : Str) : mvF c_moved_in sF ⟨s, m, a, v, g, w⟩ (bks x0 x1 x2 x3 x4 x5) y1 y2 = true := by kernel_rfl
theorem mim0 (y1 y2 : Bool) (s m v g w : Nat) (x0 x1 x3 x4 x5 : Str) : mvF c_moved_in sM ⟨s, m, 0, v, g, w⟩ (bks x0 x1 "bare" x3 x4 x5) y1 y2 = true := by kernel_rfl
theorem mim1 (y1 y2 : Bool) (s m v g w : Nat) (x0 x1 x3 x4 x5 : Str) : mvF c_moved_in sM ⟨s, m, 1, v, g, w⟩ (bks x0 x1 "keep" x3 x4 x5) y1 y2 = true := by kernel_rfl
theorem min00 (s m a w : Nat) (x0 x1 x2 x5 : Str) : mvT c_moved_in sN ⟨s, m, a, 0, 0, w⟩ (bks x0 x1 x2 "path" "kept" x5) = true := by kernel_rfl
theorem min01 (s m a w : Nat) (x0 x1 x2 x5 : Str) : mvT c_moved_in sN ⟨s, m, a, 0, 1, w⟩ (bks x0 x1 x2 "path" "anew" x5) = true := by kernel_rfl
theorem min10 (s m a w : Nat) (x0 x1 x2 x5 : Str) : mvT c_moved_in sN ⟨s, m, a, 1, 0, w⟩ (bks x0 x1 x2 "seen" "kept" x5) = true := by kernel_rfl
theorem min11 (s m a w : Nat) (x0 x1 x2 x5 : Str) : mvT c_moved_in sN ⟨s, m, a, 1, 1, w⟩ (bks x0 x1 x2 "seen" "anew" x5) = true := by kernel_rfl
theorem min20 (s m a w : Nat) (x0 x1 x2 x5 : Str) : mvT c_moved_in sN ⟨s, m, a, 2, 0, w⟩ (bks x0 x1 x2 "name" "kept" x5) = true := by kernel_rfl
theorem min21 (s m a w : Nat) (x0 x1 x2 x5 : Str) : mvT c_moved_in sN ⟨s, m, a, 2, 1, w⟩ (bks x0 x1 x2 "name" "anew" x5) = true := by kernel_rfl
theorem min30 (s m a w : Nat) (x0 x1 x2 x5 : Str) : mvT c_moved_in sN ⟨s, m, a, 3, 0, w⟩ (bks x0 x1 x2 "near" "kept" x5) = true := by kernel_rfl
theorem min31 (s m a w : Nat) (x0 x1 x2 x5 : Str) : mvT c_moved_in sN ⟨s, m, a, 3, 1, w⟩ (bks x0 x1 x2 "near" "anew" x5) = true := by kernel_rfl
theorem min40 (s m a w : Nat) (x0 x1 x2 x5 : Str) : mvT c_moved_in sN ⟨s, m, a, 4, 0, w⟩ (bks x0 x1 x2 "copy" "kept" x5) = true := by kernel_rfl
theorem min41 (s m a w : Nat) (x0 x1 x2 x5 : Str) : mvT c_moved_in sN ⟨s, m, a, 4, 1, w⟩ (bks x0 x1 x2 "copy" "anew" x5) = true := by kernel_rfl
theorem min50 (s m a w : Nat) (x0 x1 x2 x5 : Str) : mvT c_moved_in sN ⟨s, m, a, 5, 0, w⟩ (bks x0 x1 x2 "keep" "kept" x5) = true := by kernel_rfl
theorem min51 (s m a w : Nat) (x0 x1 x2 x5 : Str) : mvT c_moved_in sN ⟨s, m, a, 5, 1, w⟩ (bks x0 x1 x2 "keep" "anew" x5) = true := by kernel_rfl
theorem mi_all (k : Bk) (hk : Bk.ok k) {n t : Nat} (hn : n < 160) (ht : t < 160) (h : canMove n t = true) (i : Nat) (hi : i < 4) : tells (lS (moved k n (bel t) (wy1 i) (wy2 i))) (c_moved_in [kD k, sD n, sD t, .bl (wy1 i), .bl (wy2 i)] []) = true := by
  unfold canMove at h
  rw [Bool.and_eq_true, Bool.and_eq_true, Bool.and_eq_true] at h
  obtain ⟨⟨⟨h1, h2⟩, h3⟩, h4⟩ := h
  have cs := get_all src_cases hn
  have ct := get_all tgt_cases ht
  have h1' : Nat.beq (tru n) 2 = false := by simpa using h1
  have h3' : fault n = false := by simpa using h3
  have h4' : fault t = false := by simpa using h4
  simp only [h3', h1', Bool.false_or, Bool.or_eq_true] at cs
  simp only [h4', h2, Bool.not_true, Bool.false_or] at ct
  have ht' : t ∈ tgts := by simpa using ct
  have use : ∀ l, mvT c_moved_in l k (kD k) = true → n ∈ l → tells (lS (moved k n (bel t) (wy1 i) (wy2 i))) (c_moved_in [kD k, sD n, sD t, .bl (wy1 i), .bl (wy2 i)] []) = true := fun l hl hm => by
    unfold mvT at hl
    exact get_all (List.all_eq_true.mp (List.all_eq_true.mp hl n hm) t ht') hi
  have useF : ∀ l, mvF c_moved_in l k (kD k) (wy1 i) (wy2 i) = true → n ∈ l → tells (lS (moved k n (bel t) (wy1 i) (wy2 i))) (c_moved_in [kD k, sD n, sD t, .bl (wy1 i), .bl (wy2 i)] []) = true := fun l hl hm => by
    unfold mvF at hl
    exact List.all_eq_true.mp (List.all_eq_true.mp hl n hm) t ht'
  obtain ⟨s, m, a, v, g, w⟩ := k
  obtain ⟨k1, k2, k3, k4, k5, k6⟩ := hk
  have k3 : a < 2 := k3
  have k4 : v < 6 := k4
  have k5 : g < 2 := k5
  rcases cs with (cs | cs) | cs
  · exact useF sF (mif _ _ s m a v g w _ _ _ _ _ _) (by simpa using cs)
  · refine useF sM ?_ (by simpa using cs)
    match a, k3 with
    | 0, _ => exact mim0 _ _ s m v g w _ _ _ _ _
    | 1, _ => exact mim1 _ _ s m v g w _ _ _ _ _
  · refine use sN ?_ (by simpa using cs)
    match v, k4, g, k5 with
    | 0, _, 0, _ => exact min00 s m a w _ _ _ _
    | 0, _, 1, _ => exact min01 s m a w _ _ _ _
    | 1, _, 0, _ => exact min10 s m a w _ _ _ _
    | 1, _, 1, _ => exact min11 s m a w _ _ _ _
    | 2, _, 0, _ => exact min20 s m a w _ _ _ _
    | 2, _, 1, _ => exact min21 s m a w _ _ _ _
    | 3, _, 0, _ => exact min30 s m a w _ _ _ _
    | 3, _, 1, _ => exact min31 s m a w _ _ _ _
    | 4, _, 0, _ => exact min40 s m a w _ _ _ _
    | 4, _, 1, _ => exact min41 s m a w _ _ _ _
    | 5, _, 0, _ => exact min50 s m a w _ _ _ _
    | 5, _, 1, _ => exact min51 s m a w _ _ _ _
noncomputable def bhTbl (l : List Nat) (k : Bk) (b : D) : Bool := l.all fun n => tells (lS (ord2 (behind k n))) (c_law_behind [b, sD n] [])
theorem blt0 (s a v g w : Nat) (x0 x2 x3 x4 x5 : Str) : bhTbl tgts ⟨s, 0, a, v, g, w⟩ (bks x0 "bare" x2 x3 x4 x5) = true := by kernel_rfl
theorem blt1 (s a v g w : Nat) (x0 x2 x3 x4 x5 : Str) : bhTbl tgts ⟨s, 1, a, v, g, w⟩ (bks x0 "over" x2 x3 x4 x5) = true := by kernel_rfl
theorem blt2 (s a v g w : Nat) (x0 x2 x3 x4 x5 : Str) : bhTbl tgts ⟨s, 2, a, v, g, w⟩ (bks x0 "joins" x2 x3 x4 x5) = true := by kernel_rfl
theorem bls0 (m a v g w : Nat) (x1 x2 x3 x4 x5 : Str) : bhTbl [6, 10, 14, 21, 28, 34, 46, 50, 64, 68, 69, 74, 86, 90, 94, 101, 108, 126, 130, 141, 148] ⟨0, m, a, v, g, w⟩ (bks "always" x1 x2 x3 x4 x5) = true := by kernel_rfl
theorem blu00 (m a v g : Nat) (x1 x2 x3 x4 : Str) : bhTbl [114] ⟨0, m, a, v, g, 0⟩ (bks "always" x1 x2 x3 x4 "index") = true := by kernel_rfl
theorem blu01 (m a v g : Nat) (x1 x2 x3 x4 : Str) : bhTbl [114] ⟨0, m, a, v, g, 1⟩ (bks "always" x1 x2 x3 x4 "copy") = true := by kernel_rfl
theorem bls1 (m a v g w : Nat) (x1 x2 x3 x4 x5 : Str) : bhTbl [6, 10, 14, 21, 28, 34, 46, 50, 64, 68, 69, 74, 86, 90, 94, 101, 108, 126, 130, 141, 148] ⟨1, m, a, v, g, w⟩ (bks "below" x1 x2 x3 x4 x5) = true := by kernel_rfl
theorem blu10 (m a v g : Nat) (x1 x2 x3 x4 : Str) : bhTbl [114] ⟨1, m, a, v, g, 0⟩ (bks "below" x1 x2 x3 x4 "index") = true := by kernel_rfl
theorem blu11 (m a v g : Nat) (x1 x2 x3 x4 : Str) : bhTbl [114] ⟨1, m, a, v, g, 1⟩ (bks "below" x1 x2 x3 x4 "copy") = true := by kernel_rfl
theorem bls2 (m a v g w : Nat) (x1 x2 x3 x4 x5 : Str) : bhTbl [6, 10, 14, 21, 28, 34, 46, 50, 64, 68, 69, 74, 86, 90, 94, 101, 108, 126, 130, 141, 148] ⟨2, m, a, v, g, w⟩ (bks "shown" x1 x2 x3 x4 x5) = true := by kernel_rfl
theorem blu20 (m a v g : Nat) (x1 x2 x3 x4 : Str) : bhTbl [114] ⟨2, m, a, v, g, 0⟩ (bks "shown" x1 x2 x3 x4 "index") = true := by kernel_rfl
theorem blu21 (m a v g : Nat) (x1 x2 x3 x4 : Str) : bhTbl [114] ⟨2, m, a, v, g, 1⟩ (bks "shown" x1 x2 x3 x4 "copy") = true := by kernel_rfl
theorem bls3 (m a v g w : Nat) (x1 x2 x3 x4 x5 : Str) : bhTbl [6, 10, 14, 21, 28, 34, 46, 50, 64, 68, 69, 74, 86, 90, 94, 101, 108, 126, 130, 141, 148] ⟨3, m, a, v, g, w⟩ (bks "never" x1 x2 x3 x4 x5) = true := by kernel_rfl
theorem blu30 (m a v g : Nat) (x1 x2 x3 x4 : Str) : bhTbl [114] ⟨3, m, a, v, g, 0⟩ (bks "never" x1 x2 x3 x4 "index") = true := by kernel_rfl
theorem blu31 (m a v g : Nat) (x1 x2 x3 x4 : Str) : bhTbl [114] ⟨3, m, a, v, g, 1⟩ (bks "never" x1 x2 x3 x4 "copy") = true := by kernel_rfl
theorem bl_all (k : Bk) (hk : Bk.ok k) {n : Nat} (hn : n < 160) (h : fault n = false) : tells (lS (ord2 (behind k n))) (c_law_behind [kD k, sD n] []) = true := by
  have cs := get_all src_cases hn
  have ct := get_all tgt_cases hn
  have use : ∀ l, bhTbl l k (kD k) = true → n ∈ l → tells (lS (ord2 (behind k n))) (c_law_behind [kD k, sD n] []) = true := fun l hl hm => by
    unfold bhTbl at hl
    exact List.all_eq_true.mp hl n hm
  simp only [h, Bool.false_or] at cs ct
  obtain ⟨s, m, a, v, g, w⟩ := k
  obtain ⟨k1, k2, k3, k4, k5, k6⟩ := hk
  have k1 : s < 4 := k1
  have k2 : m < 3 := k2
  have k6 : w < 2 := k6
  cases hb : Nat.beq (tru n) 2 with
  | true =>
    simp only [hb, Bool.not_true, Bool.false_or] at ct
    refine use tgts ?_ (by simpa using ct)
    match m, k2 with
    | 0, _ => exact blt0 s a v g w _ _ _ _ _
    | 1, _ => exact blt1 s a v g w _ _ _ _ _
    | 2, _ => exact blt2 s a v g w _ _ _ _ _
  | false =>
    by_cases h114 : n = 114
    · refine use [114] ?_ (by simp [h114])
      match s, k1, w, k6 with
      | 0, _, 0, _ => exact blu00 m a v g _ _ _ _
      | 0, _, 1, _ => exact blu01 m a v g _ _ _ _
      | 1, _, 0, _ => exact blu10 m a v g _ _ _ _
      | 1, _, 1, _ => exact blu11 m a v g _ _ _ _
      | 2, _, 0, _ => exact blu20 m a v g _ _ _ _
      | 2, _, 1, _ => exact blu21 m a v g _ _ _ _
      | 3, _, 0, _ => exact blu30 m a v g _ _ _ _
      | 3, _, 1, _ => exact blu31 m a v g _ _ _ _
    · have hm : n ∈ [6, 10, 14, 21, 28, 34, 46, 50, 64, 68, 69, 74, 86, 90, 94, 101, 108, 126, 130, 141, 148] := by
        simp only [hb, Bool.false_or, Bool.or_eq_true] at cs
        have c2 : n ∈ sF ∨ n ∈ sM ∨ n ∈ sN := by
          rcases cs with (c | c) | c
          · exact .inl (by simpa using c)
          · exact .inr (.inl (by simpa using c))
          · exact .inr (.inr (by simpa using c))
        simp only [sF, sM, sN, List.mem_cons, List.not_mem_nil, or_false] at c2 ⊢
        omega
      match s, k1 with
      | 0, _ => exact use _ (bls0 m a v g w _ _ _ _ _) hm
      | 1, _ => exact use _ (bls1 m a v g w _ _ _ _ _) hm
      | 2, _ => exact use _ (bls2 m a v g w _ _ _ _ _) hm
      | 3, _ => exact use _ (bls3 m a v g w _ _ _ _ _) hm
theorem blz (s m a v g w : Nat) (x0 x1 x2 x3 x4 x5 : Str) : (((List.range 160).filter fault).all fun n => tells (lS []) (c_law_behind [(bks x0 x1 x2 x3 x4 x5), sD n] [])) = true := by kernel_rfl
theorem bl_none (k : Bk) {n : Nat} (hn : n < 160) (h : fault n = true) : tells (lS []) (c_law_behind [kD k, sD n] []) = true := by
  obtain ⟨s, m, a, v, g, w⟩ := k
  exact List.all_eq_true.mp (blz s m a v g w _ _ _ _ _ _) n (List.mem_filter.mpr ⟨List.mem_range.mpr hn, h⟩)
noncomputable def bhTbi (l : List Nat) (k : Bk) (b : D) : Bool := l.all fun n => tells (lS (id (behind k n))) (c_behind_in [b, sD n] [])
theorem bit0 (s a v g w : Nat) (x0 x2 x3 x4 x5 : Str) : bhTbi tgts ⟨s, 0, a, v, g, w⟩ (bks x0 "bare" x2 x3 x4 x5) = true := by kernel_rfl
theorem bit1 (s a v g w : Nat) (x0 x2 x3 x4 x5 : Str) : bhTbi tgts ⟨s, 1, a, v, g, w⟩ (bks x0 "over" x2 x3 x4 x5) = true := by kernel_rfl
theorem bit2 (s a v g w : Nat) (x0 x2 x3 x4 x5 : Str) : bhTbi tgts ⟨s, 2, a, v, g, w⟩ (bks x0 "joins" x2 x3 x4 x5) = true := by kernel_rfl
theorem bis0 (m a v g w : Nat) (x1 x2 x3 x4 x5 : Str) : bhTbi [6, 10, 14, 21, 28, 34, 46, 50, 64, 68, 69, 74, 86, 90, 94, 101, 108, 126, 130, 141, 148] ⟨0, m, a, v, g, w⟩ (bks "always" x1 x2 x3 x4 x5) = true := by kernel_rfl
theorem biu00 (m a v g : Nat) (x1 x2 x3 x4 : Str) : bhTbi [114] ⟨0, m, a, v, g, 0⟩ (bks "always" x1 x2 x3 x4 "index") = true := by kernel_rfl
theorem biu01 (m a v g : Nat) (x1 x2 x3 x4 : Str) : bhTbi [114] ⟨0, m, a, v, g, 1⟩ (bks "always" x1 x2 x3 x4 "copy") = true := by kernel_rfl
theorem bis1 (m a v g w : Nat) (x1 x2 x3 x4 x5 : Str) : bhTbi [6, 10, 14, 21, 28, 34, 46, 50, 64, 68, 69, 74, 86, 90, 94, 101, 108, 126, 130, 141, 148] ⟨1, m, a, v, g, w⟩ (bks "below" x1 x2 x3 x4 x5) = true := by kernel_rfl
theorem biu10 (m a v g : Nat) (x1 x2 x3 x4 : Str) : bhTbi [114] ⟨1, m, a, v, g, 0⟩ (bks "below" x1 x2 x3 x4 "index") = true := by kernel_rfl
theorem biu11 (m a v g : Nat) (x1 x2 x3 x4 : Str) : bhTbi [114] ⟨1, m, a, v, g, 1⟩ (bks "below" x1 x2 x3 x4 "copy") = true := by kernel_rfl
theorem bis2 (m a v g w : Nat) (x1 x2 x3 x4 x5 : Str) : bhTbi [6, 10, 14, 21, 28, 34, 46, 50, 64, 68, 69, 74, 86, 90, 94, 101, 108, 126, 130, 141, 148] ⟨2, m, a, v, g, w⟩ (bks "shown" x1 x2 x3 x4 x5) = true := by kernel_rfl
theorem biu20 (m a v g : Nat) (x1 x2 x3 x4 : Str) : bhTbi [114] ⟨2, m, a, v, g, 0⟩ (bks "shown" x1 x2 x3 x4 "index") = true := by kernel_rfl
theorem biu21 (m a v g : Nat) (x1 x2 x3 x4 : Str) : bhTbi [114] ⟨2, m, a, v, g, 1⟩ (bks "shown" x1 x2 x3 x4 "copy") = true := by kernel_rfl
theorem bis3 (m a v g w : Nat) (x1 x2 x3 x4 x5 : Str) : bhTbi [6, 10, 14, 21, 28, 34, 46, 50, 64, 68, 69, 74, 86, 90, 94, 101, 108, 126, 130, 141, 148] ⟨3, m, a, v, g, w⟩ (bks "never" x1 x2 x3 x4 x5) = true := by kernel_rfl
theorem biu30 (m a v g : Nat) (x1 x2 x3 x4 : Str) : bhTbi [114] ⟨3, m, a, v, g, 0⟩ (bks "never" x1 x2 x3 x4 "index") = true := by kernel_rfl
theorem biu31 (m a v g : Nat) (x1 x2 x3 x4 : Str) : bhTbi [114] ⟨3, m, a, v, g, 1⟩ (bks "never" x1 x2 x3 x4 "copy") = true := by kernel_rfl
theorem bi_all (k : Bk) (hk : Bk.ok k) {n : Nat} (hn : n < 160) (h : fault n = false) : tells (lS (id (behind k n))) (c_behind_in [kD k, sD n] []) = true := by
  have cs := get_all src_cases hn
  have ct := get_all tgt_cases hn
  have use : ∀ l, bhTbi l k (kD k) = true → n ∈ l → tells (lS (id (behind k n))) (c_behind_in [kD k, sD n] []) = true := fun l hl hm => by
    unfold bhTbi at hl
    exact List.all_eq_true.mp hl n hm
  simp only [h, Bool.false_or] at cs ct
  obtain ⟨s, m, a, v, g, w⟩ := k
  obtain ⟨k1, k2, k3, k4, k5, k6⟩ := hk
  have k1 : s < 4 := k1
  have k2 : m < 3 := k2
  have k6 : w < 2 := k6
  cases hb : Nat.beq (tru n) 2 with
  | true =>
    simp only [hb, Bool.not_true, Bool.false_or] at ct
    refine use tgts ?_ (by simpa using ct)
    match m, k2 with
    | 0, _ => exact bit0 s a v g w _ _ _ _ _
    | 1, _ => exact bit1 s a v g w _ _ _ _ _
    | 2, _ => exact bit2 s a v g w _ _ _ _ _
  | false =>
    by_cases h114 : n = 114
    · refine use [114] ?_ (by simp [h114])
      match s, k1, w, k6 with
      | 0, _, 0, _ => exact biu00 m a v g _ _ _ _
      | 0, _, 1, _ => exact biu01 m a v g _ _ _ _
      | 1, _, 0, _ => exact biu10 m a v g _ _ _ _
      | 1, _, 1, _ => exact biu11 m a v g _ _ _ _
      | 2, _, 0, _ => exact biu20 m a v g _ _ _ _
      | 2, _, 1, _ => exact biu21 m a v g _ _ _ _
      | 3, _, 0, _ => exact biu30 m a v g _ _ _ _
      | 3, _, 1, _ => exact biu31 m a v g _ _ _ _
    · have hm : n ∈ [6, 10, 14, 21, 28, 34, 46, 50, 64, 68, 69, 74, 86, 90, 94, 101, 108, 126, 130, 141, 148] := by
        simp only [hb, Bool.false_or, Bool.or_eq_true] at cs
        have c2 : n ∈ sF ∨ n ∈ sM ∨ n ∈ sN := by
          rcases cs with (c | c) | c
          · exact .inl (by simpa using c)
          · exact .inr (.inl (by simpa using c))
          · exact .inr (.inr (by simpa using c))
        simp only [sF, sM, sN, List.mem_cons, List.not_mem_nil, or_false] at c2 ⊢
        omega
      match s, k1 with
      | 0, _ => exact use _ (bis0 m a v g w _ _ _ _ _) hm
      | 1, _ => exact use _ (bis1 m a v g w _ _ _ _ _) hm
      | 2, _ => exact use _ (bis2 m a v g w _ _ _ _ _) hm
      | 3, _ => exact use _ (bis3 m a v g w _ _ _ _ _) hm
end Sm
end
section
set_option autoImplicit false
namespace Sm
open PySem PySem.Spec PyProof.Rows L2
open St
theorem pure_sD : ∀ l : List Nat, pureRs (l.map sD) = true
  | [] => rfl
  | x :: r => by show (pureR (sD x) && pureRs (r.map sD)) = true; rw [pure_sD r]; rfl
theorem tru_lt (n : Nat) : tru n < 5 := Nat.mod_lt _ (by decide)
theorem eq_none {b : Nat} (hb : b < 5) (A : HA) : pEqX (.str (tW b)) (.str "none") A = .ok (.bl (Nat.beq b 2)) A := by
  match b, hb with
  | 0, _ => rfl
  | 1, _ => rfl
  | 2, _ => rfl
  | 3, _ => rfl
  | 4, _ => rfl
theorem ne_none {b : Nat} (hb : b < 5) (A : HA) : pNeX (.str (tW b)) (.str "none") A = .ok (.bl (!Nat.beq b 2)) A := by
  match b, hb with
  | 0, _ => rfl
  | 1, _ => rfl
  | 2, _ => rfl
  | 3, _ => rfl
  | 4, _ => rfl
theorem fl_ok {n : Nat} (hn : n < 160) (A : HA) : isoF c_law_is_fault [sD n] A = .ok (.bl (fault n)) A := iso_tells rfl (get_all fault_law hn) rfl A
theorem fi_ok {n : Nat} (hn : n < 160) (A : HA) : isoF c_is_fault_in [sD n] A = .ok (.bl (fault n)) A := iso_tells rfl (get_all fault_in hn) rfl A
section
variable {E : SA} {A A1 A2 : HA} {ca cb : CE} {ta tb : CB} {b c : Bool}
theorem ev_orV (h1 : ca E A = .ok (.bl b) A1) (h2 : cb E A1 = .ok (.bl c) A1) : cOrV ca cb E A = .ok (.bl (b || c)) A1 := by
  unfold cOrV
  rw [h1]
  cases b with
  | true => rfl
  | false => exact h2
theorem ev_andV (h1 : ca E A = .ok (.bl b) A1) (h2 : cb E A1 = .ok (.bl c) A1) : cAndV ca cb E A = .ok (.bl (b && c)) A1 := by
  unfold cAndV
  rw [h1]
  cases b with
  | true => exact h2
  | false => rfl
theorem ev_notV (h1 : ca E A = .ok (.bl b) A1) : cNotV ca E A = .ok (.bl (!b)) A1 := by
  unfold cNotV
  rw [h1]
  rfl
theorem ev_or (h1 : ta E A = .ok b A1) (h2 : tb E A1 = .ok c A1) : cOr ta tb E A = .ok (b || c) A1 := by
  unfold cOr
  rw [h1]
  cases b with
  | true => rfl
  | false => exact h2
end
theorem ml_none {k : Bk} {b1 b2 : Bool} {n t : Nat} (hn : n < 160) (ht : t < 160) (h : canMove n t = false) : c_law_moved [kD k, sD n, sD t, .bl b1, .bl b2] [] = .ok (lS []) [] := by
  refine c_run ?_
  unfold b_law_moved
  rw [cSeq_nx (ev_par (d := .str (bW (bel t))) (e := .bl (fault n || fault t)) (A1 := []) (A2 := []) rfl (ev_orV ((ev_call1 (d := sD n) (A1 := []) rfl).trans (fl_ok hn [])) ((ev_call1 (d := sD t) (A1 := []) rfl).trans (fl_ok ht []))))]
  refine cSeq_rt ((ev_ifT ?_).trans rfl)
  refine (ev_or (b := Nat.beq (tru n) 2) (c := (!Nat.beq (tru t) 2) || (fault n || fault t)) (A1 := []) (ev_cB ((ev_c2 (d := .str (tW (tru n))) (e := .str "none") (A1 := []) (A2 := []) rfl rfl).trans (eq_none (tru_lt n) []))) (ev_or (A1 := []) (ev_cB ((ev_c2 (d := .str (tW (tru t))) (e := .str "none") (A1 := []) (A2 := []) rfl rfl).trans (ne_none (tru_lt t) []))) (ev_cB rfl))).trans ?_
  have e : (Nat.beq (tru n) 2 || ((!Nat.beq (tru t) 2) || (fault n || fault t))) = true := by
    unfold canMove at h
    revert h
    cases Nat.beq (tru n) 2 <;> cases Nat.beq (tru t) 2 <;> cases fault n <;> cases fault t <;> simp
  rw [e]
theorem cm_ok {n t : Nat} (hn : n < 160) (ht : t < 160) : c_can_move [sD n, sD t] [] = .ok (.bl (canMove n t)) [] := by
  refine c_run ?_
  unfold b_can_move
  refine ev_ret ?_
  have h := ev_andV (A := []) (A1 := []) (E := startA 2 [sD n, sD t]) (ca := c2 pNeX (c2 pGetX (cVar 0) (cC (.int 2))) (cC (.str "none"))) (b := !Nat.beq (tru n) 2) ((ev_c2 (d := .str (tW (tru n))) (e := .str "none") (A1 := []) (A2 := []) rfl rfl).trans (ne_none (tru_lt n) []))
    (ev_andV (ca := c2 pEqX (c2 pGetX (cVar 1) (cC (.int 2))) (cC (.str "none"))) (b := Nat.beq (tru t) 2) ((ev_c2 (d := .str (tW (tru t))) (e := .str "none") (A1 := []) (A2 := []) rfl rfl).trans (eq_none (tru_lt t) []))
      (ev_andV (b := !fault n) (c := !fault t) (ev_notV ((ev_call1 (ca := cVar 0) (d := sD n) (A1 := []) rfl).trans (fi_ok hn []))) (ev_notV ((ev_call1 (ca := cVar 1) (d := sD t) (A1 := []) rfl).trans (fi_ok ht [])))))
  refine h.trans ?_
  unfold canMove
  simp only [Bool.and_assoc]
theorem lb_ok {k : Bk} (hk : Bk.ok k) {n : Nat} (hn : n < 160) (A : HA) : isoF c_law_behind [kD k, sD n] A = .ok (lS (lb k n)) A := by
  refine iso_tells (d := lS (lb k n)) rfl ?_ (pure_sD _) A
  unfold lb
  cases h : fault n with
  | true => exact bl_none k hn h
  | false => exact bl_all k hk hn h
theorem lm_ok {k : Bk} (hk : Bk.ok k) {n t i : Nat} (hn : n < 160) (ht : t < 160) (hi : i < 4) (A : HA) : isoF c_law_moved [kD k, sD n, sD t, .bl (wy1 i), .bl (wy2 i)] A = .ok (lS (lm k n t i)) A := by
  unfold lm
  cases h : canMove n t with
  | true => exact iso_tells (d := lS (moved k n (bel t) (wy1 i) (wy2 i))) rfl (ml_all k hk hn ht h i hi) (pure_sD _) A
  | false => exact iso_ok rfl (ml_none hn ht h) rfl
theorem cmi_ok {n t : Nat} (hn : n < 160) (ht : t < 160) (A : HA) : isoF c_can_move [sD n, sD t] A = .ok (.bl (canMove n t)) A := iso_ok rfl (cm_ok hn ht) rfl
theorem bi_ok {k : Bk} (hk : Bk.ok k) {n : Nat} (hn : n < 160) (h : fault n = false) (A : HA) : isoF c_behind_in [kD k, sD n] A = .ok (lS (behind k n)) A := iso_tells (d := lS (behind k n)) rfl (bi_all k hk hn h) (pure_sD _) A
theorem mi_ok {k : Bk} (hk : Bk.ok k) {n t i : Nat} (hn : n < 160) (ht : t < 160) (h : canMove n t = true) (hi : i < 4) (A : HA) : isoF c_moved_in [kD k, sD n, sD t, .bl (wy1 i), .bl (wy2 i)] A = .ok (lS (moved k n (bel t) (wy1 i) (wy2 i))) A := iso_tells (d := lS (moved k n (bel t) (wy1 i) (wy2 i))) rfl (mi_all k hk hn ht h i hi) (pure_sD _) A
end Sm
end
section
set_option autoImplicit false
namespace Sm
open PySem PySem.Spec PyProof.Rows L2
open St
theorem shownAll_map : ∀ ps : List PyData, PyData.shownAll ps = ps.map PyData.shown
  | [] => rfl
  | p :: r => by show PyData.shown p :: PyData.shownAll r = _; rw [shownAll_map r]; rfl
theorem piled_le {c : Nat} : ∀ {ts : List Str}, (∀ t ∈ ts, t.length ≤ c) → piled ts ≤ ts.length * (c + 2)
  | [], _ => by rw [piled_nil]; omega
  | t :: r, h => by
    have := piled_le (c := c) (ts := r) fun x hx => h x (List.mem_cons_of_mem _ hx)
    have := h t List.mem_cons_self
    rw [piled_cons, List.length_cons, Nat.succ_mul]
    omega
theorem tup_len {ts : List Str} {c : Nat} (h : ∀ t ∈ ts, t.length ≤ c) : (tupleText ts).length ≤ ts.length * (c + 2) + 5 := by
  unfold tupleText
  rw [strLen_append, strLen_append]
  have e1 : ((("(" : String) : Str)).length = 1 := rfl
  have e3 : (((if ts.length == 1 then ",)" else ")" : String) : Str)).length ≤ 2 := by split <;> decide
  have e2 : (Str.join ", " ts).length ≤ ts.length * (c + 2) := by
    cases ts with
    | nil => exact Nat.zero_le _
    | cons x r =>
      have := join_length_add (x :: r) (by simp)
      have := piled_le h
      omega
  rw [e1]
  omega
theorem lst_len {ts : List Str} {c : Nat} (h : ∀ t ∈ ts, t.length ≤ c) : (listText ts).length ≤ ts.length * (c + 2) + 5 := by
  unfold listText
  rw [strLen_append]
  have e3 : ((("]" : String) : Str)).length = 1 := rfl
  rw [e3]
  cases ts with
  | nil =>
    show 1 + 1 ≤ 0 * (c + 2) + 5
    omega
  | cons x r =>
    have e : textFrom 0 "[" (x :: r) = textFrom 1 (("[" : Str) ++ x) r := rfl
    rw [e, textFrom_length_pos r 1 _ (by decide), strLen_append]
    have e1 : ((("[" : String) : Str)).length = 1 := rfl
    rw [e1]
    have h1 := h x List.mem_cons_self
    have := piled_le (ts := r) fun y hy => h y (List.mem_cons_of_mem _ hy)
    rw [List.length_cons, Nat.succ_mul]
    omega
noncomputable def shortP (p : PyData) : Bool := p.showable && decide (p.shown.length ≤ 3000)
theorem shows_all : ∀ {ps : List PyData}, (∀ p ∈ ps, shortP p = true) → PyData.showableAll ps = true
  | [], _ => rfl
  | p :: r, h => by
    have h1 := h p List.mem_cons_self
    unfold shortP at h1
    rw [Bool.and_eq_true] at h1
    show (p.showable && PyData.showableAll r) = true
    rw [h1.1, shows_all fun q hq => h q (List.mem_cons_of_mem _ hq)]
    rfl
theorem short_len {ps : List PyData} (h : ∀ p ∈ ps, shortP p = true) : ∀ t ∈ PyData.shownAll ps, t.length ≤ 3000 := fun t ht => by
  rw [shownAll_map] at ht
  obtain ⟨p, hp, rfl⟩ := List.mem_map.mp ht
  have h1 := h p hp
  unfold shortP at h1
  rw [Bool.and_eq_true] at h1
  exact of_decide_eq_true h1.2
theorem noDict_all : ∀ {ps : List PyData}, (∀ p ∈ ps, p.hasDict = false) → PyData.hasDictAll ps = false
  | [], _ => rfl
  | p :: r, h => by
    show (p.hasDict || PyData.hasDictAll r) = false
    rw [h p List.mem_cons_self, noDict_all fun q hq => h q (List.mem_cons_of_mem _ hq)]
    rfl
theorem noLst_all : ∀ {ps : List PyData}, (∀ p ∈ ps, noLst p = true) → noLstAll ps = true
  | [], _ => rfl
  | p :: r, h => by
    show (noLst p && noLstAll r) = true
    rw [h p List.mem_cons_self, noLst_all fun q hq => h q (List.mem_cons_of_mem _ hq)]
    rfl
theorem rp_tup {ps : List PyData} (h : ∀ p ∈ ps, shortP p = true) (hn : ps.length ≤ 300) (ho : (∀ p ∈ ps, p.hasDict = false) ∨ ∀ p ∈ ps, noLst p = true) : (PyData.tuple ps).showable = true ∧ (PyData.tuple ps).shown.length ≤ sizeLine ∧ repOk (.tuple ps) = true := by
  refine ⟨shows_all h, ?_, ?_⟩
  · show (tupleText (PyData.shownAll ps)).length ≤ sizeLine
    have := tup_len (short_len h)
    rw [shownAll_map, List.length_map, ← shownAll_map] at this
    have h2 := Nat.mul_le_mul_right (3000 + 2) hn
    rw [sizeLine_eq]
    omega
  · show (!PyData.hasDictAll ps || noLstAll ps) = true
    rcases ho with ho | ho
    · rw [noDict_all ho]; rfl
    · rw [noLst_all ho, Bool.or_true]
theorem rp_lst {ps : List PyData} (h : ∀ p ∈ ps, shortP p = true) (hn : ps.length ≤ 300) (ho : ∀ p ∈ ps, p.hasDict = false) : (PyData.list ps).showable = true ∧ (PyData.list ps).shown.length ≤ sizeLine ∧ repOk (.list ps) = true := by
  refine ⟨shows_all h, ?_, ?_⟩
  · show (listText (PyData.shownAll ps)).length ≤ sizeLine
    have := lst_len (short_len h)
    rw [shownAll_map, List.length_map, ← shownAll_map] at this
    have h2 := Nat.mul_le_mul_right (3000 + 2) hn
    rw [sizeLine_eq]
    omega
  · show ps.all repOk1 = true
    refine List.all_eq_true.mpr fun p hp => ?_
    unfold repOk1
    rw [ho p hp]
    rfl
theorem repr_at {A : HA} {d : D} {p : PyData} (h : toPy A 60 d = some p) (hc : p.showable = true ∧ p.shown.length ≤ sizeLine ∧ repOk p = true) : pRepr [d] A = .ok (.str p.shown) A := by
  show (match toPy A 60 d with | some p => if p.showable = true ∧ p.shown.length ≤ sizeLine ∧ repOk p = true then R.ok (D.str p.shown) A else .no | none => .no) = _
  simp only [h]
  exact if_pos hc
theorem sP_short : allN 160 (fun n => shortP (sP n)) = true := by decide +kernel
end Sm
end
section
set_option autoImplicit false
namespace Sm
open PySem PySem.Spec PyProof.Rows L2
open St
theorem str_mem {l : List Str} {q : D} (h : q ∈ l.map D.str) : ∃ s ∈ l, q = .str s := by
  obtain ⟨s, hs, e⟩ := List.mem_map.mp h
  exact ⟨s, hs, e.symm⟩
theorem w0_in {x : Str} (h : x ∈ sL) : ∃ i, i < 4 ∧ x = w0 i := by
  simp only [sL, List.mem_cons, List.not_mem_nil, or_false] at h
  rcases h with rfl | rfl | rfl | rfl
  · exact ⟨0, by decide, rfl⟩
  · exact ⟨1, by decide, rfl⟩
  · exact ⟨2, by decide, rfl⟩
  · exact ⟨3, by decide, rfl⟩
theorem w1_in {x : Str} (h : x ∈ mdL) : ∃ i, i < 3 ∧ x = w1 i := by
  simp only [mdL, List.mem_cons, List.not_mem_nil, or_false] at h
  rcases h with rfl | rfl | rfl
  · exact ⟨0, by decide, rfl⟩
  · exact ⟨1, by decide, rfl⟩
  · exact ⟨2, by decide, rfl⟩
theorem w2_in {x : Str} (h : x ∈ atL) : ∃ i, i < 2 ∧ x = w2 i := by
  simp only [atL, List.mem_cons, List.not_mem_nil, or_false] at h
  rcases h with rfl | rfl
  · exact ⟨0, by decide, rfl⟩
  · exact ⟨1, by decide, rfl⟩
theorem w3_in {x : Str} (h : x ∈ mvL) : ∃ i, i < 6 ∧ x = w3 i := by
  simp only [mvL, List.mem_cons, List.not_mem_nil, or_false] at h
  rcases h with rfl | rfl | rfl | rfl | rfl | rfl
  · exact ⟨0, by decide, rfl⟩
  · exact ⟨1, by decide, rfl⟩
  · exact ⟨2, by decide, rfl⟩
  · exact ⟨3, by decide, rfl⟩
  · exact ⟨4, by decide, rfl⟩
  · exact ⟨5, by decide, rfl⟩
theorem w4_in {x : Str} (h : x ∈ agL) : ∃ i, i < 2 ∧ x = w4 i := by
  simp only [agL, List.mem_cons, List.not_mem_nil, or_false] at h
  rcases h with rfl | rfl
  · exact ⟨0, by decide, rfl⟩
  · exact ⟨1, by decide, rfl⟩
theorem w5_in {x : Str} (h : x ∈ wrL) : ∃ i, i < 2 ∧ x = w5 i := by
  simp only [wrL, List.mem_cons, List.not_mem_nil, or_false] at h
  rcases h with rfl | rfl
  · exact ⟨0, by decide, rfl⟩
  · exact ⟨1, by decide, rfl⟩
/-- a drawn book -/
theorem book_ok {A : HA} {k : Int} (dr : Drawn A 2 0 3 k) (hk : k + 10 < 2 ^ 59) : ∃ (b : Bk) (A' : HA), Bk.ok b ∧ c_law_book [.ref 2] A = .ok (kD b) A' ∧ Dr A A' (k + 6) := by
  let E0 : SA := [some (.ref 2)]
  obtain ⟨q1, A1, m1, e1, d1⟩ := ev_pick (E := E0) (A := A) (i := 0) (xs := sL.map .str) (cl := cLst (cCons (cC (.str "always")) (cCons (cC (.str "below")) (cCons (cC (.str "shown")) (cCons (cC (.str "never")) cNil))))) rfl rfl dr (by omega) 4 rfl
  obtain ⟨q2, A2, m2, e2, d2⟩ := ev_pick (E := E0) (A := A1) (i := 0) (xs := mdL.map .str) (cl := cLst (cCons (cC (.str "bare")) (cCons (cC (.str "over")) (cCons (cC (.str "joins")) cNil)))) rfl rfl d1.dr (by omega) 3 rfl
  obtain ⟨q3, A3, m3, e3, d3⟩ := ev_pick (E := E0) (A := A2) (i := 0) (xs := atL.map .str) (cl := cLst (cCons (cC (.str "bare")) (cCons (cC (.str "keep")) cNil))) rfl rfl d2.dr (by omega) 2 rfl
  obtain ⟨q4, A4, m4, e4, d4⟩ := ev_pick (E := E0) (A := A3) (i := 0) (xs := mvL.map .str) (cl := cLst (cCons (cC (.str "path")) (cCons (cC (.str "seen")) (cCons (cC (.str "name")) (cCons (cC (.str "near")) (cCons (cC (.str "copy")) (cCons (cC (.str "keep")) cNil))))))) rfl rfl d3.dr (by omega) 6 rfl
  obtain ⟨q5, A5, m5, e5, d5⟩ := ev_pick (E := E0) (A := A4) (i := 0) (xs := agL.map .str) (cl := cLst (cCons (cC (.str "kept")) (cCons (cC (.str "anew")) cNil))) rfl rfl d4.dr (by omega) 2 rfl
  obtain ⟨q6, A6, m6, e6, d6⟩ := ev_pick (E := E0) (A := A5) (i := 0) (xs := wrL.map .str) (cl := cLst (cCons (cC (.str "index")) (cCons (cC (.str "copy")) cNil))) rfl rfl d5.dr (by omega) 2 rfl
  obtain ⟨s, hs, rfl⟩ := str_mem m1
  obtain ⟨md, h1, rfl⟩ := str_mem m2
  obtain ⟨a, h2, rfl⟩ := str_mem m3
  obtain ⟨mv, h3, rfl⟩ := str_mem m4
  obtain ⟨ag, h4, rfl⟩ := str_mem m5
  obtain ⟨wr, h5, rfl⟩ := str_mem m6
  obtain ⟨i0, b0, rfl⟩ := w0_in hs
  obtain ⟨i1, b1, rfl⟩ := w1_in h1
  obtain ⟨i2, b2, rfl⟩ := w2_in h2
  obtain ⟨i3, b3, rfl⟩ := w3_in h3
  obtain ⟨i4, b4, rfl⟩ := w4_in h4
  obtain ⟨i5, b5, rfl⟩ := w5_in h5
  have dd := ((((d1.trans d2).trans d3).trans d4).trans d5).trans d6
  refine ⟨⟨i0, i1, i2, i3, i4, i5⟩, A6, ⟨b0, b1, b2, b3, b4, b5⟩, ?_, by rw [show k + 6 = k + 1 + 1 + 1 + 1 + 1 + 1 by omega]; exact dd⟩
  unfold c_law_book
  exact c_run (ev_ret (ev_tup (ev_cons e1 (ev_cons e2 (ev_cons e3 (ev_cons e4 (ev_cons e5 (ev_cons e6 ev_nil))))))))
end Sm
end
section
set_option autoImplicit false
namespace Sm
open PySem PySem.Spec PyProof.Rows L2
open St
theorem stand_chk : allN 160 (fun n => tells (.bl true) (c_is_stand [sD n] [])) = true := by decide +kernel
theorem stand_ok {n : Nat} (hn : n < 160) (A : HA) : isoF c_is_stand [sD n] A = .ok (.bl true) A := iso_tells rfl (get_all stand_chk hn) rfl A
theorem need_chk : (allN 4 fun s => allN 3 fun m => allN 2 fun a => allN 6 fun v => allN 2 fun g => allN 2 fun w => tells (kD ⟨s, m, a, v, g, w⟩) (c_need_book [kD ⟨s, m, a, v, g, w⟩] [])) = true := by decide +kernel
theorem need_ok {k : Bk} (hk : Bk.ok k) (A : HA) : isoF c_need_book [kD k] A = .ok (kD k) A := by
  obtain ⟨s, m, a, v, g, w⟩ := k
  obtain ⟨h1, h2, h3, h4, h5, h6⟩ := hk
  exact iso_tells rfl (get_all (get_all (get_all (get_all (get_all (get_all need_chk h1) h2) h3) h4) h5) h6) rfl A
theorem nst_ok {n : Nat} (hn : n < 160) (A : HA) : c_need_stand [sD n] A = .ok .non A := by
  have e : b_need_stand (startA 1 [sD n]) A = .nx (startA 1 [sD n]) A := by
    unfold b_need_stand
    exact ifF_nx (ev_not (b := true) (ev_cB ((ev_call1 (d := sD n) (A1 := A) rfl).trans (stand_ok hn A))))
  unfold c_need_stand runB
  rw [e]
theorem isf_ok {n : Nat} (hn : n < 160) (A : HA) : isoF c_is_fault [sD n] A = .ok (.bl (fault n)) A := by
  refine iso_ok (d := .bl (fault n)) (A0 := []) rfl (c_run ?_) rfl
  unfold b_is_fault
  rw [cSeq_nx (ev_expr ((ev_call1 (d := sD n) (A1 := []) rfl).trans (nst_ok hn [])))]
  exact ev_ret ((ev_call1 (d := sD n) (A1 := []) rfl).trans (fi_ok hn []))
theorem lt_uniq : ∀ {l m : List Nat}, l.Pairwise (· < ·) → m.Pairwise (· < ·) → (∀ x, x ∈ l ↔ x ∈ m) → l = m
  | [], [], _, _, _ => rfl
  | [], y :: m, _, _, h => absurd ((h y).mpr List.mem_cons_self) List.not_mem_nil
  | x :: l, [], _, _, h => absurd ((h x).mp List.mem_cons_self) List.not_mem_nil
  | x :: l, y :: m, h1, h2, h => by
    obtain ⟨a1, a2⟩ := List.pairwise_cons.mp h1
    obtain ⟨b1, b2⟩ := List.pairwise_cons.mp h2
    have e : x = y := by
      rcases List.mem_cons.mp ((h x).mp List.mem_cons_self) with q | q
      · exact q
      · rcases List.mem_cons.mp ((h y).mpr List.mem_cons_self) with r | r
        · exact r.symm
        · have := a1 y r
          have := b1 x q
          omega
    subst e
    congr 1
    refine lt_uniq a2 b2 fun z => ?_
    have hz := h z
    rw [List.mem_cons, List.mem_cons] at hz
    constructor
    · intro q
      rcases hz.mp (.inr q) with r | r
      · exact absurd (a1 z q) (by omega)
      · exact r
    · intro q
      rcases hz.mpr (.inr q) with r | r
      · exact absurd (b1 z q) (by omega)
      · exact r
theorem ord2_pw (a b : Nat) : (ord2 [a, b]).Pairwise (· < ·) := by
  unfold ord2
  dsimp only
  cases h : Nat.blt a b with
  | true => have : a < b := Nat.le_of_ble_eq_true h; simp [this]
  | false =>
    cases h2 : Nat.beq a b with
    | true => simp
    | false =>
      have h3 : ¬ a < b := fun z => by
        have := Nat.ble_eq_true_of_le (show a + 1 ≤ b from z)
        rw [show Nat.blt a b = Nat.ble (a + 1) b from rfl, this] at h
        cases h
      have h4 : a ≠ b := fun z => by rw [z, Nat.beq_refl] at h2; cases h2
      have : b < a := by omega
      simp [this]
theorem behind_two (k : Bk) (n : Nat) : ∃ a b, behind k n = [a, b] := by
  unfold behind
  cases Nat.beq (tru n) 2 with
  | true => exact ⟨_, _, rfl⟩
  | false => exact ⟨_, _, rfl⟩
theorem behind_lt {k : Bk} (hk : Bk.ok k) {n : Nat} (hn : n < 160) (hf : fault n = false) : ∀ x ∈ behind k n, x < 160 := fun x hx => (behind_RL hk hn hf hx).elim (fun e => e ▸ hn) (RL_lt x)
theorem canon_behind {k : Bk} (hk : Bk.ok k) {n : Nat} (hn : n < 160) (hf : fault n = false) : canon (behind k n) = ord2 (behind k n) := by
  refine lt_uniq canon_sorted ?_ fun x => ?_
  · obtain ⟨a, b, e⟩ := behind_two k n
    rw [e]
    exact ord2_pw a b
  · rw [canon_mem (behind_lt hk hn hf), ord2_mem]
theorem lm_pw (k : Bk) (n t i : Nat) : (lm k n t i).Pairwise (· < ·) := by
  unfold lm
  cases canMove n t with
  | false => exact .nil
  | true =>
    show (moved k n (bel t) (wy1 i) (wy2 i)).Pairwise _
    unfold moved
    cases isDir n with
    | false =>
      cases Nat.beq (bel t) 0 || Nat.beq (bel t) 2 with
      | false => simp
      | true => simp
    | true =>
      cases Nat.beq (tru n) 1 with
      | true => simp
      | false =>
        dsimp only
        split
        · simp
        · cases Nat.beq (bel t) 1 && Nat.beq (tru n) 3 with
          | false => simp
          | true => simp
theorem lm_lt {k : Bk} (hk : Bk.ok k) {n t i : Nat} (hn : n < 160) (ht : t < 160) (hi : i < 4) : ∀ x ∈ lm k n t i, x < 160 := fun x hx => by
  unfold lm at hx
  cases h : canMove n t with
  | false => rw [h] at hx; cases hx
  | true =>
    rw [h] at hx
    obtain ⟨c1, _, c3, _⟩ := canMove_iff.mp h
    exact RL_lt x (moved_RL hk hn c3 c1 (bel_lt ht) hi hx)
theorem lb_lt {k : Bk} (hk : Bk.ok k) {n : Nat} (hn : n < 160) : ∀ x ∈ lb k n, x < 160 := fun x hx => by
  unfold lb at hx
  cases h : fault n with
  | true => rw [h] at hx; cases hx
  | false =>
    rw [h] at hx
    exact behind_lt hk hn h x (ord2_mem.mp hx)
theorem behind_eq {k : Bk} (hk : Bk.ok k) {n : Nat} (hn : n < 160) (A : HA) : isoF c_behind [kD k, sD n] A = .ok (.tup ((lb k n).map sD)) A := by
  refine iso_ok (d := .tup ((lb k n).map sD)) (A0 := []) rfl (c_run ?_) (pure_sD _)
  unfold b_behind
  rw [cSeq_nx (ev_expr ((ev_call1 (d := kD k) (A1 := []) rfl).trans (need_ok hk []))), cSeq_nx (ev_expr ((ev_call1 (d := sD n) (A1 := []) rfl).trans (nst_ok hn [])))]
  refine ev_ret ((ev_if (ev_cB ((ev_call1 (d := sD n) (A1 := []) rfl).trans (fi_ok hn [])))).trans ?_)
  unfold lb
  cases h : fault n with
  | true => rfl
  | false =>
    obtain ⟨a, b, e2⟩ := behind_two k n
    have hc : (canon (behind k n)).length < 63 := by
      rw [canon_behind hk hn h]
      have := lb_len k n
      unfold lb at this
      rw [h] at this
      have : (ord2 (behind k n)).length ≤ 2 := this
      omega
    have e := sortAll_st (ca := cCons (cCall (isoF c_behind_in) (cCons (cVar 0) (cCons (cVar 1) cNil))) cNil) (E := startA 2 [kD k, sD n]) (A := []) (A1 := []) (l := behind k n) (ev_one ((ev_call2 (d := kD k) (e := sD n) (A1 := []) (A2 := []) rfl rfl).trans (bi_ok hk hn h []))) (behind_lt hk hn h) (by rw [e2]; show 2 < 100000; decide) hc
    rw [canon_behind hk hn h] at e
    show (cCall pTupOf (cCons (cSortAll (cCons (cCall (isoF c_behind_in) (cCons (cVar 0) (cCons (cVar 1) cNil))) cNil)) cNil)) (startA 2 [kD k, sD n]) [] = _
    exact (ev_call1 e).trans rfl
theorem moved_eq {k : Bk} (hk : Bk.ok k) {n t i : Nat} (hn : n < 160) (ht : t < 160) (hi : i < 4) (A : HA) : isoF c_moved [kD k, sD n, sD t, .bl (wy1 i), .bl (wy2 i)] A = .ok (.tup ((lm k n t i).map sD)) A := by
  refine iso_ok (d := .tup ((lm k n t i).map sD)) (A0 := []) rfl (c_run ?_) (pure_sD _)
  unfold b_moved
  rw [cSeq_nx (ev_expr ((ev_call1 (d := kD k) (A1 := []) rfl).trans (need_ok hk []))), cSeq_nx (ev_expr ((ev_call1 (d := sD n) (A1 := []) rfl).trans (nst_ok hn []))), cSeq_nx (ev_expr ((ev_call1 (d := sD t) (A1 := []) rfl).trans (nst_ok ht [])))]
  refine ev_ret ((ev_if (ev_cB ((ev_call2 (d := sD n) (e := sD t) (A1 := []) (A2 := []) rfl rfl).trans (cmi_ok hn ht [])))).trans ?_)
  have pw := lm_pw k n t i
  have lt := lm_lt hk hn ht hi
  have ln := lm_len k n t i
  unfold lm at pw lt ln ⊢
  cases h : canMove n t with
  | false => rfl
  | true =>
    rw [h] at pw lt ln
    have e : cCall pSortedX (cCons (cCall (isoF c_moved_in) (cCons (cVar 0) (cCons (cVar 1) (cCons (cVar 2) (cCons (cVar 3) (cCons (cVar 4) cNil)))))) cNil) (startA 5 [kD k, sD n, sD t, .bl (wy1 i), .bl (wy2 i)]) [] = .ok (lS (moved k n (bel t) (wy1 i) (wy2 i))) [] :=
      (ev_call1 (d := lS (moved k n (bel t) (wy1 i) (wy2 i))) (A1 := []) (ev_call (ds := [kD k, sD n, sD t, .bl (wy1 i), .bl (wy2 i)]) (A1 := []) rfl (mi_ok hk hn ht h hi []))).trans (sortX_st (List.Perm.refl _) pw lt (by have : (moved k n (bel t) (wy1 i) (wy2 i)).length ≤ 2 := ln; omega))
    exact (ev_call1 e).trans rfl
noncomputable def wdL (n : Nat) : List D := [.str (bW (bel n)), .str (eW (ent n)), .str (tW (tru n))]
noncomputable def oddsL (n : Nat) : List D := [.non, .int 5, .str "own", .tup [], .tup [.str (bW (bel n)), .str (eW (ent n))], .tup [.str (bW (bel n)), .str (eW (ent n)), .str (tW (tru n)), .str "own"], .lst (wdL n), .tup [.str "none", .str "none"], .tup [.str "None", .str "none", .str "none"],
  .tup [.str "none", .str "none", .non], .tup [.int 0, .str "none", .str "none"], .tup [.str "none", .str "names", .str "none"], .tup [.str "made", .str "none", .str "none"],
  .tup [.str "none", .str "none", .str "led"], .tup [.str "own", .str "none", .str "none"], .tup [sD n], .tup [.str "none", .tup [.str "none"], .str "none"], .dct [] []]
theorem odds_ok (n : Nat) (A : HA) : c_law_odds [sD n] A = .ok (.lst (oddsL n)) A := by kernel_rfl
/-- a text that is short -/
noncomputable def word60 (p : PyData) : Bool := p.showable && decide (p.shown.length ≤ 60)
theorem sho_all : ∀ {ps : List PyData}, (∀ p ∈ ps, p.showable = true) → PyData.showableAll ps = true
  | [], _ => rfl
  | p :: r, h => by
    show (p.showable && PyData.showableAll r) = true
    rw [h p List.mem_cons_self, sho_all fun q hq => h q (List.mem_cons_of_mem _ hq)]
    rfl
theorem w60 {ps : List PyData} (h : ∀ p ∈ ps, word60 p = true) : PyData.showableAll ps = true ∧ ∀ t ∈ PyData.shownAll ps, t.length ≤ 60 := by
  have k : ∀ p ∈ ps, p.showable = true ∧ p.shown.length ≤ 60 := fun p hp => by
    have := h p hp
    unfold word60 at this
    rw [Bool.and_eq_true] at this
    exact ⟨this.1, of_decide_eq_true this.2⟩
  refine ⟨sho_all fun p hp => (k p hp).1, fun t ht => ?_⟩
  rw [shownAll_map] at ht
  obtain ⟨p, hp, rfl⟩ := List.mem_map.mp ht
  exact (k p hp).2
theorem short_tup {ps : List PyData} (h : ∀ p ∈ ps, word60 p = true) (hn : ps.length ≤ 4) : shortP (.tuple ps) = true := by
  obtain ⟨h1, h2⟩ := w60 h
  have hl : (PyData.tuple ps).shown.length ≤ 3000 := by
    show (tupleText (PyData.shownAll ps)).length ≤ 3000
    have := tup_len h2
    rw [shownAll_map, List.length_map, ← shownAll_map] at this
    have := Nat.mul_le_mul_right (60 + 2) hn
    omega
  unfold shortP
  rw [Bool.and_eq_true]
  exact ⟨h1, decide_eq_true hl⟩
theorem short_lst {ps : List PyData} (h : ∀ p ∈ ps, word60 p = true) (hn : ps.length ≤ 4) : shortP (.list ps) = true := by
  obtain ⟨h1, h2⟩ := w60 h
  have hl : (PyData.list ps).shown.length ≤ 3000 := by
    show (listText (PyData.shownAll ps)).length ≤ 3000
    have := lst_len h2
    rw [shownAll_map, List.length_map, ← shownAll_map] at this
    have := Nat.mul_le_mul_right (60 + 2) hn
    omega
  unfold shortP
  rw [Bool.and_eq_true]
  exact ⟨h1, decide_eq_true hl⟩
theorem bW_w : ∀ b, word60 (.str (bW b)) = true
  | 0 => by decide +kernel
  | 1 => by decide +kernel
  | 2 => by decide +kernel
  | _ + 3 => (show word60 (.str "none") = true by decide +kernel)
theorem eW_w : ∀ b, word60 (.str (eW b)) = true
  | 0 => by decide +kernel
  | 1 => by decide +kernel
  | 2 => by decide +kernel
  | 3 => by decide +kernel
  | 4 => by decide +kernel
  | 5 => by decide +kernel
  | 6 => by decide +kernel
  | _ + 7 => (show word60 (.str "off") = true by decide +kernel)
theorem tW_w : ∀ b, word60 (.str (tW b)) = true
  | 0 => by decide +kernel
  | 1 => by decide +kernel
  | 2 => by decide +kernel
  | 3 => by decide +kernel
  | _ + 4 => (show word60 (.str "own") = true by decide +kernel)
theorem sP_w60 : allN 160 (fun n => word60 (sP n)) = true := by decide +kernel
structure OddS (o : D) : Prop where
  pl : pureL o = true
  pd : pureD o = true
  no : ∃ A0, c_is_stand [o] [] = .ok (.bl false) A0
  py : ∃ p, (∀ A, toPy A 58 o = some p) ∧ shortP p = true ∧ (p.hasDict = false ∨ noLst p = true)
theorem long2 (a b : Str) : c_is_stand [.tup [.str a, .str b]] [] = .ok (.bl false) [] := by kernel_rfl
theorem long4 (a b c d : Str) : c_is_stand [.tup [.str a, .str b, .str c, .str d]] [] = .ok (.bl false) [] := by kernel_rfl
theorem long1 (d : D) : c_is_stand [.tup [d]] [] = .ok (.bl false) [] := by kernel_rfl
theorem longL (ds : List D) : c_is_stand [.lst ds] [] = .ok (.bl false) [] := by kernel_rfl
theorem odd_all {n : Nat} (hn : n < 160) : ∀ o ∈ oddsL n, OddS o := by
  intro o ho
  simp only [oddsL, List.mem_cons, List.not_mem_nil, or_false] at ho
  rcases ho with rfl | rfl | rfl | rfl | rfl | rfl | rfl | rfl | rfl | rfl | rfl | rfl | rfl | rfl | rfl | rfl | rfl | rfl
  · exact ⟨rfl, rfl, ⟨_, rfl⟩, _, fun _ => rfl, by decide +kernel, .inl rfl⟩
  · exact ⟨rfl, rfl, ⟨_, rfl⟩, _, fun _ => rfl, by decide +kernel, .inl rfl⟩
  · exact ⟨rfl, rfl, ⟨_, rfl⟩, _, fun _ => rfl, by decide +kernel, .inl rfl⟩
  · exact ⟨rfl, rfl, ⟨_, rfl⟩, _, fun _ => rfl, by decide +kernel, .inl rfl⟩
  · exact ⟨rfl, rfl, ⟨_, long2 _ _⟩, .tuple [.str (bW (bel n)), .str (eW (ent n))], fun _ => rfl, short_tup (fun p hp => by
      simp only [List.mem_cons, List.not_mem_nil, or_false] at hp
      rcases hp with rfl | rfl
      · exact bW_w _
      · exact eW_w _) (by simp), .inl rfl⟩
  · exact ⟨rfl, rfl, ⟨_, long4 _ _ _ _⟩, .tuple [.str (bW (bel n)), .str (eW (ent n)), .str (tW (tru n)), .str "own"], fun _ => rfl, short_tup (fun p hp => by
      simp only [List.mem_cons, List.not_mem_nil, or_false] at hp
      rcases hp with rfl | rfl | rfl | rfl
      · exact bW_w _
      · exact eW_w _
      · exact tW_w _
      · exact tW_w 4) (by simp), .inl rfl⟩
  · exact ⟨rfl, rfl, ⟨_, longL _⟩, .list [.str (bW (bel n)), .str (eW (ent n)), .str (tW (tru n))], fun _ => rfl, short_lst (fun p hp => by
      simp only [List.mem_cons, List.not_mem_nil, or_false] at hp
      rcases hp with rfl | rfl | rfl
      · exact bW_w _
      · exact eW_w _
      · exact tW_w _) (by simp), .inl rfl⟩
  · exact ⟨rfl, rfl, ⟨_, rfl⟩, _, fun _ => rfl, by decide +kernel, .inl rfl⟩
  · exact ⟨rfl, rfl, ⟨_, rfl⟩, _, fun _ => rfl, by decide +kernel, .inl rfl⟩
  · exact ⟨rfl, rfl, ⟨_, rfl⟩, _, fun _ => rfl, by decide +kernel, .inl rfl⟩
  · exact ⟨rfl, rfl, ⟨_, rfl⟩, _, fun _ => rfl, by decide +kernel, .inl rfl⟩
  · exact ⟨rfl, rfl, ⟨_, rfl⟩, _, fun _ => rfl, by decide +kernel, .inl rfl⟩
  · exact ⟨rfl, rfl, ⟨_, rfl⟩, _, fun _ => rfl, by decide +kernel, .inl rfl⟩
  · exact ⟨rfl, rfl, ⟨_, rfl⟩, _, fun _ => rfl, by decide +kernel, .inl rfl⟩
  · exact ⟨rfl, rfl, ⟨_, rfl⟩, _, fun _ => rfl, by decide +kernel, .inl rfl⟩
  · exact ⟨rfl, rfl, ⟨_, long1 _⟩, .tuple [sP n], fun _ => rfl, short_tup (fun p hp => by
      have : p = sP n := by simpa using hp
      rw [this]
      exact get_all sP_w60 hn) (by simp), .inl rfl⟩
  · exact ⟨rfl, rfl, ⟨_, rfl⟩, _, fun _ => rfl, by decide +kernel, .inl rfl⟩
  · exact ⟨rfl, rfl, ⟨_, rfl⟩, _, fun _ => rfl, by decide +kernel, .inr rfl⟩
section
variable {o : D}
theorem cSeq_exc {c c' : CS} {E E' : SA} {A A' : HA} {j : Nat} {ds : List D} (h : c E A = .exc j ds E' A') : cSeq c c' E A = .exc j ds E' A' := by unfold cSeq; rw [h]
theorem expr_exc {ca : CE} {E : SA} {A A' : HA} {j : Nat} {ds : List D} (h : ca E A = .exc j ds A') : cExpr ca E A = .exc j ds E A' := by unfold cExpr; rw [h]; rfl
theorem nsd_no (h : OddS o) (A : HA) : c_need_stand [o] A = .exc 8 [o] A := by
  obtain ⟨A0, hn⟩ := h.no
  have pd : pureDs [o] = true := by show (pureD o && true) = true; rw [h.pd]; rfl
  have e : b_need_stand (startA 1 [o]) A = .exc 8 [o] (startA 1 [o]) A := by
    unfold b_need_stand
    exact (ev_ifT (ev_not (b := false) (ev_cB ((ev_call1 (d := o) (A1 := A) rfl).trans (iso_ok (d := .bl false) pd hn rfl))))).trans rfl
  unfold c_need_stand runB
  rw [e]
theorem isf_no (h : OddS o) : c_is_fault [o] [] = .exc 8 [o] [] := by
  have e : b_is_fault (startA 1 [o]) [] = .exc 8 [o] (startA 1 [o]) [] := by
    unfold b_is_fault
    exact cSeq_exc (expr_exc ((ev_call1 (d := o) (A1 := []) rfl).trans (nsd_no h [])))
  unfold c_is_fault runB
  rw [e]
theorem bh_no {k : Bk} (hk : Bk.ok k) (h : OddS o) : c_behind [kD k, o] [] = .exc 8 [o] [] := by
  have e : b_behind (startA 2 [kD k, o]) [] = .exc 8 [o] (startA 2 [kD k, o]) [] := by
    unfold b_behind
    rw [cSeq_nx (ev_expr ((ev_call1 (d := kD k) (A1 := []) rfl).trans (need_ok hk [])))]
    exact cSeq_exc (expr_exc ((ev_call1 (d := o) (A1 := []) rfl).trans (nsd_no h [])))
  unfold c_behind runB
  rw [e]
theorem mv_no1 {k : Bk} (hk : Bk.ok k) (h : OddS o) : c_moved [kD k, o, .non, .bl true, .bl true] [] = .exc 8 [o] [] := by
  have e : b_moved (startA 5 [kD k, o, .non, .bl true, .bl true]) [] = .exc 8 [o] (startA 5 [kD k, o, .non, .bl true, .bl true]) [] := by
    unfold b_moved
    rw [cSeq_nx (ev_expr ((ev_call1 (d := kD k) (A1 := []) rfl).trans (need_ok hk [])))]
    exact cSeq_exc (expr_exc ((ev_call1 (d := o) (A1 := []) rfl).trans (nsd_no h [])))
  unfold c_moved runB
  rw [e]
theorem mv_no2 {k : Bk} (hk : Bk.ok k) {n : Nat} (hn : n < 160) (h : OddS o) : c_moved [kD k, sD n, o, .bl false, .bl true] [] = .exc 8 [o] [] := by
  have e : b_moved (startA 5 [kD k, sD n, o, .bl false, .bl true]) [] = .exc 8 [o] (startA 5 [kD k, sD n, o, .bl false, .bl true]) [] := by
    unfold b_moved
    rw [cSeq_nx (ev_expr ((ev_call1 (d := kD k) (A1 := []) rfl).trans (need_ok hk []))), cSeq_nx (ev_expr ((ev_call1 (d := sD n) (A1 := []) rfl).trans (nst_ok hn [])))]
    exact cSeq_exc (expr_exc ((ev_call1 (d := o) (A1 := []) rfl).trans (nsd_no h [])))
  unfold c_moved runB
  rw [e]
theorem class_stand (o : D) : ∃ A', c_law_class [.exc 8 [o]] [] = .ok (.tup [.str "stand", o]) A' := ⟨_, rfl⟩
theorem said_no {j N : Nat} {cb : CE} {caps : List D} (h : cb (startA N caps) [] = .exc 8 [o] []) (hp : pureLs caps = true) (ho : pureL o = true) : ∃ A', c_law_said tab0 (tab1 j (N, cb)) [.lam j caps] [] = .ok (.tup [.str "stand", o]) A' := by
  obtain ⟨A', hc⟩ := class_stand o
  refine ⟨A', c_run ?_⟩
  unfold b_law_said
  have e1 : cAsg (cTup (cCons (cC .non) (cCons (cC .non) cNil))) (gTupN 2 (gsCons (gSetN 1) (gsCons (gSetN 2) gsNil))) (startA 4 [.lam j caps]) [] = .nx [some (.lam j caps), some .non, some .non, none] [] := rfl
  rw [cSeq_nx e1]
  have e2 : cCallV tab0 (tab1 j (N, cb)) 0 cNil [some (.lam j caps), some .non, some .non, none] [] = .exc 8 [o] [] := by
    show (match vSel tab0 (tab1 j (N, cb)) (.lam j caps) with
      | some c => (cNil [some (.lam j caps), some .non, some .non, none] []).bind fun ds A1 => c ds A1
      | none => .no) = _
    have e : vSel tab0 (tab1 j (N, cb)) (.lam j caps) = some (lamRun N cb caps) := by
      show Option.map (fun p : Nat × CE => lamRun p.1 p.2 caps) (if j = j then some (N, cb) else none) = _
      rw [if_pos rfl]
      rfl
    rw [e]
    show lamRun N cb caps [] [] = _
    unfold lamRun
    rw [if_pos ⟨rfl, hp⟩]
    show (match cb (startA N caps) [] with
      | .ok d _ => if okR d [] = true then R.ok d [] else .no
      | .exc k es _ => if pureLs es = true ∧ (pureRs es = true ∨ noLk [] = true) then .exc k es [] else .no
      | .no => .no) = _
    rw [h]
    exact if_pos ⟨by show (pureL o && true) = true; rw [ho]; rfl, .inr rfl⟩
  have e3 : cTryV mt0 3 2 (cSet 1 (cCallV tab0 (tab1 j (N, cb)) 0 cNil)) [some (.lam j caps), some .non, some .non, none] [] = .nx [some (.lam j caps), some .non, some (.exc 8 [o]), none] [] := by
    have e : cSet 1 (cCallV tab0 (tab1 j (N, cb)) 0 cNil) [some (.lam j caps), some .non, some .non, none] [] = .exc 8 [o] [some (.lam j caps), some .non, some .non, none] [] := by unfold cSet; rw [e2]; rfl
    unfold cTryV
    rw [e]
    rfl
  rw [cSeq_nx e3]
  refine ev_ret ((ev_if (b := false) rfl).trans ?_)
  exact (ev_call1 (d := .exc 8 [o]) (A1 := []) rfl).trans hc
theorem callL_ok {c : CF} {j : Nat} {pre caps : List D} {js : List Nat} {E : SA} {A A' : HA} {d : D} (hc : getCaps js E = some caps) (hp : pureLs caps = true) (h : c [.lam j (pre ++ caps)] [] = .ok d A') (hd : pureL d = true) (hr : noLk A = true) : cCallL c j pre js cNil E A = .ok d A := by
  unfold cCallL
  show (match getCaps js E with
    | some caps => if pureLs [] = true ∧ pureLs caps = true then (match c ([] ++ [D.lam j (pre ++ caps)]) [] with
      | .ok d _ => if okR d A = true then R.ok d A else .no
      | _ => .no) else .no
    | none => .no) = _
  rw [hc]
  show (if pureLs [] = true ∧ pureLs caps = true then (match c [D.lam j (pre ++ caps)] [] with
      | .ok d _ => if okR d A = true then R.ok d A else .no
      | _ => .no) else .no) = _
  rw [if_pos ⟨rfl, hp⟩, h]
  exact if_pos (by unfold okR; rw [hd, hr, Bool.or_true]; rfl)
theorem newL_ok {ca : CA} {E : SA} {A : HA} {ds : List D} (h : ca E A = .ok ds A) : cNewL ca E A = .ok (.ref A.length) (A ++ [.lst ds]) := by
  unfold cNewL
  rw [h]
  rfl
theorem catH_ok {A : HA} {xs ys : List D} (h : xs.length + ys.length ≤ 1000000) : pCat true (.ref A.length) (.lst ys) (A ++ [.lst xs]) = .ok (.ref (A.length + 1)) ((A ++ [.lst xs]) ++ [.lst (xs ++ ys)]) := by
  have e : listOf (A ++ [.lst xs]) (.ref A.length) = some xs := by
    show (match (A ++ [AO.lst xs])[A.length]? with
      | some (.lst ds) => some ds
      | _ => none) = _
    rw [at_end]
  unfold pCat
  rw [e, show listOf (A ++ [.lst xs]) (.lst ys) = some ys from rfl]
  show (if xs.length + ys.length ≤ sizeLine then (if true = true then R.ok (D.ref (A ++ [AO.lst xs]).length) ((A ++ [.lst xs]) ++ [.lst (xs ++ ys)]) else R.ok (D.lst (xs ++ ys)) (A ++ [.lst xs])) else .no) = _
  rw [if_pos (by rw [sizeLine_eq]; omega), if_pos rfl, List.length_append]
  rfl
theorem ne_self (x : Str) (A : HA) : pNeX (.str x) (.str x) A = .ok (.bl false) A := by
  have h : pNeX (.str x) (.str x) A = .ok (.bl (!PyData.eqv (.str x) (.str x))) A := rfl
  have e : PyData.eqv (.str x) (.str x) = (x == x) := rfl
  rw [h, e, beq_self_eq_true]
  rfl
noncomputable abbrev cOddB : CS := (cSeq (cSet 2 (cNewL (cCons (cCallL (c_law_said tab0 (tab1 1 (1, l1))) 1 [] [3] cNil) (cCons (cCallL (c_law_said tab0 (tab1 0 (3, l0))) 0 [(.int 0)] [0, 3] cNil) cNil)))) (cSeq (cSet 2 (c2 (pCat true) (cVar 2) (cLst (cCons (cCallL (c_law_said tab0 (tab1 2 (2, l2))) 2 [] [0, 3] cNil) cNil)))) (cSeq (cExpr (cMeth "list" pAppend (cVar 2) (cCons (cCallL (c_law_said tab0 (tab1 3 (3, l3))) 3 [] [0, 3, 1] cNil) cNil))) (cIfS (cOr (cB (c2 (pIsB true) (cCall (isoF c_is_stand) (cCons (cVar 3) cNil)) (cC (.bl false)))) (cB (c2 pNeX (cCall pRepr (cCons (cVar 2) cNil)) (cCall pRepr (cCons (c2 pMulX (cLst (cCons (cTup (cCons (cC (.str "stand")) (cCons (cVar 3) cNil))) cNil)) (cC (.int 4))) cNil))))) (cRet (cC (.bl false))) cSkip))))
theorem oddB_ok {k : Bk} (hk : Bk.ok k) {n : Nat} (hn : n < 160) (h : OddS o) {x2 : Option D} (A : HA) (hA : noLk A = true) :
    ∃ x2' A', noLk A' = true ∧ cOddB [some (kD k), some (sD n), x2, some o] A = .nx [some (kD k), some (sD n), x2', some o] A' := by
  let t : D := .tup [.str "stand", o]
  have tl : pureL t = true := by show (true && (pureL o && true)) = true; rw [h.pl]; rfl
  obtain ⟨B1, s1⟩ := said_no (j := 1) (N := 1) (cb := l1) (caps := [o]) (show l1 (startA 1 [o]) [] = _ from (ev_call1 (d := o) (A1 := []) rfl).trans (isf_no h)) (by show (pureL o && true) = true; rw [h.pl]; rfl) h.pl
  obtain ⟨B2, s2⟩ := said_no (j := 0) (N := 3) (cb := l0) (caps := [.int 0, kD k, o]) (show l0 (startA 3 [.int 0, kD k, o]) [] = _ from (ev_call2 (d := kD k) (e := o) (A1 := []) (A2 := []) rfl rfl).trans (bh_no hk h)) (by show (pureL o && true) = true; rw [h.pl]; rfl) h.pl
  obtain ⟨B3, s3⟩ := said_no (j := 2) (N := 2) (cb := l2) (caps := [kD k, o]) (show l2 (startA 2 [kD k, o]) [] = _ from (ev_call (ds := [kD k, o, .non, .bl true, .bl true]) (A1 := []) rfl (mv_no1 hk h))) (by show (pureL o && true) = true; rw [h.pl]; rfl) h.pl
  obtain ⟨B4, s4⟩ := said_no (j := 3) (N := 3) (cb := l3) (caps := [kD k, o, sD n]) (show l3 (startA 3 [kD k, o, sD n]) [] = _ from (ev_call (ds := [kD k, sD n, o, .bl false, .bl true]) (A1 := []) rfl (mv_no2 hk hn h))) (by show (pureL o && true) = true; rw [h.pl]; rfl) h.pl
  have c1 : ∀ (x2 : Option D) (A : HA), noLk A = true → cCallL (c_law_said tab0 (tab1 1 (1, l1))) 1 [] [3] cNil [some (kD k), some (sD n), x2, some o] A = .ok t A := fun x2 A hA => callL_ok (caps := [o]) rfl (by show (pureL o && true) = true; rw [h.pl]; rfl) s1 tl hA
  have c2' : ∀ (x2 : Option D) (A : HA), noLk A = true → cCallL (c_law_said tab0 (tab1 0 (3, l0))) 0 [(.int 0)] [0, 3] cNil [some (kD k), some (sD n), x2, some o] A = .ok t A := fun x2 A hA => callL_ok (caps := [kD k, o]) rfl (by show (pureL o && true) = true; rw [h.pl]; rfl) s2 tl hA
  have c3 : ∀ (x2 : Option D) (A : HA), noLk A = true → cCallL (c_law_said tab0 (tab1 2 (2, l2))) 2 [] [0, 3] cNil [some (kD k), some (sD n), x2, some o] A = .ok t A := fun x2 A hA => callL_ok (caps := [kD k, o]) rfl (by show (pureL o && true) = true; rw [h.pl]; rfl) s3 tl hA
  have c4 : ∀ (x2 : Option D) (A : HA), noLk A = true → cCallL (c_law_said tab0 (tab1 3 (3, l3))) 3 [] [0, 3, 1] cNil [some (kD k), some (sD n), x2, some o] A = .ok t A := fun x2 A hA => callL_ok (caps := [kD k, o, sD n]) rfl (by show (pureL o && true) = true; rw [h.pl]; rfl) s4 tl hA
  let A1 : HA := A ++ [.lst [t, t]]
  let A2 : HA := A1 ++ [.lst [t, t, t]]
  let A3 : HA := A1 ++ [.lst [t, t, t, t]]
  have n1 : noLk A1 = true := by show (A ++ [_]).all _ = true; rw [List.all_append]; rw [show A.all _ = true from hA]; rfl
  have n2 : noLk A2 = true := by show (A1 ++ [_]).all _ = true; rw [List.all_append]; rw [show A1.all _ = true from n1]; rfl
  have n3 : noLk A3 = true := by show (A1 ++ [_]).all _ = true; rw [List.all_append]; rw [show A1.all _ = true from n1]; rfl
  have l1e : A1.length = A.length + 1 := by show (A ++ [_]).length = _; rw [List.length_append]; rfl
  have r1 : cSet 2 (cNewL (cCons (cCallL (c_law_said tab0 (tab1 1 (1, l1))) 1 [] [3] cNil) (cCons (cCallL (c_law_said tab0 (tab1 0 (3, l0))) 0 [(.int 0)] [0, 3] cNil) cNil))) [some (kD k), some (sD n), x2, some o] A = .nx [some (kD k), some (sD n), some (.ref A.length), some o] A1 :=
    ev_set (newL_ok (ev_cons (c1 _ _ hA) (ev_cons (c2' _ _ hA) ev_nil)))
  have r2 : cSet 2 (c2 (pCat true) (cVar 2) (cLst (cCons (cCallL (c_law_said tab0 (tab1 2 (2, l2))) 2 [] [0, 3] cNil) cNil))) [some (kD k), some (sD n), some (.ref A.length), some o] A1 = .nx [some (kD k), some (sD n), some (.ref (A.length + 1)), some o] A2 := by
    refine ev_set ((ev_c2 (d := .ref A.length) (e := .lst [t]) (A1 := A1) (A2 := A1) rfl ?_).trans (catH_ok (by show 2 + 1 ≤ _; decide)))
    unfold cLst
    rw [ev_cons (c3 _ _ n1) ev_nil]
    rfl
  have at2 : A2[A.length + 1]? = some (.lst [t, t, t]) := by rw [← l1e]; exact at_end
  have r3 : cExpr (cMeth "list" pAppend (cVar 2) (cCons (cCallL (c_law_said tab0 (tab1 3 (3, l3))) 3 [] [0, 3, 1] cNil) cNil)) [some (kD k), some (sD n), some (.ref (A.length + 1)), some o] A2 = .nx [some (kD k), some (sD n), some (.ref (A.length + 1)), some o] A3 := by
    refine (ev_expr (ev_append (d := t) (A1 := A2) (A2 := A2) rfl at2 (c4 _ _ n2) at2 (by rw [sizeLine_eq]; show 3 < _; decide))).trans ?_
    rw [← l1e]
    show RSt.nx _ ((A1 ++ [_]).set A1.length _) = _
    rw [set_end]
    rfl
  have at3 : A3[A.length + 1]? = some (.lst [t, t, t, t]) := by rw [← l1e]; exact at_end
  obtain ⟨p, hp, hs, hd⟩ := h.py
  have hq : shortP p = true := hs
  unfold shortP at hq
  rw [Bool.and_eq_true] at hq
  have hst : shortP (.str "stand") = true := by decide +kernel
  have hps : ∀ q ∈ [PyData.str "stand", p], shortP q = true := fun q hq => by
    simp only [List.mem_cons, List.not_mem_nil, or_false] at hq
    rcases hq with rfl | rfl
    · exact hst
    · exact hs
  have tsh : (PyData.tuple [.str "stand", p]).showable = true := shows_all hps
  have tln : (PyData.tuple [.str "stand", p]).shown.length ≤ 7000 := by
    show (tupleText (PyData.shownAll [.str "stand", p])).length ≤ 7000
    have := tup_len (short_len hps)
    rw [shownAll_map, List.length_map] at this
    rw [shownAll_map]
    have e : [PyData.str "stand", p].length = 2 := rfl
    rw [e] at this
    omega
  have f1 : (PyData.list [.tuple [.str "stand", p], .tuple [.str "stand", p], .tuple [.str "stand", p], .tuple [.str "stand", p]]).showable = true := by
    show (_ && (_ && (_ && (_ && true)))) = true
    rw [tsh]
    rfl
  have f2 : (PyData.list [.tuple [.str "stand", p], .tuple [.str "stand", p], .tuple [.str "stand", p], .tuple [.str "stand", p]]).shown.length ≤ 100000 := by
    show (listText (PyData.shownAll [.tuple [.str "stand", p], .tuple [.str "stand", p], .tuple [.str "stand", p], .tuple [.str "stand", p]])).length ≤ 100000
    have := lst_len (ts := PyData.shownAll [.tuple [.str "stand", p], .tuple [.str "stand", p], .tuple [.str "stand", p], .tuple [.str "stand", p]]) (c := 7000) fun t ht => by
      rw [shownAll_map] at ht
      obtain ⟨q, hq, rfl⟩ := List.mem_map.mp ht
      have : q = .tuple [.str "stand", p] := by simpa using hq
      rw [this]
      exact tln
    rw [shownAll_map, List.length_map] at this
    rw [shownAll_map]
    have e : [PyData.tuple [.str "stand", p], .tuple [.str "stand", p], .tuple [.str "stand", p], .tuple [.str "stand", p]].length = 4 := rfl
    rw [e] at this
    omega
  have f3 : repOk (PyData.list [.tuple [.str "stand", p], .tuple [.str "stand", p], .tuple [.str "stand", p], .tuple [.str "stand", p]]) = true := by
    have f : repOk1 (.tuple [.str "stand", p]) = true := by
      show (!(false || (p.hasDict || false)) || (true && (noLst p && true))) = true
      rcases hd with hd | hd <;> rw [hd] <;> simp
    show (_ && (_ && (_ && (_ && true)))) = true
    rw [f]
    rfl
  have hT : ∀ A : HA, toPy A 59 t = some (.tuple [.str "stand", p]) := fun A => by
    show (optAll (toPy A 58) [.str "stand", o]).map PyData.tuple = _
    unfold optAll
    rw [show toPy A 58 (.str "stand") = some (.str "stand") from rfl]
    unfold optAll
    rw [hp A]
    rfl
  have hL : ∀ A : HA, (optAll (toPy A 59) [t, t, t, t]).map PyData.list = some (.list [.tuple [.str "stand", p], .tuple [.str "stand", p], .tuple [.str "stand", p], .tuple [.str "stand", p]]) := fun A => by
    simp only [optAll, hT A]
    rfl
  have g1 : pRepr [.ref (A.length + 1)] A3 = .ok (.str (PyData.list [.tuple [.str "stand", p], .tuple [.str "stand", p], .tuple [.str "stand", p], .tuple [.str "stand", p]]).shown) A3 := by
    refine repr_at ?_ ⟨f1, by rw [sizeLine_eq]; omega, f3⟩
    show (match A3[A.length + 1]? with
      | some (.lst ds) => (optAll (toPy A3 59) ds).map PyData.list
      | _ => none) = _
    rw [at3]
    exact hL A3
  have g2 : pRepr [.lst [t, t, t, t]] A3 = .ok (.str (PyData.list [.tuple [.str "stand", p], .tuple [.str "stand", p], .tuple [.str "stand", p], .tuple [.str "stand", p]]).shown) A3 :=
    repr_at (hL A3) ⟨f1, by rw [sizeLine_eq]; omega, f3⟩
  refine ⟨some (.ref (A.length + 1)), A3, n3, ?_⟩
  refine (cSeq_nx r1).trans ((cSeq_nx r2).trans ((cSeq_nx r3).trans (ifF_nx ?_)))
  obtain ⟨A0, hn0⟩ := h.no
  have pd : pureDs [o] = true := by show (pureD o && true) = true; rw [h.pd]; rfl
  refine or_F (ev_cB ((ev_c2 (d := .bl false) (e := .bl false) (A1 := A3) (A2 := A3) ((ev_call1 (d := o) (A1 := A3) rfl).trans (iso_ok (d := .bl false) pd hn0 rfl)) rfl).trans rfl)) (ev_cB ?_)
  exact (ev_c2 (ca := cCall pRepr (cCons (cVar 2) cNil)) (A1 := A3) (A2 := A3) ((ev_call1 (d := .ref (A.length + 1)) (A1 := A3) rfl).trans g1) ((ev_call1 (d := .lst [t, t, t, t]) (A1 := A3) rfl).trans g2)).trans (ne_self _ A3)
theorem oddsR_ok {k : Bk} (hk : Bk.ok k) {n : Nat} (hn : n < 160) (A : HA) : isoF c_law_odds_right [kD k, sD n] A = .ok (.bl true) A := by
  obtain ⟨E2, A2, h1, ⟨x2, x3, h2⟩, _⟩ := for_run (ci := iAny (cCall c_law_odds (cCons (cVar 1) cNil))) (cg := gSetN 3) (body := cOddB) (ds := oddsL n) (E := startA 4 [kD k, sD n]) (A := []) (A1 := [])
    (fun j E A => (∃ x2 x3, E = [some (kD k), some (sD n), x2, x3]) ∧ noLk A = true) (by unfold iAny; rw [(ev_call1 (d := sD n) (A1 := []) rfl).trans (odds_ok n [])]; rfl) ⟨⟨none, none, rfl⟩, rfl⟩ fun j d E A hd ⟨⟨x2, x3, hE⟩, hA⟩ => by
      subst hE
      obtain ⟨x2', A', nA, hh⟩ := oddB_ok hk hn (odd_all hn d (List.mem_of_getElem? hd)) (x2 := x2) A hA
      exact ⟨_, _, _, _, rfl, .inl hh, ⟨x2', some d, rfl⟩, nA⟩
  refine iso_ok (d := .bl true) (A0 := A2) rfl (c_run ?_) rfl
  unfold b_law_odds_right
  exact (cSeq_nx h1).trans rfl
end
end Sm
end
section
set_option autoImplicit false
namespace Sm
open PySem PySem.Spec PyProof.Rows L2
open St
theorem map_at {l : List Nat} {j : Nat} {d : D} (h : (l.map sD)[j]? = some d) : ∃ n, l[j]? = some n ∧ d = sD n := by
  rw [List.getElem?_map] at h
  obtain ⟨n, h1, h2⟩ := Option.map_eq_some_iff.mp h
  exact ⟨n, h1, h2.symm⟩
noncomputable abbrev eL : List Nat := List.range 160
theorem eL_lt : ∀ n ∈ eL, n < 160 := fun n h => List.mem_range.mp h
noncomputable def eD : D := .lst (eL.map sD)
theorem stands_ok (A : HA) : isoF c_law_stands [] A = .ok eD A := iso_tells (d := eD) rfl (by decide +kernel) (pure_sD eL) A
noncomputable abbrev E14 (x0 x3 x4 x5 x6 x7 x8 x9 x10 x11 x12 x13 : Option D) : SA := [x0, some (.ref 2), some eD, x3, x4, x5, x6, x7, x8, x9, x10, x11, x12, x13]
section
variable {x0 x3 x4 x5 x6 x7 x8 x9 x10 x11 x12 x13 : Option D} {A : HA}
theorem iE : iAny (cVar 2) (E14 x0 x3 x4 x5 x6 x7 x8 x9 x10 x11 x12 x13) A = .ok (.fix (eL.map sD)) A := iAny_st (d := eD) rfl (.inl rfl)
theorem lc_every {ct : CB} {p : Nat → Bool} (h : ∀ n, n < 160 → ct (E14 x0 (some (sD n)) x4 x5 x6 x7 x8 x9 x10 x11 x12 x13) A = .ok (p n) A) : cLc [3] (iAny (cVar 2)) (gSetN 3) ct (cVar 3) (E14 x0 x3 x4 x5 x6 x7 x8 x9 x10 x11 x12 x13) A = .ok (lS (eL.filter p)) A := by
  have key : ∀ l : List Nat, (∀ n ∈ l, n < 160) → lcL (gSetN 3) ct (cVar 3) (E14 x0 none x4 x5 x6 x7 x8 x9 x10 x11 x12 x13) (l.map sD) A = .ok ((l.filter p).map sD) A := by
    intro l hl
    induction l with
    | nil => rfl
    | cons n r ih =>
      have ih := ih fun m hm => hl m (List.mem_cons_of_mem _ hm)
      have hn := hl n List.mem_cons_self
      rw [List.map_cons, lcL]
      show ((ct (E14 x0 (some (sD n)) x4 x5 x6 x7 x8 x9 x10 x11 x12 x13) A).nox.bind fun b A2 => if b = true then (cVar 3 (E14 x0 (some (sD n)) x4 x5 x6 x7 x8 x9 x10 x11 x12 x13) A2).nox.bind fun x A3 => (lcL (gSetN 3) ct (cVar 3) (E14 x0 none x4 x5 x6 x7 x8 x9 x10 x11 x12 x13) (r.map sD) A3).bind fun xs A4 => R.ok (x :: xs) A4 else lcL (gSetN 3) ct (cVar 3) (E14 x0 none x4 x5 x6 x7 x8 x9 x10 x11 x12 x13) (r.map sD) A2) = _
      rw [h n hn]
      show (if p n = true then R.bind (R.ok (sD n) A) (fun x A3 => (lcL (gSetN 3) ct (cVar 3) (E14 x0 none x4 x5 x6 x7 x8 x9 x10 x11 x12 x13) (r.map sD) A3).bind fun xs A4 => R.ok (x :: xs) A4) else lcL (gSetN 3) ct (cVar 3) (E14 x0 none x4 x5 x6 x7 x8 x9 x10 x11 x12 x13) (r.map sD) A) = _
      rw [List.filter_cons]
      cases p n with
      | true =>
        show ((lcL (gSetN 3) ct (cVar 3) (E14 x0 none x4 x5 x6 x7 x8 x9 x10 x11 x12 x13) (r.map sD) A).bind fun xs A4 => R.ok (sD n :: xs) A4) = _
        rw [ih]
        rfl
      | false =>
        show lcL (gSetN 3) ct (cVar 3) (E14 x0 none x4 x5 x6 x7 x8 x9 x10 x11 x12 x13) (r.map sD) A = _
        rw [ih]
        rfl
  exact ev_lc iE (key eL eL_lt)
noncomputable abbrev cA1 : CS := cIfS (cB (c2 pNeX (cLc [3] (iAny (cVar 2)) (gSetN 3) (cB (c2 (pIsB true) (cCall (isoF c_is_stand) (cCons (cVar 3) cNil)) (cC (.bl true)))) (cVar 3)) (cLst cNil))) (cRet (cC (.bl false))) cSkip
theorem a1_ok : cA1 (E14 x0 x3 x4 x5 x6 x7 x8 x9 x10 x11 x12 x13) A = .nx (E14 x0 x3 x4 x5 x6 x7 x8 x9 x10 x11 x12 x13) A := by
  refine ifF_nx (ev_cB ((ev_c2 (d := .lst []) (e := .lst []) (A1 := A) (A2 := A) ?_ rfl).trans rfl))
  refine (lc_every (p := fun _ => false) fun n hn => ev_cB ((ev_c2 (d := .bl true) (e := .bl true) (A1 := A) (A2 := A) ((ev_call1 (d := sD n) (A1 := A) rfl).trans (stand_ok hn A)) rfl).trans rfl)).trans ?_
  rw [show eL.filter (fun _ => false) = [] by simp]
  rfl
theorem repr_bl (b : Bool) : pRepr [.bl b] A = .ok (.str (PyData.bool b).shown) A := repr_at (p := .bool b) rfl ⟨rfl, by rw [sizeLine_eq]; cases b <;> decide, rfl⟩
noncomputable abbrev cA2 : CS := cFor (iAny (cVar 2)) (gSetN 3) (cIfS (cB (c2 pNeX (cCall pRepr (cCons (cCall (isoF c_is_fault) (cCons (cVar 3) cNil)) cNil)) (cCall pRepr (cCons (cCall (isoF c_law_is_fault) (cCons (cVar 3) cNil)) cNil)))) (cRet (cC (.bl false))) cSkip)
theorem a2_ok : ∃ x3', cA2 (E14 x0 x3 x4 x5 x6 x7 x8 x9 x10 x11 x12 x13) A = .nx (E14 x0 x3' x4 x5 x6 x7 x8 x9 x10 x11 x12 x13) A := by
  obtain ⟨E2, A2, h1, hA, x3', h2⟩ := for_run (cg := gSetN 3) (E := E14 x0 x3 x4 x5 x6 x7 x8 x9 x10 x11 x12 x13) (A := A) (body := cIfS (cB (c2 pNeX (cCall pRepr (cCons (cCall (isoF c_is_fault) (cCons (cVar 3) cNil)) cNil)) (cCall pRepr (cCons (cCall (isoF c_law_is_fault) (cCons (cVar 3) cNil)) cNil)))) (cRet (cC (.bl false))) cSkip)
    (fun j E B => B = A ∧ ∃ x3, E = E14 x0 x3 x4 x5 x6 x7 x8 x9 x10 x11 x12 x13) iE ⟨rfl, x3, rfl⟩ fun j d E B hd ⟨hB, y, hE⟩ => by
      subst hB hE
      obtain ⟨n, hn, rfl⟩ := map_at hd
      have hn160 := eL_lt n (List.mem_of_getElem? hn)
      refine ⟨_, _, _, _, rfl, .inl (ifF_nx (ev_cB ((ev_c2 (A1 := B) (A2 := B) ((ev_call1 ((ev_call1 (d := sD n) (A1 := B) rfl).trans (isf_ok hn160 B))).trans (repr_bl (fault n))) ((ev_call1 ((ev_call1 (d := sD n) (A1 := B) rfl).trans (fl_ok hn160 B))).trans (repr_bl (fault n)))).trans (ne_self _ B)))), rfl, some (sD n), rfl⟩
  subst hA h2
  exact ⟨x3', h1⟩
noncomputable abbrev cA3 : CS := (cIfS (cB (c2 pNeX (cLst (cCons (cCall (isoF c_first_stands) (cCons (cC (.bl true)) cNil)) (cCons (cCall (isoF c_first_stands) (cCons (cC (.bl false)) cNil)) cNil))) (cLst (cCons (cCall pTupOf (cCons (cCall (isoF c_law_first) (cCons (cC (.bl true)) cNil)) cNil)) (cCons (cCall pTupOf (cCons (cCall (isoF c_law_first) (cCons (cC (.bl false)) cNil)) cNil)) cNil))))) (cRet (cC (.bl false))) cSkip)
theorem a3_ok (E : SA) (A : HA) : cA3 E A = .nx E A := by kernel_rfl
theorem pick_len {E : SA} {A : HA} {i : Nat} {k : Int} {l : List Nat} (h1 : E[1]? = some (some (.ref 2))) (hi : E[i]? = some (some (lS l))) (hl : 0 < l.length) (hz : l.length < 1073741824) (dr : Drawn A 2 0 3 k) (hk : k < 2 ^ 59) :
    ∃ m A', m ∈ l ∧ c2 pGetX (cVar i) (cCall c_law_draw (cCons (cVar 1) (cCons (cCall pLenX (cCons (cVar i) cNil)) cNil))) E A = .ok (sD m) A' ∧ Drawn A' 2 0 3 (k + 1) := by
  obtain ⟨r, A', hr, h, d⟩ := draw_D dr hk l.length hl hz
  have hg : (l.map sD)[r]? = some (sD l[r]) := by rw [List.getElem?_map, List.getElem?_eq_getElem hr]; rfl
  refine ⟨l[r], A', List.getElem_mem hr, ?_, d.dr⟩
  have hlen : pLenX [lS l] A = .ok (.int (l.length : Int)) A := by
    show R.ok (D.int ((l.map sD).length : Int)) A = _
    rw [List.length_map]
  refine (ev_c2 (ev_var hi) ((ev_call2 (ev_var h1) ((ev_call1 (ev_var hi)).trans hlen)).trans h)).trans ?_
  have := getX_at hg A'
  rw [show A' = A' from rfl]
  exact this
theorem gt0 {r : Nat} (hr : r < 4) (A : HA) : pGt (.int (r : Int)) (.int 0) A = .ok (.bl (Nat.blt 0 r)) A := by
  match r, hr with
  | 0, _ => rfl
  | 1, _ => rfl
  | 2, _ => rfl
  | 3, _ => rfl
theorem wayA {i : Nat} (hi : i < 4) (A : HA) : pGt (.int (i : Int)) (.int 1) A = .ok (.bl (wy1 i)) A ∧ pInT false (.int (i : Int)) (.tup [.int 1, .int 3]) A = .ok (.bl (wy2 i)) A := by
  match i, hi with
  | 0, _ => exact ⟨rfl, rfl⟩
  | 1, _ => exact ⟨rfl, rfl⟩
  | 2, _ => exact ⟨rfl, rfl⟩
  | 3, _ => exact ⟨rfl, rfl⟩
theorem sP_60 : allN 160 (fun n => decide ((sP n).shown.length ≤ 60)) = true := by decide +kernel
noncomputable def tP (l : List Nat) : PyData := .tuple (l.map sP)
theorem tP_short {l : List Nat} (hl : l.length ≤ 2) (h : ∀ x ∈ l, x < 160) : shortP (tP l) = true := by
  have hs : ∀ p ∈ l.map sP, shortP p = true := fun p hp => by
    obtain ⟨n, hn, rfl⟩ := List.mem_map.mp hp
    exact get_all sP_short (h n hn)
  have hlen : (tP l).shown.length ≤ 3000 := by
    show (tupleText (PyData.shownAll (l.map sP))).length ≤ 3000
    have := tup_len (ts := PyData.shownAll (l.map sP)) (c := 60) fun t ht => by
      rw [shownAll_map, List.map_map] at ht
      obtain ⟨n, hn, rfl⟩ := List.mem_map.mp ht
      exact of_decide_eq_true (get_all sP_60 (h n hn))
    rw [shownAll_map, List.length_map, List.length_map, ← shownAll_map] at this
    have := Nat.mul_le_mul_right (60 + 2) hl
    omega
  unfold shortP
  rw [Bool.and_eq_true]
  exact ⟨shows_all hs, decide_eq_true hlen⟩
theorem py_tup (A : HA) (f : Nat) (l : List Nat) : toPy A (f + 3) (.tup (l.map sD)) = some (tP l) := by
  show (optAll (toPy A (f + 2)) (l.map sD)).map PyData.tuple = _
  rw [optA_P' A f]
  rfl
theorem repr_tup {l : List Nat} (hl : l.length ≤ 2) (h : ∀ x ∈ l, x < 160) : pRepr [.tup (l.map sD)] A = .ok (.str (tP l).shown) A := by
  refine repr_at (py_tup A 57 l) (rp_tup (fun p hp => ?_) (by rw [List.length_map]; omega) (.inl fun p hp => ?_))
  · obtain ⟨n, hn, rfl⟩ := List.mem_map.mp hp
    exact get_all sP_short (h n hn)
  · obtain ⟨n, hn, rfl⟩ := List.mem_map.mp hp
    rfl
theorem repr_two {l : List Nat} (hl : l.length ≤ 2) (h : ∀ x ∈ l, x < 160) : pRepr [.lst [.tup (l.map sD), .tup (l.map sD)]] A = .ok (.str (PyData.list [tP l, tP l]).shown) A := by
  refine repr_at ?_ (rp_lst (ps := [tP l, tP l]) (fun p hp => ?_) (by simp) fun p hp => ?_)
  · show (optAll (toPy A 59) [.tup (l.map sD), .tup (l.map sD)]).map PyData.list = _
    simp only [optAll, py_tup A 56 l]
    rfl
  · have : p = tP l := by simpa using hp
    rw [this]
    exact tP_short hl h
  · have : p = tP l := by simpa using hp
    rw [this]
    refine noDict_all fun q hq => ?_
    obtain ⟨n, _, rfl⟩ := List.mem_map.mp hq
    rfl
noncomputable abbrev cPairB : CS := (cSeq (cSet 11 (cCall c_law_draw (cCons (cVar 1) (cCons (cC (.int 4)) cNil)))) (cSeq (cSet 12 (cCall pTupOf (cCons (cCall pSortedX (cCons (cCall (isoF c_law_moved) (cCons (cVar 5) (cCons (cVar 9) (cCons (cVar 10) (cCons (c2 pGt (cVar 11) (cC (.int 1))) (cCons (c2 (pInT false) (cVar 11) (cTup (cCons (cC (.int 1)) (cCons (cC (.int 3)) cNil)))) cNil)))))) cNil)) cNil))) (cIfS (cB (c2 pNeX (cCall pRepr (cCons (cCall (isoF c_moved) (cCons (cVar 5) (cCons (cVar 9) (cCons (cVar 10) (cCons (c2 pGt (cVar 11) (cC (.int 1))) (cCons (c2 (pInT false) (cVar 11) (cTup (cCons (cC (.int 1)) (cCons (cC (.int 3)) cNil)))) cNil)))))) cNil)) (cCall pRepr (cCons (cVar 12) cNil)))) (cRet (cC (.bl false))) cSkip)))
theorem pair_ok {b : Bk} (hb : Bk.ok b) {n t : Nat} (hn : n < 160) (ht : t < 160) {k : Int} (dr : Drawn A 2 0 3 k) (hk : k < 2 ^ 59) :
    ∃ x11' x12' A', cPairB (E14 x0 x3 x4 (some (kD b)) x6 x7 x8 (some (sD n)) (some (sD t)) x11 x12 x13) A = .nx (E14 x0 x3 x4 (some (kD b)) x6 x7 x8 (some (sD n)) (some (sD t)) x11' x12' x13) A' ∧ Drawn A' 2 0 3 (k + 1) := by
  obtain ⟨r, A', hr, h, d⟩ := ev_draw (E := E14 x0 x3 x4 (some (kD b)) x6 x7 x8 (some (sD n)) (some (sD t)) x11 x12 x13) (A := A) (i := 1) rfl dr hk 4
  have hr : r < 4 := by omega
  obtain ⟨w1, w2⟩ := wayA hr A'
  have hargs : ∀ x12 : Option D, cCons (cVar 5) (cCons (cVar 9) (cCons (cVar 10) (cCons (c2 pGt (cVar 11) (cC (.int 1))) (cCons (c2 (pInT false) (cVar 11) (cTup (cCons (cC (.int 1)) (cCons (cC (.int 3)) cNil)))) cNil)))) (E14 x0 x3 x4 (some (kD b)) x6 x7 x8 (some (sD n)) (some (sD t)) (some (.int (r : Int))) x12 x13) A' = .ok [kD b, sD n, sD t, .bl (wy1 r), .bl (wy2 r)] A' := fun x12 =>
    ev_cons (A1 := A') rfl (ev_cons (A1 := A') rfl (ev_cons (A1 := A') rfl (ev_cons (A1 := A') ((ev_c2 (d := .int (r : Int)) (e := .int 1) (A1 := A') (A2 := A') rfl rfl).trans w1) (ev_cons (A1 := A') ((ev_c2 (d := .int (r : Int)) (e := .tup [.int 1, .int 3]) (A1 := A') (A2 := A') rfl rfl).trans w2) ev_nil))))
  have pw := lm_pw b n t r
  have lt := lm_lt hb hn ht hr
  have ln := lm_len b n t r
  refine ⟨some (.int (r : Int)), some (.tup ((lm b n t r).map sD)), A', ?_, d.dr⟩
  refine (cSeq_nx (ev_set h)).trans ?_
  refine (cSeq_nx (ev_set (d := .tup ((lm b n t r).map sD)) (A1 := A') ?_)).trans ?_
  · have e : cCall pSortedX (cCons (cCall (isoF c_law_moved) (cCons (cVar 5) (cCons (cVar 9) (cCons (cVar 10) (cCons (c2 pGt (cVar 11) (cC (.int 1))) (cCons (c2 (pInT false) (cVar 11) (cTup (cCons (cC (.int 1)) (cCons (cC (.int 3)) cNil)))) cNil)))))) cNil) (E14 x0 x3 x4 (some (kD b)) x6 x7 x8 (some (sD n)) (some (sD t)) (some (.int (r : Int))) x12 x13) A' = .ok (lS (lm b n t r)) A' :=
      (ev_call1 (d := lS (lm b n t r)) (A1 := A') (ev_call (hargs x12) (lm_ok hb hn ht hr A'))).trans (sortX_st (List.Perm.refl _) pw lt (by omega))
    exact (ev_call1 e).trans rfl
  · refine ifF_nx (ev_cB ?_)
    refine (ev_c2 (A1 := A') (A2 := A') ((ev_call1 (d := .tup ((lm b n t r).map sD)) (A1 := A') (ev_call (hargs _) (moved_eq hb hn ht hr A'))).trans (repr_tup ln lt)) ((ev_call1 (d := .tup ((lm b n t r).map sD)) (A1 := A') rfl).trans (repr_tup ln lt))).trans (ne_self _ A')
noncomputable abbrev cStandB : CS := (cSeq (cSet 8 (cLst (cCons (cCall (isoF c_behind) (cCons (cVar 5) (cCons (cVar 3) cNil))) (cCons (cCall (isoF c_behind) (cCons (cVar 5) (cCons (cVar 3) cNil))) cNil)))) (cSeq (cIfS (cB (c2 pNeX (cCall pRepr (cCons (cVar 8) cNil)) (cCall pRepr (cCons (c2 pMulX (cLst (cCons (cCall pTupOf (cCons (cCall (isoF c_law_behind) (cCons (cVar 5) (cCons (cVar 3) cNil))) cNil)) cNil)) (cC (.int 2))) cNil)))) (cRet (cC (.bl false))) cSkip) (cFor (iAny (cTup (cCons (cTup (cCons (cVar 6) (cCons (cVar 3) cNil))) (cCons (cTup (cCons (cVar 3) (cCons (cVar 6) cNil))) cNil)))) (gTupN 2 (gsCons (gSetN 9) (gsCons (gSetN 10) gsNil))) cPairB)))
theorem standB_ok {b : Bk} (hb : Bk.ok b) {n s : Nat} (hn : n < 160) (hs : s < 160) {k : Int} (dr : Drawn A 2 0 3 k) (hk : k + 5 < 2 ^ 59) :
    ∃ x8' x9' x10' x11' x12' A', cStandB (E14 x0 (some (sD n)) x4 (some (kD b)) (some (sD s)) x7 x8 x9 x10 x11 x12 x13) A = .nx (E14 x0 (some (sD n)) x4 (some (kD b)) (some (sD s)) x7 x8' x9' x10' x11' x12' x13) A' ∧ Drawn A' 2 0 3 (k + 2) := by
  have l2 := lb_len b n
  have lt := lb_lt hb hn
  have hbh : cCall (isoF c_behind) (cCons (cVar 5) (cCons (cVar 3) cNil)) (E14 x0 (some (sD n)) x4 (some (kD b)) (some (sD s)) x7 x8 x9 x10 x11 x12 x13) A = .ok (.tup ((lb b n).map sD)) A := (ev_call2 (d := kD b) (e := sD n) (A1 := A) (A2 := A) rfl rfl).trans (behind_eq hb hn A)
  have s1 : cSet 8 (cLst (cCons (cCall (isoF c_behind) (cCons (cVar 5) (cCons (cVar 3) cNil))) (cCons (cCall (isoF c_behind) (cCons (cVar 5) (cCons (cVar 3) cNil))) cNil))) (E14 x0 (some (sD n)) x4 (some (kD b)) (some (sD s)) x7 x8 x9 x10 x11 x12 x13) A = .nx (E14 x0 (some (sD n)) x4 (some (kD b)) (some (sD s)) x7 (some (.lst [.tup ((lb b n).map sD), .tup ((lb b n).map sD)])) x9 x10 x11 x12 x13) A := by
    refine ev_set (d := .lst [.tup ((lb b n).map sD), .tup ((lb b n).map sD)]) (A1 := A) ?_
    unfold cLst
    rw [ev_cons hbh (ev_cons hbh ev_nil)]
    rfl
  let E1 : SA := E14 x0 (some (sD n)) x4 (some (kD b)) (some (sD s)) x7 (some (.lst [.tup ((lb b n).map sD), .tup ((lb b n).map sD)])) x9 x10 x11 x12 x13
  have s2 : cIfS (cB (c2 pNeX (cCall pRepr (cCons (cVar 8) cNil)) (cCall pRepr (cCons (c2 pMulX (cLst (cCons (cCall pTupOf (cCons (cCall (isoF c_law_behind) (cCons (cVar 5) (cCons (cVar 3) cNil))) cNil)) cNil)) (cC (.int 2))) cNil)))) (cRet (cC (.bl false))) cSkip E1 A = .nx E1 A := by
    have hl : cCall pTupOf (cCons (cCall (isoF c_law_behind) (cCons (cVar 5) (cCons (cVar 3) cNil))) cNil) E1 A = .ok (.tup ((lb b n).map sD)) A := (ev_call1 (d := lS (lb b n)) (A1 := A) ((ev_call2 (d := kD b) (e := sD n) (A1 := A) (A2 := A) rfl rfl).trans (lb_ok hb hn A))).trans rfl
    have hm : c2 pMulX (cLst (cCons (cCall pTupOf (cCons (cCall (isoF c_law_behind) (cCons (cVar 5) (cCons (cVar 3) cNil))) cNil)) cNil)) (cC (.int 2)) E1 A = .ok (.lst [.tup ((lb b n).map sD), .tup ((lb b n).map sD)]) A := by
      refine (ev_c2 (d := .lst [.tup ((lb b n).map sD)]) (e := .int 2) (A1 := A) (A2 := A) ?_ rfl).trans rfl
      unfold cLst
      rw [ev_cons hl ev_nil]
      rfl
    refine ifF_nx (ev_cB ((ev_c2 (A1 := A) (A2 := A) ((ev_call1 (d := .lst [.tup ((lb b n).map sD), .tup ((lb b n).map sD)]) (A1 := A) rfl).trans (repr_two l2 lt)) ((ev_call1 hm).trans (repr_two l2 lt))).trans (ne_self _ A)))
  obtain ⟨E2, A2, h1, ⟨y9, y10, y11, y12, hE⟩, kk, hkk, dk⟩ := for_run (ci := iAny (cTup (cCons (cTup (cCons (cVar 6) (cCons (cVar 3) cNil))) (cCons (cTup (cCons (cVar 3) (cCons (cVar 6) cNil))) cNil)))) (cg := gTupN 2 (gsCons (gSetN 9) (gsCons (gSetN 10) gsNil))) (body := cPairB) (ds := [.tup [sD s, sD n], .tup [sD n, sD s]]) (E := E1) (A := A) (A1 := A)
    (fun j E B => (∃ y9 y10 y11 y12, E = E14 x0 (some (sD n)) x4 (some (kD b)) (some (sD s)) x7 (some (.lst [.tup ((lb b n).map sD), .tup ((lb b n).map sD)])) y9 y10 y11 y12 x13) ∧ ∃ kk : Int, kk ≤ k + j ∧ Drawn B 2 0 3 kk) rfl ⟨⟨x9, x10, x11, x12, rfl⟩, k, by simp, dr⟩ fun j d E B hd ⟨⟨y9, y10, y11, y12, hE⟩, kk, hkk, dk⟩ => by
      subst hE
      have hj : j < 2 := (List.getElem?_eq_some_iff.mp hd).1
      have step : ∀ p q : Nat, p < 160 → q < 160 → d = .tup [sD p, sD q] → ∃ E1 A1 E2 A2, gTupN 2 (gsCons (gSetN 9) (gsCons (gSetN 10) gsNil)) d (E14 x0 (some (sD n)) x4 (some (kD b)) (some (sD s)) x7 (some (.lst [.tup ((lb b n).map sD), .tup ((lb b n).map sD)])) y9 y10 y11 y12 x13) B = .nx E1 A1 ∧ (cPairB E1 A1 = .nx E2 A2 ∨ cPairB E1 A1 = .ct E2 A2) ∧ (∃ y9 y10 y11 y12, E2 = E14 x0 (some (sD n)) x4 (some (kD b)) (some (sD s)) x7 (some (.lst [.tup ((lb b n).map sD), .tup ((lb b n).map sD)])) y9 y10 y11 y12 x13) ∧ ∃ kk : Int, kk ≤ k + ((j + 1 : Nat) : Int) ∧ Drawn A2 2 0 3 kk := by
        intro p q hp hq e
        subst e
        obtain ⟨z11, z12, A', e1, d1⟩ := pair_ok hb hp hq dk (by omega) (x0 := x0) (x3 := some (sD n)) (x4 := x4) (x6 := some (sD s)) (x7 := x7) (x8 := some (.lst [.tup ((lb b n).map sD), .tup ((lb b n).map sD)])) (x11 := y11) (x12 := y12) (x13 := x13)
        exact ⟨_, _, _, _, rfl, .inl e1, ⟨_, _, _, _, rfl⟩, kk + 1, by omega, d1⟩
      match j, hj, hd with
      | 0, _, hd => cases hd; exact step s n hs hn rfl
      | 1, _, hd => cases hd; exact step n s hn hs rfl
  refine ⟨some (.lst [.tup ((lb b n).map sD), .tup ((lb b n).map sD)]), y9, y10, y11, y12, A2, ?_, dk.weaken (by simpa using hkk)⟩
  rw [hE] at h1
  exact (cSeq_nx s1).trans ((cSeq_nx s2).trans h1)
noncomputable abbrev gL : List Nat := eL.filter fun n => !fault n
theorem gL_len : 0 < gL.length ∧ gL.length < 1073741824 := by decide +kernel
theorem gL_lt : ∀ n ∈ gL, n < 160 := fun n h => eL_lt n (List.mem_filter.mp h).1
noncomputable abbrev cTurnK : CS := (cSeq (cAsg (cTup (cCons (cCall c_law_book (cCons (cVar 1) cNil)) (cCons (c2 pGetX (cVar 2) (cCall c_law_draw (cCons (cVar 1) (cCons (cCall pLenX (cCons (cVar 2) cNil)) cNil)))) cNil))) (gTupN 2 (gsCons (gSetN 5) (gsCons (gSetN 6) gsNil))))
  (cSeq (cSet 7 (cLc [3] (iAny (cVar 2)) (gSetN 3) (cNot (cB (cCall (isoF c_law_is_fault) (cCons (cVar 3) cNil)))) (cVar 3)))
  (cSeq (cSet 6 (cIf (cB (c2 pGt (cCall c_law_draw (cCons (cVar 1) (cCons (cC (.int 4)) cNil))) (cC (.int 0)))) (c2 pGetX (cVar 7) (cCall c_law_draw (cCons (cVar 1) (cCons (cCall pLenX (cCons (cVar 7) cNil)) cNil)))) (cVar 6)))
  (cSeq (cFor (iAny (cVar 2)) (gSetN 3) cStandB) (cIfS (cNot (cB (cCall (isoF c_law_odds_right) (cCons (cVar 5) (cCons (cVar 6) cNil))))) (cRet (cC (.bl false))) cSkip)))))
theorem turn_ok {k : Int} (dr : Drawn A 2 0 3 k) (hk : k + 400 < 2 ^ 59) :
    ∃ x3' x5' x6' x7' x8' x9' x10' x11' x12' A', cTurnK (E14 x0 x3 x4 x5 x6 x7 x8 x9 x10 x11 x12 x13) A = .nx (E14 x0 x3' x4 x5' x6' x7' x8' x9' x10' x11' x12' x13) A' ∧ Drawn A' 2 0 3 (k + 400) := by
  obtain ⟨b, A1, hb, h1, d1⟩ := book_ok dr (by omega)
  obtain ⟨m, A2, hm, h2, d2⟩ := pick_len (E := E14 x0 x3 x4 x5 x6 x7 x8 x9 x10 x11 x12 x13) (A := A1) (i := 2) (l := eL) rfl rfl (by decide) (by decide) d1.dr (by omega)
  have s1 : cAsg (cTup (cCons (cCall c_law_book (cCons (cVar 1) cNil)) (cCons (c2 pGetX (cVar 2) (cCall c_law_draw (cCons (cVar 1) (cCons (cCall pLenX (cCons (cVar 2) cNil)) cNil)))) cNil))) (gTupN 2 (gsCons (gSetN 5) (gsCons (gSetN 6) gsNil))) (E14 x0 x3 x4 x5 x6 x7 x8 x9 x10 x11 x12 x13) A = .nx (E14 x0 x3 x4 (some (kD b)) (some (sD m)) x7 x8 x9 x10 x11 x12 x13) A2 :=
    (ev_asg (ev_tup (ev_cons ((ev_call1 (d := .ref 2) (A1 := A) rfl).trans h1) (ev_cons h2 ev_nil))) rfl).trans rfl
  have s2 : cSet 7 (cLc [3] (iAny (cVar 2)) (gSetN 3) (cNot (cB (cCall (isoF c_law_is_fault) (cCons (cVar 3) cNil)))) (cVar 3)) (E14 x0 x3 x4 (some (kD b)) (some (sD m)) x7 x8 x9 x10 x11 x12 x13) A2 = .nx (E14 x0 x3 x4 (some (kD b)) (some (sD m)) (some (lS gL)) x8 x9 x10 x11 x12 x13) A2 :=
    ev_set (lc_every (p := fun n => !fault n) fun n hn => ev_not (ev_cB ((ev_call1 (d := sD n) (A1 := A2) rfl).trans (fl_ok hn A2))))
  obtain ⟨r, A3, hr, h3, d3⟩ := ev_draw (E := E14 x0 x3 x4 (some (kD b)) (some (sD m)) (some (lS gL)) x8 x9 x10 x11 x12 x13) (A := A2) (i := 1) rfl d2 (by omega) 4
  have hr : r < 4 := by omega
  obtain ⟨s, A4, hs, s3, k4, hk4, d4⟩ : ∃ s A4, s < 160 ∧ cSet 6 (cIf (cB (c2 pGt (cCall c_law_draw (cCons (cVar 1) (cCons (cC (.int 4)) cNil))) (cC (.int 0)))) (c2 pGetX (cVar 7) (cCall c_law_draw (cCons (cVar 1) (cCons (cCall pLenX (cCons (cVar 7) cNil)) cNil)))) (cVar 6)) (E14 x0 x3 x4 (some (kD b)) (some (sD m)) (some (lS gL)) x8 x9 x10 x11 x12 x13) A2 = .nx (E14 x0 x3 x4 (some (kD b)) (some (sD s)) (some (lS gL)) x8 x9 x10 x11 x12 x13) A4 ∧ ∃ k4 : Int, k4 ≤ k + 9 ∧ Drawn A4 2 0 3 k4 := by
    have ht : cB (c2 pGt (cCall c_law_draw (cCons (cVar 1) (cCons (cC (.int 4)) cNil))) (cC (.int 0))) (E14 x0 x3 x4 (some (kD b)) (some (sD m)) (some (lS gL)) x8 x9 x10 x11 x12 x13) A2 = .ok (Nat.blt 0 r) A3 := ev_cB ((ev_c2 h3 rfl).trans (gt0 hr A3))
    cases hq : Nat.blt 0 r with
    | true =>
      rw [hq] at ht
      obtain ⟨s, A4, hs, h4, d4⟩ := pick_len (E := E14 x0 x3 x4 (some (kD b)) (some (sD m)) (some (lS gL)) x8 x9 x10 x11 x12 x13) (A := A3) (i := 7) (l := gL) rfl rfl gL_len.1 gL_len.2 d3.dr (by omega)
      exact ⟨s, A4, gL_lt s hs, ev_set ((ev_if ht).trans h4), _, by omega, d4⟩
    | false =>
      rw [hq] at ht
      exact ⟨m, A3, eL_lt m hm, ev_set ((ev_if ht).trans rfl), _, by omega, d3.dr⟩
  obtain ⟨E2, A5, h5, ⟨y3, y8, y9, y10, y11, y12, hE⟩, kk, hkk, dk⟩ := for_run (cg := gSetN 3) (body := cStandB) (E := E14 x0 x3 x4 (some (kD b)) (some (sD s)) (some (lS gL)) x8 x9 x10 x11 x12 x13) (A := A4)
    (fun j E B => (∃ y3 y8 y9 y10 y11 y12, E = E14 x0 y3 x4 (some (kD b)) (some (sD s)) (some (lS gL)) y8 y9 y10 y11 y12 x13) ∧ ∃ kk : Int, kk ≤ k + 9 + 2 * (j : Int) ∧ Drawn B 2 0 3 kk) iE ⟨⟨x3, x8, x9, x10, x11, x12, rfl⟩, k4, by omega, d4⟩ fun j d E B hd ⟨⟨y3, y8, y9, y10, y11, y12, hE⟩, kk, hkk, dk⟩ => by
      subst hE
      obtain ⟨n, hn, rfl⟩ := map_at hd
      have hj : j < 160 := by
        have := (List.getElem?_eq_some_iff.mp hn).1
        rwa [List.length_range] at this
      obtain ⟨z8, z9, z10, z11, z12, A', e1, e2⟩ := standB_ok hb (eL_lt n (List.mem_of_getElem? hn)) hs dk (by omega) (x0 := x0) (x4 := x4) (x7 := some (lS gL)) (x8 := y8) (x9 := y9) (x10 := y10) (x11 := y11) (x12 := y12) (x13 := x13)
      exact ⟨_, _, _, _, rfl, .inl e1, ⟨_, _, _, _, _, _, rfl⟩, kk + 2, by omega, e2⟩
  have hl : (eL.map sD).length = 160 := by rw [List.length_map, List.length_range]
  rw [hl] at hkk
  rw [hE] at h5
  refine ⟨y3, some (kD b), some (sD s), some (lS gL), y8, y9, y10, y11, y12, A5, ?_, dk.weaken (by omega)⟩
  refine (cSeq_nx s1).trans ((cSeq_nx s2).trans ((cSeq_nx s3).trans ((cSeq_nx h5).trans (ifF_nx ?_))))
  exact ev_not (b := true) (ev_cB ((ev_call2 (d := kD b) (e := sD s) (A1 := A5) (A2 := A5) rfl rfl).trans (oddsR_ok hb hs A5)))
noncomputable abbrev cEnd : CS := (cSeq (cAsg (cTup (cCons (cTup (cCons (cC (.str "always")) (cCons (cC (.str "over")) (cCons (cC (.str "keep")) (cCons (cC (.str "name")) (cCons (cC (.str "kept")) (cCons (cC (.str "copy")) cNil))))))) (cCons (cTup (cCons (cC (.str "none")) (cCons (cC (.str "none")) (cCons (cC (.str "none")) cNil)))) cNil))) (gTupN 2 (gsCons (gSetN 5) (gsCons (gSetN 13) gsNil))))
  (cSeq (cSet 8 (cLc [11] (iAny (cTup (cCons (cC (.bl true)) (cCons (cC (.bl false)) cNil)))) (gSetN 11) cYes (cCall (isoF c_moved) (cCons (cVar 5) (cCons (cTup (cCons (cC (.str "none")) (cCons (cC (.str "led")) (cCons (cC (.str "other")) cNil)))) (cCons (cVar 13) (cCons (cVar 11) (cCons (cC (.bl true)) cNil))))))))
  (cSeq (cIfS (cB (c2 pNeX (cVar 8) (cLst (cCons (cTup (cCons (cTup (cCons (cC (.str "none")) (cCons (cC (.str "led")) (cCons (cC (.str "other")) cNil)))) cNil)) (cCons (cTup (cCons (cTup (cCons (cC (.str "none")) (cCons (cC (.str "off")) (cCons (cC (.str "other")) cNil)))) cNil)) cNil))))) (cRet (cC (.bl false))) cSkip)
  (cSeq (cSet 8 (cLst (cCons (cCall (isoF c_behind) (cCons (cVar 5) (cCons (cTup (cCons (cC (.str "none")) (cCons (cC (.str "gone")) (cCons (cC (.str "none")) cNil)))) cNil))) (cCons (cCall (isoF c_behind) (cCons (cVar 5) (cCons (cTup (cCons (cC (.str "names")) (cCons (cC (.str "none")) (cCons (cC (.str "own")) cNil)))) cNil))) cNil))))
  (cSeq (cSet 12 (cTup (cCons (cTup (cCons (cC (.str "names")) (cCons (cC (.str "apart")) (cCons (cC (.str "own")) cNil)))) (cCons (cTup (cCons (cC (.str "names")) (cCons (cC (.str "gone")) (cCons (cC (.str "none")) cNil)))) cNil)))) (cRet (c2 pEqX (cVar 8) (cLst (cCons (cTup (cCons (cTup (cCons (cC (.str "none")) (cCons (cC (.str "bare")) (cCons (cC (.str "made")) cNil)))) (cCons (cTup (cCons (cC (.str "none")) (cCons (cC (.str "file")) (cCons (cC (.str "file")) cNil)))) cNil))) (cCons (cVar 12) cNil))))))))))
end
theorem end_ok (x0 x1 x2 x3 x4 x5 x6 x7 x8 x9 x10 x11 x12 x13 : Option D) (A : HA) : cEnd [x0, x1, x2, x3, x4, x5, x6, x7, x8, x9, x10, x11, x12, x13] A = .rt (.bl true) A := by kernel_rfl
/-- the law's answer -/
theorem law_run (ns : List Int) : ∃ A', c_law [.lst (ns.map .int)] [] = .ok (.bl true) A' := by
  obtain ⟨A4, hb, dr, _⟩ := begun_ok ns
  let x1 : D := .lst (ns.map .int)
  obtain ⟨x3', e2⟩ := a2_ok (A := A4) (x0 := some x1) (x3 := none) (x4 := none) (x5 := none) (x6 := none) (x7 := none) (x8 := none) (x9 := none) (x10 := none) (x11 := none) (x12 := none) (x13 := none)
  obtain ⟨E2, A2, h1, ⟨y3, y4, y5, y6, y7, y8, y9, y10, y11, y12, hE⟩, kk, hkk, dk⟩ := for_run (ci := iRng1 (cCons (cC (.int 3)) cNil)) (cg := gSetN 4) (body := cTurnK) (ds := intsD 0 3) (E := E14 (some x1) x3' none none none none none none none none none none) (A := A4) (A1 := A4)
    (fun j E A => (∃ y3 y4 y5 y6 y7 y8 y9 y10 y11 y12 : Option D, E = E14 (some x1) y3 y4 y5 y6 y7 y8 y9 y10 y11 y12 none) ∧ ∃ kk : Int, kk ≤ 400 * (j : Int) ∧ Drawn A 2 0 3 kk)
    (iRng1_ok (j := 3) (ev_one rfl) (by decide) (by decide)) ⟨⟨_, _, _, _, _, _, _, _, _, _, rfl⟩, 0, by decide, dr⟩ fun j d E A hd ⟨⟨y3, y4, y5, y6, y7, y8, y9, y10, y11, y12, hE⟩, kk, hkk, dk⟩ => by
      subst hE
      have hj : j < 3 := by
        have := (List.getElem?_eq_some_iff.mp hd).1
        simpa [intsD] using this
      obtain ⟨z3, z5, z6, z7, z8, z9, z10, z11, z12, A', ht, dt⟩ := turn_ok dk (by omega) (x0 := some x1) (x3 := y3) (x4 := some d) (x5 := y5) (x6 := y6) (x7 := y7) (x8 := y8) (x9 := y9) (x10 := y10) (x11 := y11) (x12 := y12) (x13 := none)
      exact ⟨_, _, _, _, rfl, .inl ht, ⟨_, _, _, _, _, _, _, _, _, _, rfl⟩, kk + 400, by omega, dt⟩
  rw [hE] at h1
  refine ⟨A2, c_run ?_⟩
  unfold b_law
  rw [cSeq_nx (ev_set ((ev_call1 (c := c_law_begun) (d := x1) (A1 := []) rfl).trans hb)), cSeq_nx (ev_set (d := eD) (A1 := A4) ((show cCall (isoF c_law_stands) cNil _ A4 = isoF c_law_stands [] A4 from rfl).trans (stands_ok A4)))]
  refine (cSeq_nx a1_ok).trans ((cSeq_nx e2).trans ((cSeq_nx (a3_ok _ _)).trans ((cSeq_nx h1).trans (end_ok _ _ _ _ _ _ _ _ _ _ _ _ _ _ _))))
end Sm
end
namespace Sm
open PySem PySem.Spec PyProof.Rows L2
theorem fw_is_tuple {K : PySem.W.Frag} {f : Addr} (h : DefW K "is_tuple" "is_tuple" s_is_tuple f) : ∃ fd, Fun K "is_tuple" "is_tuple" s_is_tuple f fd ∧ Binds K fd ["value", "many"] [] := h.fn fun _ _ _ _ _ _ us hl => match us, hl with | [_, _], _ => rfl
theorem fw_need_book {K : PySem.W.Frag} {f : Addr} (h : DefW K "need_book" "need_book" s_need_book f) : ∃ fd, Fun K "need_book" "need_book" s_need_book f fd ∧ Binds K fd ["book"] [] := h.fn fun _ _ _ _ _ _ us hl => match us, hl with | [_], _ => rfl
theorem fw_is_stand {K : PySem.W.Frag} {f : Addr} (h : DefW K "is_stand" "is_stand" s_is_stand f) : ∃ fd, Fun K "is_stand" "is_stand" s_is_stand f fd ∧ Binds K fd ["value"] [] := h.fn fun _ _ _ _ _ _ us hl => match us, hl with | [_], _ => rfl
theorem fw_need_stand {K : PySem.W.Frag} {f : Addr} (h : DefW K "need_stand" "need_stand" s_need_stand f) : ∃ fd, Fun K "need_stand" "need_stand" s_need_stand f fd ∧ Binds K fd ["stand"] [] := h.fn fun _ _ _ _ _ _ us hl => match us, hl with | [_], _ => rfl
theorem fw_is_folder_in {K : PySem.W.Frag} {f : Addr} (h : DefW K "is_folder_in" "is_folder_in" s_is_folder_in f) : ∃ fd, Fun K "is_folder_in" "is_folder_in" s_is_folder_in f fd ∧ Binds K fd ["stand"] [] := h.fn fun _ _ _ _ _ _ us hl => match us, hl with | [_], _ => rfl
theorem fw_is_fault_in {K : PySem.W.Frag} {f : Addr} (h : DefW K "is_fault_in" "is_fault_in" s_is_fault_in f) : ∃ fd, Fun K "is_fault_in" "is_fault_in" s_is_fault_in f fd ∧ Binds K fd ["stand"] [] := h.fn fun _ _ _ _ _ _ us hl => match us, hl with | [_], _ => rfl
theorem fw_is_fault {K : PySem.W.Frag} {f : Addr} (h : DefW K "is_fault" "is_fault" s_is_fault f) : ∃ fd, Fun K "is_fault" "is_fault" s_is_fault f fd ∧ Binds K fd ["stand"] [] := h.fn fun _ _ _ _ _ _ us hl => match us, hl with | [_], _ => rfl
theorem fw_first_in {K : PySem.W.Frag} {f : Addr} (h : DefW K "first_in" "first_in" s_first_in f) : ∃ fd, Fun K "first_in" "first_in" s_first_in f fd ∧ Binds K fd ["has_names"] [] := h.fn fun _ _ _ _ _ _ us hl => match us, hl with | [_], _ => rfl
theorem fw_first_stands {K : PySem.W.Frag} {f : Addr} (h : DefW K "first_stands" "first_stands" s_first_stands f) : ∃ fd, Fun K "first_stands" "first_stands" s_first_stands f fd ∧ Binds K fd ["has_names"] [] := h.fn fun _ _ _ _ _ _ us hl => match us, hl with | [_], _ => rfl
theorem fw_left_by {K : PySem.W.Frag} {f : Addr} (h : DefW K "left_by" "left_by" s_left_by f) : ∃ fd, Fun K "left_by" "left_by" s_left_by f fd ∧ Binds K fd ["book", "below", "entry"] [] := h.fn fun _ _ _ _ _ _ us hl => match us, hl with | [_, _, _], _ => rfl
theorem fw_raised_stand {K : PySem.W.Frag} {f : Addr} (h : DefW K "raised_stand" "raised_stand" s_raised_stand f) : ∃ fd, Fun K "raised_stand" "raised_stand" s_raised_stand f fd ∧ Binds K fd ["book", "stand"] [] := h.fn fun _ _ _ _ _ _ us hl => match us, hl with | [_, _], _ => rfl
theorem fw_behind_in {K : PySem.W.Frag} {f : Addr} (h : DefW K "behind_in" "behind_in" s_behind_in f) : ∃ fd, Fun K "behind_in" "behind_in" s_behind_in f fd ∧ Binds K fd ["book", "stand"] [] := h.fn fun _ _ _ _ _ _ us hl => match us, hl with | [_, _], _ => rfl
theorem fw_behind {K : PySem.W.Frag} {f : Addr} (h : DefW K "behind" "behind" s_behind f) : ∃ fd, Fun K "behind" "behind" s_behind f fd ∧ Binds K fd ["book", "stand"] [] := h.fn fun _ _ _ _ _ _ us hl => match us, hl with | [_, _], _ => rfl
theorem fw_mark_of {K : PySem.W.Frag} {f : Addr} (h : DefW K "mark_of" "mark_of" s_mark_of f) : ∃ fd, Fun K "mark_of" "mark_of" s_mark_of f fd ∧ Binds K fd ["book", "source", "is_same", "is_home"] [] := h.fn fun _ _ _ _ _ _ us hl => match us, hl with | [_, _, _, _], _ => rfl
theorem fw_moved_in {K : PySem.W.Frag} {f : Addr} (h : DefW K "moved_in" "moved_in" s_moved_in f) : ∃ fd, Fun K "moved_in" "moved_in" s_moved_in f fd ∧ Binds K fd ["book", "source", "target", "is_same", "is_home"] [] := h.fn fun _ _ _ _ _ _ us hl => match us, hl with | [_, _, _, _, _], _ => rfl
theorem fw_can_move {K : PySem.W.Frag} {f : Addr} (h : DefW K "can_move" "can_move" s_can_move f) : ∃ fd, Fun K "can_move" "can_move" s_can_move f fd ∧ Binds K fd ["source", "target"] [] := h.fn fun _ _ _ _ _ _ us hl => match us, hl with | [_, _], _ => rfl
theorem fw_moved {K : PySem.W.Frag} {f : Addr} (h : DefW K "moved" "moved" s_moved f) : ∃ fd, Fun K "moved" "moved" s_moved f fd ∧ Binds K fd ["book", "source", "target", "is_same", "is_home"] [] := h.fn fun _ _ _ _ _ _ us hl => match us, hl with | [_, _, _, _, _], _ => rfl
theorem fw_law_mixed {K : PySem.W.Frag} {f : Addr} (h : DefW K "_law_mixed" "_law_mixed" s_law_mixed f) : ∃ fd, Fun K "_law_mixed" "_law_mixed" s_law_mixed f fd ∧ Binds K fd ["_law_cell", "_law_n"] [] := h.fn fun _ _ _ _ _ _ us hl => match us, hl with | [_, _], _ => rfl
theorem fw_law_folded {K : PySem.W.Frag} {f : Addr} (h : DefW K "_law_folded" "_law_folded" s_law_folded f) : ∃ fd, Fun K "_law_folded" "_law_folded" s_law_folded f fd ∧ Binds K fd ["_law_script"] [] := h.fn fun _ _ _ _ _ _ us hl => match us, hl with | [_], _ => rfl
theorem fw_law_draw {K : PySem.W.Frag} {f : Addr} (h : DefW K "_law_draw" "_law_draw" s_law_draw f) : ∃ fd, Fun K "_law_draw" "_law_draw" s_law_draw f fd ∧ Binds K fd ["_law_m", "_law_limit"] [] := h.fn fun _ _ _ _ _ _ us hl => match us, hl with | [_, _], _ => rfl
theorem fw_law_begun {K : PySem.W.Frag} {f : Addr} (h : DefW K "_law_begun" "_law_begun" s_law_begun f) : ∃ fd, Fun K "_law_begun" "_law_begun" s_law_begun f fd ∧ Binds K fd ["_law_script"] [] := h.fn fun _ _ _ _ _ _ us hl => match us, hl with | [_], _ => rfl
theorem fw_law_book {K : PySem.W.Frag} {f : Addr} (h : DefW K "_law_book" "_law_book" s_law_book f) : ∃ fd, Fun K "_law_book" "_law_book" s_law_book f fd ∧ Binds K fd ["_law_m"] [] := h.fn fun _ _ _ _ _ _ us hl => match us, hl with | [_], _ => rfl
theorem fw_law_class {K : PySem.W.Frag} {f : Addr} (h : DefW K "_law_class" "_law_class" s_law_class f) : ∃ fd, Fun K "_law_class" "_law_class" s_law_class f fd ∧ Binds K fd ["_law_error"] [] := h.fn fun _ _ _ _ _ _ us hl => match us, hl with | [_], _ => rfl
theorem fw_law_said {K : PySem.W.Frag} {f : Addr} (h : DefW K "_law_said" "_law_said" s_law_said f) : ∃ fd, Fun K "_law_said" "_law_said" s_law_said f fd ∧ Binds K fd ["_law_call"] [] := h.fn fun _ _ _ _ _ _ us hl => match us, hl with | [_], _ => rfl
theorem fw_law_stands {K : PySem.W.Frag} {f : Addr} (h : DefW K "_law_stands" "_law_stands" s_law_stands f) : ∃ fd, Fun K "_law_stands" "_law_stands" s_law_stands f fd ∧ Binds K fd [] [] := h.fn fun _ _ _ _ _ _ us hl => match us, hl with | [], _ => rfl
theorem fw_law_is_fault {K : PySem.W.Frag} {f : Addr} (h : DefW K "_law_is_fault" "_law_is_fault" s_law_is_fault f) : ∃ fd, Fun K "_law_is_fault" "_law_is_fault" s_law_is_fault f fd ∧ Binds K fd ["_law_stand"] [] := h.fn fun _ _ _ _ _ _ us hl => match us, hl with | [_], _ => rfl
theorem fw_law_has_folder {K : PySem.W.Frag} {f : Addr} (h : DefW K "_law_has_folder" "_law_has_folder" s_law_has_folder f) : ∃ fd, Fun K "_law_has_folder" "_law_has_folder" s_law_has_folder f fd ∧ Binds K fd ["_law_stand"] [] := h.fn fun _ _ _ _ _ _ us hl => match us, hl with | [_], _ => rfl
theorem fw_law_raised {K : PySem.W.Frag} {f : Addr} (h : DefW K "_law_raised" "_law_raised" s_law_raised f) : ∃ fd, Fun K "_law_raised" "_law_raised" s_law_raised f fd ∧ Binds K fd ["_law_book_here", "_law_stand"] [] := h.fn fun _ _ _ _ _ _ us hl => match us, hl with | [_, _], _ => rfl
theorem fw_law_behind {K : PySem.W.Frag} {f : Addr} (h : DefW K "_law_behind" "_law_behind" s_law_behind f) : ∃ fd, Fun K "_law_behind" "_law_behind" s_law_behind f fd ∧ Binds K fd ["_law_book_here", "_law_stand"] [] := h.fn fun _ _ _ _ _ _ us hl => match us, hl with | [_, _], _ => rfl
theorem fw_law_moved {K : PySem.W.Frag} {f : Addr} (h : DefW K "_law_moved" "_law_moved" s_law_moved f) : ∃ fd, Fun K "_law_moved" "_law_moved" s_law_moved f fd ∧ Binds K fd ["_law_book_here", "_law_source", "_law_target", "_law_same_so", "_law_home_so"] [] := h.fn fun _ _ _ _ _ _ us hl => match us, hl with | [_, _, _, _, _], _ => rfl
theorem fw_law_first {K : PySem.W.Frag} {f : Addr} (h : DefW K "_law_first" "_law_first" s_law_first f) : ∃ fd, Fun K "_law_first" "_law_first" s_law_first f fd ∧ Binds K fd ["_law_has_so"] [] := h.fn fun _ _ _ _ _ _ us hl => match us, hl with | [_], _ => rfl
theorem fw_law_odds {K : PySem.W.Frag} {f : Addr} (h : DefW K "_law_odds" "_law_odds" s_law_odds f) : ∃ fd, Fun K "_law_odds" "_law_odds" s_law_odds f fd ∧ Binds K fd ["_law_stand"] [] := h.fn fun _ _ _ _ _ _ us hl => match us, hl with | [_], _ => rfl
theorem all_mk {w : World} {K : PySem.W.Frag} {h : Heap} {mg : Str → Option Value} {fa : Addr} (X : K.In h) (GN : h.Ns mainGlobals mg) (hfa : mg "law" = some (.ref fa)) {ts : List Addr}
    (ht : ∀ P ∈ ts, h.get? P = some (PySem.W.tabObj #[]))
    {f0 f1 f2 f3 f4 f5 f6 f7 f8 f9 f10 f11 f12 f13 f14 f15 f16 f17 f18 f19 f20 f21 f22 f23 f24 f25 f26 f27 f28 f29 f30 f31 f32 f33 C0 C1 C2 C3 C4 C5 C6 C7 C8 C9 : Addr} {od32 an32 : Option Addr} {sl32 : Array (Option Value)} {oc32 kV32 dc32 pm32 ct32 : Value} {cA32 P32 : Addr} {co32 : Value} {zd32 : Option Addr} {vc32 : Array Value} {zs32 : Array (Option Value)} {od33 an33 : Option Addr} {sl33 : Array (Option Value)} {oc33 kV33 dc33 pm33 cd33 ct33 : Value} {tk_ALWAYS : Tok} {tk_ANEW : Tok} {tk_APART : Tok} {tk_BARE : Tok} {tk_BELOW : Tok} {tk_BY_NAME : Tok} {tk_BY_PATH : Tok} {tk_COPY : Tok} {tk_FILE : Tok} {tk_FOLDER : Tok} {tk_GONE : Tok} {tk_JOINS : Tok} {tk_KEEP : Tok} {tk_LED : Tok} {tk_MADE : Tok} {tk_NAMES : Tok} {tk_NEAR : Tok} {tk_NONE : Tok} {tk_OFF : Tok} {tk_OTHER : Tok} {tk_OVER : Tok} {tk_OWN : Tok} {tk_SEEN : Tok} {tk_SHOWN : Tok} {fx4 cda4 cc4 : Addr} {oc_4 kV_4 dc_4 pm_4 ct_4 ccl4 cl4 : Value} {od_4 an_4 cdd4 cld4 : Option Addr} {osl4 ccs4 csl4 : Array (Option Value)} {vs4 : Array Value} {fi4 : Str} {tf4 : Tok} {cD4 : ClassData} {gt4 : Option Value} {fx8 cda8 cc8 : Addr} {oc_8 kV_8 dc_8 pm_8 ct_8 ccl8 cl8 : Value} {od_8 an_8 cdd8 cld8 : Option Addr} {osl8 ccs8 csl8 : Array (Option Value)} {vs8 : Array Value} {fi8 : Str} {tf8 : Tok} {cD8 : ClassData} {gt8 : Option Value}
    (A0 : PySem.W.nsIn K mainGlobals "PileError" = some (some (.ref C0)))
    (A1 : PySem.W.nsIn K mainGlobals "BadTree" = some (some (.ref C1)))
    (A2 : PySem.W.nsIn K mainGlobals "BadPath" = some (some (.ref C2)))
    (A3 : PySem.W.nsIn K mainGlobals "BadUpper" = some (some (.ref C3)))
    (A4 : PySem.W.nsIn K mainGlobals "BadBook" = some (some (.ref C4)))
    (A5 : PySem.W.nsIn K mainGlobals "BadDeed" = some (some (.ref C5)))
    (A6 : PySem.W.nsIn K mainGlobals "BadRow" = some (some (.ref C6)))
    (A7 : PySem.W.nsIn K mainGlobals "Refused" = some (some (.ref C7)))
    (A8 : PySem.W.nsIn K mainGlobals "BadStand" = some (some (.ref C8)))
    (A9 : PySem.W.nsIn K mainGlobals "BadPaper" = some (some (.ref C9)))
    (a0 : PySem.W.nsIn K mainGlobals "is_tuple" = some (some (.ref f0)))
    (w0 : DefW K "is_tuple" "is_tuple" s_is_tuple f0)
    (a1 : PySem.W.nsIn K mainGlobals "need_book" = some (some (.ref f1)))
    (w1 : DefW K "need_book" "need_book" s_need_book f1)
    (a2 : PySem.W.nsIn K mainGlobals "is_stand" = some (some (.ref f2)))
    (w2 : DefW K "is_stand" "is_stand" s_is_stand f2)
    (a3 : PySem.W.nsIn K mainGlobals "need_stand" = some (some (.ref f3)))
    (w3 : DefW K "need_stand" "need_stand" s_need_stand f3)
    (a4 : PySem.W.nsIn K mainGlobals "is_folder_in" = some (some (.ref f4)))
    (w4 : DefW K "is_folder_in" "is_folder_in" s_is_folder_in f4)
    (a5 : PySem.W.nsIn K mainGlobals "is_fault_in" = some (some (.ref f5)))
    (w5 : DefW K "is_fault_in" "is_fault_in" s_is_fault_in f5)
    (a6 : PySem.W.nsIn K mainGlobals "is_fault" = some (some (.ref f6)))
    (w6 : DefW K "is_fault" "is_fault" s_is_fault f6)
    (a7 : PySem.W.nsIn K mainGlobals "first_in" = some (some (.ref f7)))
    (w7 : DefW K "first_in" "first_in" s_first_in f7)
    (a8 : PySem.W.nsIn K mainGlobals "first_stands" = some (some (.ref f8)))
    (w8 : DefW K "first_stands" "first_stands" s_first_stands f8)
    (a9 : PySem.W.nsIn K mainGlobals "left_by" = some (some (.ref f9)))
    (w9 : DefW K "left_by" "left_by" s_left_by f9)
    (a10 : PySem.W.nsIn K mainGlobals "raised_stand" = some (some (.ref f10)))
    (w10 : DefW K "raised_stand" "raised_stand" s_raised_stand f10)
    (a11 : PySem.W.nsIn K mainGlobals "behind_in" = some (some (.ref f11)))
    (w11 : DefW K "behind_in" "behind_in" s_behind_in f11)
    (a12 : PySem.W.nsIn K mainGlobals "behind" = some (some (.ref f12)))
    (w12 : DefW K "behind" "behind" s_behind f12)
    (a13 : PySem.W.nsIn K mainGlobals "mark_of" = some (some (.ref f13)))
    (w13 : DefW K "mark_of" "mark_of" s_mark_of f13)
    (a14 : PySem.W.nsIn K mainGlobals "moved_in" = some (some (.ref f14)))
    (w14 : DefW K "moved_in" "moved_in" s_moved_in f14)
    (a15 : PySem.W.nsIn K mainGlobals "can_move" = some (some (.ref f15)))
    (w15 : DefW K "can_move" "can_move" s_can_move f15)
    (a16 : PySem.W.nsIn K mainGlobals "moved" = some (some (.ref f16)))
    (w16 : DefW K "moved" "moved" s_moved f16)
    (a17 : PySem.W.nsIn K mainGlobals "_law_mixed" = some (some (.ref f17)))
    (w17 : DefW K "_law_mixed" "_law_mixed" s_law_mixed f17)
    (a18 : PySem.W.nsIn K mainGlobals "_law_folded" = some (some (.ref f18)))
    (w18 : DefW K "_law_folded" "_law_folded" s_law_folded f18)
    (a19 : PySem.W.nsIn K mainGlobals "_law_draw" = some (some (.ref f19)))
    (w19 : DefW K "_law_draw" "_law_draw" s_law_draw f19)
    (a20 : PySem.W.nsIn K mainGlobals "_law_begun" = some (some (.ref f20)))
    (w20 : DefW K "_law_begun" "_law_begun" s_law_begun f20)
    (a21 : PySem.W.nsIn K mainGlobals "_law_book" = some (some (.ref f21)))
    (w21 : DefW K "_law_book" "_law_book" s_law_book f21)
    (a22 : PySem.W.nsIn K mainGlobals "_law_class" = some (some (.ref f22)))
    (w22 : DefW K "_law_class" "_law_class" s_law_class f22)
    (a23 : PySem.W.nsIn K mainGlobals "_law_said" = some (some (.ref f23)))
    (w23 : DefW K "_law_said" "_law_said" s_law_said f23)
    (a24 : PySem.W.nsIn K mainGlobals "_law_stands" = some (some (.ref f24)))
    (w24 : DefW K "_law_stands" "_law_stands" s_law_stands f24)
    (a25 : PySem.W.nsIn K mainGlobals "_law_is_fault" = some (some (.ref f25)))
    (w25 : DefW K "_law_is_fault" "_law_is_fault" s_law_is_fault f25)
    (a26 : PySem.W.nsIn K mainGlobals "_law_has_folder" = some (some (.ref f26)))
    (w26 : DefW K "_law_has_folder" "_law_has_folder" s_law_has_folder f26)
    (a27 : PySem.W.nsIn K mainGlobals "_law_raised" = some (some (.ref f27)))
    (w27 : DefW K "_law_raised" "_law_raised" s_law_raised f27)
    (a28 : PySem.W.nsIn K mainGlobals "_law_behind" = some (some (.ref f28)))
    (w28 : DefW K "_law_behind" "_law_behind" s_law_behind f28)
    (a29 : PySem.W.nsIn K mainGlobals "_law_moved" = some (some (.ref f29)))
    (w29 : DefW K "_law_moved" "_law_moved" s_law_moved f29)
    (a30 : PySem.W.nsIn K mainGlobals "_law_first" = some (some (.ref f30)))
    (w30 : DefW K "_law_first" "_law_first" s_law_first f30)
    (a31 : PySem.W.nsIn K mainGlobals "_law_odds" = some (some (.ref f31)))
    (w31 : DefW K "_law_odds" "_law_odds" s_law_odds f31)
    (a32 : PySem.W.nsIn K mainGlobals "_law_odds_right" = some (some (.ref f32)))
    (l32 : K.lookup f32 = some ⟨oc32, od32, .func (PySem.W.fnOf "_law_odds_right" "_law_odds_right" (defArgs s_law_odds_right) (defBody s_law_odds_right) (defScope s_law_odds_right) .none kV32 dc32 pm32 an32 (.ref cA32) ct32), sl32⟩)
    (c32 : PySem.W.codeIn K (.ref cA32) "_law_odds_right" = true)
    (w32 : K.lookup cA32 = some ⟨co32, zd32, .fields vc32, zs32⟩)
    (e32 : vc32[11]? = some (.ref P32))
    (t32 : PySem.W.codeHdIn K cA32 P32 = true)
    (u32 : K.lookup P32 = none)
    (v32 : P32 ∈ ts)
    (k32 : PySem.W.keepIn K (.ref f32) = true)
    (a33 : PySem.W.nsIn K mainGlobals "law" = some (some (.ref f33)))
    (l33 : K.lookup f33 = some ⟨oc33, od33, .func (PySem.W.fnOf "law" "law" (defArgs s_law) (defBody s_law) (defScope s_law) .none kV33 dc33 pm33 an33 cd33 ct33), sl33⟩)
    (c33 : PySem.W.codeIn K cd33 "law" = true)
    (k33 : PySem.W.keepIn K (.ref f33) = true)
    (mc_ALWAYS : PySem.W.nsIn K mainGlobals "ALWAYS" = some (some (.str "always" tk_ALWAYS)))
    (mc_ANEW : PySem.W.nsIn K mainGlobals "ANEW" = some (some (.str "anew" tk_ANEW)))
    (mc_APART : PySem.W.nsIn K mainGlobals "APART" = some (some (.str "apart" tk_APART)))
    (mc_BARE : PySem.W.nsIn K mainGlobals "BARE" = some (some (.str "bare" tk_BARE)))
    (mc_BELOW : PySem.W.nsIn K mainGlobals "BELOW" = some (some (.str "below" tk_BELOW)))
    (mc_BY_NAME : PySem.W.nsIn K mainGlobals "BY_NAME" = some (some (.str "name" tk_BY_NAME)))
    (mc_BY_PATH : PySem.W.nsIn K mainGlobals "BY_PATH" = some (some (.str "path" tk_BY_PATH)))
    (mc_COPY : PySem.W.nsIn K mainGlobals "COPY" = some (some (.str "copy" tk_COPY)))
    (mc_FILE : PySem.W.nsIn K mainGlobals "FILE" = some (some (.str "file" tk_FILE)))
    (mc_FOLDER : PySem.W.nsIn K mainGlobals "FOLDER" = some (some (.str "folder" tk_FOLDER)))
    (mc_GONE : PySem.W.nsIn K mainGlobals "GONE" = some (some (.str "gone" tk_GONE)))
    (mc_JOINS : PySem.W.nsIn K mainGlobals "JOINS" = some (some (.str "joins" tk_JOINS)))
    (mc_KEEP : PySem.W.nsIn K mainGlobals "KEEP" = some (some (.str "keep" tk_KEEP)))
    (mc_LED : PySem.W.nsIn K mainGlobals "LED" = some (some (.str "led" tk_LED)))
    (mc_MADE : PySem.W.nsIn K mainGlobals "MADE" = some (some (.str "made" tk_MADE)))
    (mc_NAMES : PySem.W.nsIn K mainGlobals "NAMES" = some (some (.str "names" tk_NAMES)))
    (mc_NEAR : PySem.W.nsIn K mainGlobals "NEAR" = some (some (.str "near" tk_NEAR)))
    (mc_NONE : PySem.W.nsIn K mainGlobals "NONE" = some (some (.str "none" tk_NONE)))
    (mc_OFF : PySem.W.nsIn K mainGlobals "OFF" = some (some (.str "off" tk_OFF)))
    (mc_OTHER : PySem.W.nsIn K mainGlobals "OTHER" = some (some (.str "other" tk_OTHER)))
    (mc_OVER : PySem.W.nsIn K mainGlobals "OVER" = some (some (.str "over" tk_OVER)))
    (mc_OWN : PySem.W.nsIn K mainGlobals "OWN" = some (some (.str "own" tk_OWN)))
    (mc_SEEN : PySem.W.nsIn K mainGlobals "SEEN" = some (some (.str "seen" tk_SEEN)))
    (mc_SHOWN : PySem.W.nsIn K mainGlobals "SHOWN" = some (some (.str "shown" tk_SHOWN)))
    (mtf_CHOICES : ∃ p, PySem.W.nsIn K mainGlobals "CHOICES" = some (some (.ref p)) ∧ KDV K (.tup [(.tup [(.str "always"), (.str "below"), (.str "shown"), (.str "never")]), (.tup [(.str "bare"), (.str "over"), (.str "joins")]), (.tup [(.str "bare"), (.str "keep")]), (.tup [(.str "path"), (.str "seen"), (.str "name"), (.str "near"), (.str "copy"), (.str "keep")]), (.tup [(.str "kept"), (.str "anew")]), (.tup [(.str "index"), (.str "copy")])]) (.ref p))
    (mtf_ENTRIES : ∃ p, PySem.W.nsIn K mainGlobals "ENTRIES" = some (some (.ref p)) ∧ KDV K (.tup [(.str "apart"), (.str "bare"), (.str "file"), (.str "gone"), (.str "joins"), (.str "led"), (.str "none"), (.str "off")]) (.ref p))
    (mtf_LYING : ∃ p, PySem.W.nsIn K mainGlobals "LYING" = some (some (.ref p)) ∧ KDV K (.tup [(.str "file"), (.str "folder"), (.str "names"), (.str "none")]) (.ref p))
    (mtf_TRUTHS : ∃ p, PySem.W.nsIn K mainGlobals "TRUTHS" = some (some (.ref p)) ∧ KDV K (.tup [(.str "file"), (.str "made"), (.str "none"), (.str "other"), (.str "own")]) (.ref p))
    (q_4 : PySem.W.excInitIn K C4 veT "ValueError.__new__" = true)
    (i_4 : PySem.W.findIn K (.ref C4) "__init__" = some (some (.ref fx4)))
    (l_4 : K.lookup fx4 = some ⟨oc_4, od_4, .func (PySem.W.ksFn "__init__" "BadBook.__init__" (defArgs (inClass (top 5) 0)) (defBody (inClass (top 5) 0)) (defScope (inClass (top 5) 0)) .none kV_4 dc_4 pm_4 an_4 (.ref cda4) ct_4 cc4), osl4⟩)
    (c_4 : PySem.W.codeIn K (.ref cda4) "BadBook.__init__" = true)
    (d_4 : K.lookup cda4 = some ⟨ccl4, cdd4, .fields vs4, ccs4⟩)
    (v_4 : vs4[2]? = some (.str fi4 tf4))
    (m_4 : ((PySem.Challenge.pw_piledtrees_k40_whole_stands.main.file : Str) == fi4) = true)
    (e_4 : K.lookup cc4 = some ⟨cl4, cld4, .cell (some (.ref C4)), csl4⟩)
    (D_4 : PySem.W.clsIn K C4 = some cD4)
    (r_4 : PySem.HandSPX.refsVE cD4.mro = true)
    (H_4 : cD4.hasDict = true)
    (s_4 : PySem.W.mroIn K C4 (.ref C4) = some true)
    (u_4 : PySem.W.ks_superIn K C4 C4 "__init__" = some (some (.builtin "ValueError.__init__")))
    (V_4 : PySem.W.subIn K (.ref C4) (.type "ValueError") = some true)
    (S_4 : PySem.W.findIn K (.ref C4) "__setattr__" = some (some (.builtin "object.__setattr__")))
    (y_4 : PySem.W.typeIn K (.ref fx4) = some (.type "function"))
    (n_4 : PySem.W.findIn K (.ref C4) "place" = some none)
    (Y_4 : PySem.W.typeIn K (.ref C4) = some (.type "type"))
    (k_4 : PySem.W.keepIn K (.ref C4) = true)
    (g_4 : PySem.W.findIn K (.ref C4) "__getattribute__" = some (some (.builtin "BaseException.__getattribute__")))
    (t_4 : PySem.W.findIn K (.ref C4) "__getattr__" = some gt4)
    (B_4 : PySem.W.subIn K (.ref C4) (.type "BaseException") = some true)
    (L_4 : PySem.W.findIn K (.ref C4) "__class__" = some (some (.builtin "object.__class__")))
    (O_4 : PySem.W.mroIn K C4 (.type "object") = some true)
    (W_4 : PySem.W.hasDictIn K C4 = true)
    (q_8 : PySem.W.excInitIn K C8 veT "ValueError.__new__" = true)
    (i_8 : PySem.W.findIn K (.ref C8) "__init__" = some (some (.ref fx8)))
    (l_8 : K.lookup fx8 = some ⟨oc_8, od_8, .func (PySem.W.ksFn "__init__" "BadStand.__init__" (defArgs (inClass (top 9) 0)) (defBody (inClass (top 9) 0)) (defScope (inClass (top 9) 0)) .none kV_8 dc_8 pm_8 an_8 (.ref cda8) ct_8 cc8), osl8⟩)
    (c_8 : PySem.W.codeIn K (.ref cda8) "BadStand.__init__" = true)
    (d_8 : K.lookup cda8 = some ⟨ccl8, cdd8, .fields vs8, ccs8⟩)
    (v_8 : vs8[2]? = some (.str fi8 tf8))
    (m_8 : ((PySem.Challenge.pw_piledtrees_k40_whole_stands.main.file : Str) == fi8) = true)
    (e_8 : K.lookup cc8 = some ⟨cl8, cld8, .cell (some (.ref C8)), csl8⟩)
    (D_8 : PySem.W.clsIn K C8 = some cD8)
    (r_8 : PySem.HandSPX.refsVE cD8.mro = true)
    (H_8 : cD8.hasDict = true)
    (s_8 : PySem.W.mroIn K C8 (.ref C8) = some true)
    (u_8 : PySem.W.ks_superIn K C8 C8 "__init__" = some (some (.builtin "ValueError.__init__")))
    (V_8 : PySem.W.subIn K (.ref C8) (.type "ValueError") = some true)
    (S_8 : PySem.W.findIn K (.ref C8) "__setattr__" = some (some (.builtin "object.__setattr__")))
    (y_8 : PySem.W.typeIn K (.ref fx8) = some (.type "function"))
    (n_8 : PySem.W.findIn K (.ref C8) "value" = some none)
    (Y_8 : PySem.W.typeIn K (.ref C8) = some (.type "type"))
    (k_8 : PySem.W.keepIn K (.ref C8) = true)
    (g_8 : PySem.W.findIn K (.ref C8) "__getattribute__" = some (some (.builtin "BaseException.__getattribute__")))
    (t_8 : PySem.W.findIn K (.ref C8) "__getattr__" = some gt8)
    (B_8 : PySem.W.subIn K (.ref C8) (.type "BaseException") = some true)
    (L_8 : PySem.W.findIn K (.ref C8) "__class__" = some (some (.builtin "object.__class__")))
    (O_8 : PySem.W.mroIn K C8 (.type "object") = some true)
    (W_8 : PySem.W.hasDictIn K C8 = true)
    (no : PySem.W.nsIn K cStatics "thirdparty.any" = some none)
    (sp : PySem.W.specialIn K (.builtin "object.__class__") "__get__" = some (some (.builtin "getset_descriptor.__get__")))
    (tk : PySem.W.takesIn K (.builtin "object.__class__") = some true)
    (z_all : PySem.W.nsIn K mainGlobals "all" = some none)
    (z_enumerate : PySem.W.nsIn K mainGlobals "enumerate" = some none)
    (z_int : PySem.W.nsIn K mainGlobals "int" = some none)
    (z_isinstance : PySem.W.nsIn K mainGlobals "isinstance" = some none)
    (z_len : PySem.W.nsIn K mainGlobals "len" = some none)
    (z_list : PySem.W.nsIn K mainGlobals "list" = some none)
    (z_range : PySem.W.nsIn K mainGlobals "range" = some none)
    (z_repr : PySem.W.nsIn K mainGlobals "repr" = some none)
    (z_set : PySem.W.nsIn K mainGlobals "set" = some none)
    (z_sorted : PySem.W.nsIn K mainGlobals "sorted" = some none)
    (z_str : PySem.W.nsIn K mainGlobals "str" = some none)
    (z_super : PySem.W.nsIn K mainGlobals "super" = some none)
    (z_tuple : PySem.W.nsIn K mainGlobals "tuple" = some none)
    (P_0 : PySem.W.subIn K (.ref C0) (.type "BaseException") = some true)
    (Q_4_0 : (Value.ref C4 == Value.ref C0) = false)
    (Q_8_0 : (Value.ref C8 == Value.ref C0) = false)
    (x0 : PySem.W.kitOne K (.ref C4) (.ref C0) = some true)
    (x1 : PySem.W.kitOne K (.ref C4) (.ref C1) = some false)
    (x2 : PySem.W.kitOne K (.ref C4) (.ref C2) = some false)
    (x3 : PySem.W.kitOne K (.ref C4) (.ref C3) = some false)
    (x4 : PySem.W.kitOne K (.ref C4) (.ref C4) = some true)
    (x5 : PySem.W.kitOne K (.ref C4) (.ref C5) = some false)
    (x6 : PySem.W.kitOne K (.ref C4) (.ref C6) = some false)
    (x7 : PySem.W.kitOne K (.ref C4) (.ref C7) = some false)
    (x8 : PySem.W.kitOne K (.ref C4) (.ref C8) = some false)
    (x9 : PySem.W.kitOne K (.ref C4) (.ref C9) = some false)
    (x10 : PySem.W.kitOne K (.ref C8) (.ref C0) = some true)
    (x11 : PySem.W.kitOne K (.ref C8) (.ref C1) = some false)
    (x12 : PySem.W.kitOne K (.ref C8) (.ref C2) = some false)
    (x13 : PySem.W.kitOne K (.ref C8) (.ref C3) = some false)
    (x14 : PySem.W.kitOne K (.ref C8) (.ref C4) = some false)
    (x15 : PySem.W.kitOne K (.ref C8) (.ref C5) = some false)
    (x16 : PySem.W.kitOne K (.ref C8) (.ref C6) = some false)
    (x17 : PySem.W.kitOne K (.ref C8) (.ref C7) = some false)
    (x18 : PySem.W.kitOne K (.ref C8) (.ref C8) = some true)
    (x19 : PySem.W.kitOne K (.ref C8) (.ref C9) = some false)
    (x20 : PySem.W.kitOne K (.type "tuple") (.type "tuple") = some true)
    (x21 : PySem.W.kitOne K (.type "tuple") (.type "str") = some false)
    (x22 : PySem.W.kitOne K (.type "str") (.type "str") = some true)
    (x23 : PySem.W.kitOne K (.type "str") (.type "tuple") = some false)
    (x24 : PySem.W.kitOne K (.type "dict") (.type "dict") = some true)
    (x25 : PySem.W.kitOne K (.type "dict") (.type "tuple") = some false)
    (x26 : PySem.W.kitOne K (.type "dict") (.type "str") = some false)
    (x27 : PySem.W.kitOne K (.type "list") (.type "list") = some true)
    (x28 : PySem.W.kitOne K (.type "list") (.type "tuple") = some false)
    (x29 : PySem.W.kitOne K (.type "list") (.type "str") = some false)
    (x30 : PySem.W.kitOne K (.type "int") (.type "int") = some true)
    (x31 : PySem.W.kitOne K (.type "int") (.type "bool") = some false)
    (x32 : PySem.W.kitOne K (.type "int") (.type "tuple") = some false)
    (x33 : PySem.W.kitOne K (.type "int") (.type "str") = some false)
    (x34 : PySem.W.kitOne K (.type "NoneType") (.type "tuple") = some false)
    (x35 : PySem.W.kitOne K (.type "NoneType") (.type "str") = some false)
    : ∃ (fd : FuncData) (mk : Heap → G) (cs : List (Addr × Addr)), (∀ (s : Shared) (u : Value), BindsTo s fd ⟨[u], []⟩ [("_law_script", u)]) ∧ (∀ h, (mk h).prog = PySem.Challenge.pw_piledtrees_k40_whole_stands ∧ (mk h).w = w ∧ (mk h).K = K ∧ (mk h).mg = mg ∧ (mk h).base = h) ∧
      (∀ p ∈ cs, PySem.W.CodeHd h p.1 p.2 ∧ h.get? p.2 = some (PySem.W.tabObj #[])) ∧ (∀ p ∈ cs, K.lookup p.2 = none) ∧ (∀ h, ∀ t ∈ (mk h).tabs, t.1 ∈ cs.map (·.2)) ∧
      ∀ base : Heap, K.In base → base.Ns mainGlobals mg → (∀ p ∈ cs, LamX.TabB base mg p.1 p.2) → FnG (mk base) 9 fa fd ["_law_script"] (SpC (mk base) c_law 1) := by
  have e := hfa.symm.trans (PySem.W.mg_of X GN a33)
  have e2 : f33 = fa := by cases e; rfl
  subst e2
  refine ⟨PySem.W.fnOf "law" "law" (defArgs s_law) (defBody s_law) (defScope s_law) .none kV33 dc33 pm33 an33 cd33 ct33, fun base => ⟨PySem.Challenge.pw_piledtrees_k40_whole_stands, w, K, mg, base, (fun i => [f0, f1, f2, f3, f4, f5, f6, f7, f8, f9, f10, f11, f12, f13, f14, f15, f16, f17, f18, f19, f20, f21, f22, f23, f24, f25, f26, f27, f28, f29, f30, f31, f32, f33].getD i 0), (fun i => [C0, C1, C2, C3, C4, C5, C6, C7, C8, C9].getD i 0), efT, isaT, lmT, [(P32, ("_law_odds_right.<locals>.<lambda>" : Str))]⟩, [(cA32, P32)], fun s v => .of_eq rfl, fun _ => ⟨rfl, rfl, rfl, rfl, rfl⟩, ?c1, ?c2, ?c3, fun base KB GB TB => ?c4⟩
  case c1 =>
    intro p hp
    simp only [List.mem_cons, List.not_mem_nil, or_false] at hp
    rcases hp with rfl
    · exact ⟨PySem.W.codeHd_of_K X t32, ht _ v32⟩
  case c2 =>
    intro p hp
    simp only [List.mem_cons, List.not_mem_nil, or_false] at hp
    rcases hp with rfl
    · exact u32
  case c3 =>
    intro _ p hp
    simp only [List.mem_cons, List.not_mem_nil, or_false] at hp
    rcases hp with rfl
    · simp
  have F32 := fun_mk (st := s_law_odds_right) l32 c32 k32
  have b32 := F32.binds (ps := ["_law_book_here", "_law_source"]) fun _ _ _ _ _ _ us hl => match us, hl with | [_, _], _ => rfl
  have F33 := fun_mk (st := s_law) l33 c33 k33
  have b33 := F33.binds (ps := ["_law_script"]) fun _ _ _ _ _ _ us hl => match us, hl with | [_], _ => rfl
  have TB32 := TB (cA32, P32) (by simp)
  generalize hg : (⟨PySem.Challenge.pw_piledtrees_k40_whole_stands, w, K, mg, base, (fun i => [f0, f1, f2, f3, f4, f5, f6, f7, f8, f9, f10, f11, f12, f13, f14, f15, f16, f17, f18, f19, f20, f21, f22, f23, f24, f25, f26, f27, f28, f29, f30, f31, f32, f33].getD i 0), (fun i => [C0, C1, C2, C3, C4, C5, C6, C7, C8, C9].getD i 0), efT, isaT, lmT, [(P32, ("_law_odds_right.<locals>.<lambda>" : Str))]⟩ : G) = g
  have gb : g.base = base := by rw [← hg]
  have gt : g.tabs = [(P32, ("_law_odds_right.<locals>.<lambda>" : Str))] := by rw [← hg]
  have gA32 : tA g 0 = P32 := by rw [← hg]; rfl
  have gK : g.K = K := by rw [← hg]
  have gm : g.mg = mg := by rw [← hg]
  have gp : g.prog = PySem.Challenge.pw_piledtrees_k40_whole_stands := by rw [← hg]
  have gf0 : g.fa 0 = f0 := by rw [← hg]; rfl
  have gf1 : g.fa 1 = f1 := by rw [← hg]; rfl
  have gf2 : g.fa 2 = f2 := by rw [← hg]; rfl
  have gf3 : g.fa 3 = f3 := by rw [← hg]; rfl
  have gf4 : g.fa 4 = f4 := by rw [← hg]; rfl
  have gf5 : g.fa 5 = f5 := by rw [← hg]; rfl
  have gf6 : g.fa 6 = f6 := by rw [← hg]; rfl
  have gf7 : g.fa 7 = f7 := by rw [← hg]; rfl
  have gf8 : g.fa 8 = f8 := by rw [← hg]; rfl
  have gf9 : g.fa 9 = f9 := by rw [← hg]; rfl
  have gf10 : g.fa 10 = f10 := by rw [← hg]; rfl
  have gf11 : g.fa 11 = f11 := by rw [← hg]; rfl
  have gf12 : g.fa 12 = f12 := by rw [← hg]; rfl
  have gf13 : g.fa 13 = f13 := by rw [← hg]; rfl
  have gf14 : g.fa 14 = f14 := by rw [← hg]; rfl
  have gf15 : g.fa 15 = f15 := by rw [← hg]; rfl
  have gf16 : g.fa 16 = f16 := by rw [← hg]; rfl
  have gf17 : g.fa 17 = f17 := by rw [← hg]; rfl
  have gf18 : g.fa 18 = f18 := by rw [← hg]; rfl
  have gf19 : g.fa 19 = f19 := by rw [← hg]; rfl
  have gf20 : g.fa 20 = f20 := by rw [← hg]; rfl
  have gf21 : g.fa 21 = f21 := by rw [← hg]; rfl
  have gf22 : g.fa 22 = f22 := by rw [← hg]; rfl
  have gf23 : g.fa 23 = f23 := by rw [← hg]; rfl
  have gf24 : g.fa 24 = f24 := by rw [← hg]; rfl
  have gf25 : g.fa 25 = f25 := by rw [← hg]; rfl
  have gf26 : g.fa 26 = f26 := by rw [← hg]; rfl
  have gf27 : g.fa 27 = f27 := by rw [← hg]; rfl
  have gf28 : g.fa 28 = f28 := by rw [← hg]; rfl
  have gf29 : g.fa 29 = f29 := by rw [← hg]; rfl
  have gf30 : g.fa 30 = f30 := by rw [← hg]; rfl
  have gf31 : g.fa 31 = f31 := by rw [← hg]; rfl
  have gf32 : g.fa 32 = f32 := by rw [← hg]; rfl
  have gf33 : g.fa 33 = f33 := by rw [← hg]; rfl
  have gc0 : g.ca 0 = C0 := by rw [← hg]; rfl
  have gc1 : g.ca 1 = C1 := by rw [← hg]; rfl
  have gc2 : g.ca 2 = C2 := by rw [← hg]; rfl
  have gc3 : g.ca 3 = C3 := by rw [← hg]; rfl
  have gc4 : g.ca 4 = C4 := by rw [← hg]; rfl
  have gc5 : g.ca 5 = C5 := by rw [← hg]; rfl
  have gc6 : g.ca 6 = C6 := by rw [← hg]; rfl
  have gc7 : g.ca 7 = C7 := by rw [← hg]; rfl
  have gc8 : g.ca 8 = C8 := by rw [← hg]; rfl
  have gc9 : g.ca 9 = C9 := by rw [← hg]; rfl
  have x_4 : XCls g 4 "place" :=
    { ex := ⟨fx4, "__init__", "BadBook.__init__", defArgs (inClass (top 5) 0), defScope (inClass (top 5) 0), _, _, _, _, _, _, _, _, _, _, _, _, _, _,
        { q := (by rw [gK, gc4]; exact q_4), fn := ⟨oc_4, od_4, an_4, osl4, kV_4, dc_4, pm_4, ct_4, cda4, cc4, ccl4, cl4, cdd4, cld4, ccs4, csl4, vs4, fi4, tf4, (by rw [gK]; exact l_4), (by rw [gK]; exact c_4), (by rw [gK]; exact d_4), v_4, (by rw [gp]; exact m_4), (by rw [gK, gc4]; exact e_4)⟩, hd := rfl,
          cl := ⟨cD4, (by rw [gK, gc4]; exact D_4), r_4, H_4⟩, sub := (by rw [gK, gc4]; exact s_4), no := (by rw [gK]; exact no), sup := (by rw [gK, gc4]; exact u_4), ve := (by rw [gK, gc4]; exact V_4), sa := (by rw [gK, gc4]; exact S_4), init := (by rw [gK, gc4]; exact i_4), ty := (by rw [gK]; exact y_4),
          ks := rfl, kc := rfl, ka := rfl, kd := rfl, co := rfl, gen := rfl, cell := (by decide +kernel), top := (by rw [gp]; decide +kernel) }, rfl, fun _ => rfl, rfl, xbinds1 (fun fd e d x u => ⟨by cases fd; cases e; cases d; rfl, by cases fd; cases e; cases d; rfl⟩)⟩
      no := (by rw [gK, gc4]; exact n_4), sn := (by decide +kernel), nd := (by decide +kernel), ef := (by rw [← hg]; rfl), sup := (by rw [gm]; exact PySem.W.mg_none_of X GN z_super), kp := (by rw [gK, gc4]; exact k_4) }
  have f_4 : XFa g 4 := { hcl := (by rw [gK, gc4, D_4]; rfl), ga := (by rw [gK, gc4]; exact g_4), gt := ⟨gt4, (by rw [gK, gc4]; exact t_4)⟩, sub := (by rw [gK, gc4]; exact B_4), cl := (by rw [gK, gc4]; exact L_4), mro := (by rw [gK, gc4]; exact O_4), hd := (by rw [gK, gc4]; exact W_4), no := fun n hn => by rw [← hg] at hn; have hn : n ∈ (["place"] : List Str) := hn; simp only [List.mem_cons, List.not_mem_nil, or_false] at hn; subst hn; rw [gK, gc4]; exact n_4 }
  have x_8 : XCls g 8 "value" :=
    { ex := ⟨fx8, "__init__", "BadStand.__init__", defArgs (inClass (top 9) 0), defScope (inClass (top 9) 0), _, _, _, _, _, _, _, _, _, _, _, _, _, _,
        { q := (by rw [gK, gc8]; exact q_8), fn := ⟨oc_8, od_8, an_8, osl8, kV_8, dc_8, pm_8, ct_8, cda8, cc8, ccl8, cl8, cdd8, cld8, ccs8, csl8, vs8, fi8, tf8, (by rw [gK]; exact l_8), (by rw [gK]; exact c_8), (by rw [gK]; exact d_8), v_8, (by rw [gp]; exact m_8), (by rw [gK, gc8]; exact e_8)⟩, hd := rfl,
          cl := ⟨cD8, (by rw [gK, gc8]; exact D_8), r_8, H_8⟩, sub := (by rw [gK, gc8]; exact s_8), no := (by rw [gK]; exact no), sup := (by rw [gK, gc8]; exact u_8), ve := (by rw [gK, gc8]; exact V_8), sa := (by rw [gK, gc8]; exact S_8), init := (by rw [gK, gc8]; exact i_8), ty := (by rw [gK]; exact y_8),
          ks := rfl, kc := rfl, ka := rfl, kd := rfl, co := rfl, gen := rfl, cell := (by decide +kernel), top := (by rw [gp]; decide +kernel) }, rfl, fun _ => rfl, rfl, xbinds1 (fun fd e d x u => ⟨by cases fd; cases e; cases d; rfl, by cases fd; cases e; cases d; rfl⟩)⟩
      no := (by rw [gK, gc8]; exact n_8), sn := (by decide +kernel), nd := (by decide +kernel), ef := (by rw [← hg]; rfl), sup := (by rw [gm]; exact PySem.W.mg_none_of X GN z_super), kp := (by rw [gK, gc8]; exact k_8) }
  have f_8 : XFa g 8 := { hcl := (by rw [gK, gc8, D_8]; rfl), ga := (by rw [gK, gc8]; exact g_8), gt := ⟨gt8, (by rw [gK, gc8]; exact t_8)⟩, sub := (by rw [gK, gc8]; exact B_8), cl := (by rw [gK, gc8]; exact L_8), mro := (by rw [gK, gc8]; exact O_8), hd := (by rw [gK, gc8]; exact W_8), no := fun n hn => by rw [← hg] at hn; have hn : n ∈ (["value"] : List Str) := hn; simp only [List.mem_cons, List.not_mem_nil, or_false] at hn; subst hn; rw [gK, gc8]; exact n_8 }
  have io : IsaOk g :=
    { isa := fun a b r h => by
        rw [← hg] at h
        have hm := isaOf_mem (t := isaL) (a := a) (b := b) (r := r) h
        simp only [isaL, List.mem_cons, List.not_mem_nil, or_false, Prod.mk.injEq] at hm
        rw [gK]
        rcases hm with ⟨rfl, rfl, rfl⟩ | ⟨rfl, rfl, rfl⟩ | ⟨rfl, rfl, rfl⟩ | ⟨rfl, rfl, rfl⟩ | ⟨rfl, rfl, rfl⟩ | ⟨rfl, rfl, rfl⟩ | ⟨rfl, rfl, rfl⟩ | ⟨rfl, rfl, rfl⟩ | ⟨rfl, rfl, rfl⟩ | ⟨rfl, rfl, rfl⟩ | ⟨rfl, rfl, rfl⟩ | ⟨rfl, rfl, rfl⟩ | ⟨rfl, rfl, rfl⟩ | ⟨rfl, rfl, rfl⟩ | ⟨rfl, rfl, rfl⟩ | ⟨rfl, rfl, rfl⟩ | ⟨rfl, rfl, rfl⟩ | ⟨rfl, rfl, rfl⟩ | ⟨rfl, rfl, rfl⟩ | ⟨rfl, rfl, rfl⟩ | ⟨rfl, rfl, rfl⟩ | ⟨rfl, rfl, rfl⟩ | ⟨rfl, rfl, rfl⟩ | ⟨rfl, rfl, rfl⟩ | ⟨rfl, rfl, rfl⟩ | ⟨rfl, rfl, rfl⟩ | ⟨rfl, rfl, rfl⟩ | ⟨rfl, rfl, rfl⟩ | ⟨rfl, rfl, rfl⟩ | ⟨rfl, rfl, rfl⟩ | ⟨rfl, rfl, rfl⟩ | ⟨rfl, rfl, rfl⟩ | ⟨rfl, rfl, rfl⟩ | ⟨rfl, rfl, rfl⟩ | ⟨rfl, rfl, rfl⟩ | ⟨rfl, rfl, rfl⟩
        · show PySem.W.kitOne K (.ref (g.ca 4)) (.ref (g.ca 0)) = some true; rw [gc4, gc0]; exact x0
        · show PySem.W.kitOne K (.ref (g.ca 4)) (.ref (g.ca 1)) = some false; rw [gc4, gc1]; exact x1
        · show PySem.W.kitOne K (.ref (g.ca 4)) (.ref (g.ca 2)) = some false; rw [gc4, gc2]; exact x2
        · show PySem.W.kitOne K (.ref (g.ca 4)) (.ref (g.ca 3)) = some false; rw [gc4, gc3]; exact x3
        · show PySem.W.kitOne K (.ref (g.ca 4)) (.ref (g.ca 4)) = some true; rw [gc4]; exact x4
        · show PySem.W.kitOne K (.ref (g.ca 4)) (.ref (g.ca 5)) = some false; rw [gc4, gc5]; exact x5
        · show PySem.W.kitOne K (.ref (g.ca 4)) (.ref (g.ca 6)) = some false; rw [gc4, gc6]; exact x6
        · show PySem.W.kitOne K (.ref (g.ca 4)) (.ref (g.ca 7)) = some false; rw [gc4, gc7]; exact x7
        · show PySem.W.kitOne K (.ref (g.ca 4)) (.ref (g.ca 8)) = some false; rw [gc4, gc8]; exact x8
        · show PySem.W.kitOne K (.ref (g.ca 4)) (.ref (g.ca 9)) = some false; rw [gc4, gc9]; exact x9
        · show PySem.W.kitOne K (.ref (g.ca 8)) (.ref (g.ca 0)) = some true; rw [gc8, gc0]; exact x10
        · show PySem.W.kitOne K (.ref (g.ca 8)) (.ref (g.ca 1)) = some false; rw [gc8, gc1]; exact x11
        · show PySem.W.kitOne K (.ref (g.ca 8)) (.ref (g.ca 2)) = some false; rw [gc8, gc2]; exact x12
        · show PySem.W.kitOne K (.ref (g.ca 8)) (.ref (g.ca 3)) = some false; rw [gc8, gc3]; exact x13
        · show PySem.W.kitOne K (.ref (g.ca 8)) (.ref (g.ca 4)) = some false; rw [gc8, gc4]; exact x14
        · show PySem.W.kitOne K (.ref (g.ca 8)) (.ref (g.ca 5)) = some false; rw [gc8, gc5]; exact x15
        · show PySem.W.kitOne K (.ref (g.ca 8)) (.ref (g.ca 6)) = some false; rw [gc8, gc6]; exact x16
        · show PySem.W.kitOne K (.ref (g.ca 8)) (.ref (g.ca 7)) = some false; rw [gc8, gc7]; exact x17
        · show PySem.W.kitOne K (.ref (g.ca 8)) (.ref (g.ca 8)) = some true; rw [gc8]; exact x18
        · show PySem.W.kitOne K (.ref (g.ca 8)) (.ref (g.ca 9)) = some false; rw [gc8, gc9]; exact x19
        · show PySem.W.kitOne K (.type "tuple") (.type "tuple") = some true; rw []; exact x20
        · show PySem.W.kitOne K (.type "tuple") (.type "str") = some false; rw []; exact x21
        · show PySem.W.kitOne K (.type "str") (.type "str") = some true; rw []; exact x22
        · show PySem.W.kitOne K (.type "str") (.type "tuple") = some false; rw []; exact x23
        · show PySem.W.kitOne K (.type "dict") (.type "dict") = some true; rw []; exact x24
        · show PySem.W.kitOne K (.type "dict") (.type "tuple") = some false; rw []; exact x25
        · show PySem.W.kitOne K (.type "dict") (.type "str") = some false; rw []; exact x26
        · show PySem.W.kitOne K (.type "list") (.type "list") = some true; rw []; exact x27
        · show PySem.W.kitOne K (.type "list") (.type "tuple") = some false; rw []; exact x28
        · show PySem.W.kitOne K (.type "list") (.type "str") = some false; rw []; exact x29
        · show PySem.W.kitOne K (.type "int") (.type "int") = some true; rw []; exact x30
        · show PySem.W.kitOne K (.type "int") (.type "bool") = some false; rw []; exact x31
        · show PySem.W.kitOne K (.type "int") (.type "tuple") = some false; rw []; exact x32
        · show PySem.W.kitOne K (.type "int") (.type "str") = some false; rw []; exact x33
        · show PySem.W.kitOne K (.type "NoneType") (.type "tuple") = some false; rw []; exact x34
        · show PySem.W.kitOne K (.type "NoneType") (.type "str") = some false; rw []; exact x35
      sp := (by rw [gK]; exact sp), tk := (by rw [gK]; exact tk)
      xc := fun c a b h hlt => by
        rw [← hg] at h
        have hm := isaOf_mem (t := isaL) (a := Sum.inr c) (b := a) (r := b) h
        simp only [isaL, List.mem_cons, List.not_mem_nil, or_false, Prod.mk.injEq] at hm
        rcases hm with ⟨e, _, _⟩ | ⟨e, _, _⟩ | ⟨e, _, _⟩ | ⟨e, _, _⟩ | ⟨e, _, _⟩ | ⟨e, _, _⟩ | ⟨e, _, _⟩ | ⟨e, _, _⟩ | ⟨e, _, _⟩ | ⟨e, _, _⟩ | ⟨e, _, _⟩ | ⟨e, _, _⟩ | ⟨e, _, _⟩ | ⟨e, _, _⟩ | ⟨e, _, _⟩ | ⟨e, _, _⟩ | ⟨e, _, _⟩ | ⟨e, _, _⟩ | ⟨e, _, _⟩ | ⟨e, _, _⟩ | ⟨e, _, _⟩ | ⟨e, _, _⟩ | ⟨e, _, _⟩ | ⟨e, _, _⟩ | ⟨e, _, _⟩ | ⟨e, _, _⟩ | ⟨e, _, _⟩ | ⟨e, _, _⟩ | ⟨e, _, _⟩ | ⟨e, _, _⟩ | ⟨e, _, _⟩ | ⟨e, _, _⟩ | ⟨e, _, _⟩ | ⟨e, _, _⟩ | ⟨e, _, _⟩ | ⟨e, _, _⟩
        · cases e; exact f_4
        · cases e; exact f_4
        · cases e; exact f_4
        · cases e; exact f_4
        · cases e; exact f_4
        · cases e; exact f_4
        · cases e; exact f_4
        · cases e; exact f_4
        · cases e; exact f_4
        · cases e; exact f_4
        · cases e; exact f_8
        · cases e; exact f_8
        · cases e; exact f_8
        · cases e; exact f_8
        · cases e; exact f_8
        · cases e; exact f_8
        · cases e; exact f_8
        · cases e; exact f_8
        · cases e; exact f_8
        · cases e; exact f_8
        · cases e
        · cases e
        · cases e
        · cases e
        · cases e
        · cases e
        · cases e
        · cases e
        · cases e
        · cases e
        · cases e
        · cases e
        · cases e
        · cases e
        · cases e
        · cases e
      ic := fun c a b h => by
        rw [← hg] at h
        have hm := isaOf_mem (t := isaL) (a := Sum.inr (1000 + c)) (b := a) (r := b) h
        simp only [isaL, List.mem_cons, List.not_mem_nil, or_false, Prod.mk.injEq] at hm
        rcases hm with ⟨e, _, _⟩ | ⟨e, _, _⟩ | ⟨e, _, _⟩ | ⟨e, _, _⟩ | ⟨e, _, _⟩ | ⟨e, _, _⟩ | ⟨e, _, _⟩ | ⟨e, _, _⟩ | ⟨e, _, _⟩ | ⟨e, _, _⟩ | ⟨e, _, _⟩ | ⟨e, _, _⟩ | ⟨e, _, _⟩ | ⟨e, _, _⟩ | ⟨e, _, _⟩ | ⟨e, _, _⟩ | ⟨e, _, _⟩ | ⟨e, _, _⟩ | ⟨e, _, _⟩ | ⟨e, _, _⟩ | ⟨e, _, _⟩ | ⟨e, _, _⟩ | ⟨e, _, _⟩ | ⟨e, _, _⟩ | ⟨e, _, _⟩ | ⟨e, _, _⟩ | ⟨e, _, _⟩ | ⟨e, _, _⟩ | ⟨e, _, _⟩ | ⟨e, _, _⟩ | ⟨e, _, _⟩ | ⟨e, _, _⟩ | ⟨e, _, _⟩ | ⟨e, _, _⟩ | ⟨e, _, _⟩ | ⟨e, _, _⟩
        · injection e with e; omega
        · injection e with e; omega
        · injection e with e; omega
        · injection e with e; omega
        · injection e with e; omega
        · injection e with e; omega
        · injection e with e; omega
        · injection e with e; omega
        · injection e with e; omega
        · injection e with e; omega
        · injection e with e; omega
        · injection e with e; omega
        · injection e with e; omega
        · injection e with e; omega
        · injection e with e; omega
        · injection e with e; omega
        · injection e with e; omega
        · injection e with e; omega
        · injection e with e; omega
        · injection e with e; omega
        · cases e
        · cases e
        · cases e
        · cases e
        · cases e
        · cases e
        · cases e
        · cases e
        · cases e
        · cases e
        · cases e
        · cases e
        · cases e
        · cases e
        · cases e
        · cases e
    }
  have T : Txt g :=
    {
      mg_is_tuple := (by rw [gm, gf0]; exact PySem.W.mg_of X GN a0), fn_is_tuple := (by rw [gK, gf0]; exact fw_is_tuple w0),
      mg_need_book := (by rw [gm, gf1]; exact PySem.W.mg_of X GN a1), fn_need_book := (by rw [gK, gf1]; exact fw_need_book w1),
      mg_is_stand := (by rw [gm, gf2]; exact PySem.W.mg_of X GN a2), fn_is_stand := (by rw [gK, gf2]; exact fw_is_stand w2),
      mg_need_stand := (by rw [gm, gf3]; exact PySem.W.mg_of X GN a3), fn_need_stand := (by rw [gK, gf3]; exact fw_need_stand w3),
      mg_is_folder_in := (by rw [gm, gf4]; exact PySem.W.mg_of X GN a4), fn_is_folder_in := (by rw [gK, gf4]; exact fw_is_folder_in w4),
      mg_is_fault_in := (by rw [gm, gf5]; exact PySem.W.mg_of X GN a5), fn_is_fault_in := (by rw [gK, gf5]; exact fw_is_fault_in w5),
      mg_is_fault := (by rw [gm, gf6]; exact PySem.W.mg_of X GN a6), fn_is_fault := (by rw [gK, gf6]; exact fw_is_fault w6),
      mg_first_in := (by rw [gm, gf7]; exact PySem.W.mg_of X GN a7), fn_first_in := (by rw [gK, gf7]; exact fw_first_in w7),
      mg_first_stands := (by rw [gm, gf8]; exact PySem.W.mg_of X GN a8), fn_first_stands := (by rw [gK, gf8]; exact fw_first_stands w8),
      mg_left_by := (by rw [gm, gf9]; exact PySem.W.mg_of X GN a9), fn_left_by := (by rw [gK, gf9]; exact fw_left_by w9),
      mg_raised_stand := (by rw [gm, gf10]; exact PySem.W.mg_of X GN a10), fn_raised_stand := (by rw [gK, gf10]; exact fw_raised_stand w10),
      mg_behind_in := (by rw [gm, gf11]; exact PySem.W.mg_of X GN a11), fn_behind_in := (by rw [gK, gf11]; exact fw_behind_in w11),
      mg_behind := (by rw [gm, gf12]; exact PySem.W.mg_of X GN a12), fn_behind := (by rw [gK, gf12]; exact fw_behind w12),
      mg_mark_of := (by rw [gm, gf13]; exact PySem.W.mg_of X GN a13), fn_mark_of := (by rw [gK, gf13]; exact fw_mark_of w13),
      mg_moved_in := (by rw [gm, gf14]; exact PySem.W.mg_of X GN a14), fn_moved_in := (by rw [gK, gf14]; exact fw_moved_in w14),
      mg_can_move := (by rw [gm, gf15]; exact PySem.W.mg_of X GN a15), fn_can_move := (by rw [gK, gf15]; exact fw_can_move w15),
      mg_moved := (by rw [gm, gf16]; exact PySem.W.mg_of X GN a16), fn_moved := (by rw [gK, gf16]; exact fw_moved w16),
      mg_law_mixed := (by rw [gm, gf17]; exact PySem.W.mg_of X GN a17), fn_law_mixed := (by rw [gK, gf17]; exact fw_law_mixed w17),
      mg_law_folded := (by rw [gm, gf18]; exact PySem.W.mg_of X GN a18), fn_law_folded := (by rw [gK, gf18]; exact fw_law_folded w18),
      mg_law_draw := (by rw [gm, gf19]; exact PySem.W.mg_of X GN a19), fn_law_draw := (by rw [gK, gf19]; exact fw_law_draw w19),
      mg_law_begun := (by rw [gm, gf20]; exact PySem.W.mg_of X GN a20), fn_law_begun := (by rw [gK, gf20]; exact fw_law_begun w20),
      mg_law_book := (by rw [gm, gf21]; exact PySem.W.mg_of X GN a21), fn_law_book := (by rw [gK, gf21]; exact fw_law_book w21),
      mg_law_class := (by rw [gm, gf22]; exact PySem.W.mg_of X GN a22), fn_law_class := (by rw [gK, gf22]; exact fw_law_class w22),
      mg_law_said := (by rw [gm, gf23]; exact PySem.W.mg_of X GN a23), fn_law_said := (by rw [gK, gf23]; exact fw_law_said w23),
      mg_law_stands := (by rw [gm, gf24]; exact PySem.W.mg_of X GN a24), fn_law_stands := (by rw [gK, gf24]; exact fw_law_stands w24),
      mg_law_is_fault := (by rw [gm, gf25]; exact PySem.W.mg_of X GN a25), fn_law_is_fault := (by rw [gK, gf25]; exact fw_law_is_fault w25),
      mg_law_has_folder := (by rw [gm, gf26]; exact PySem.W.mg_of X GN a26), fn_law_has_folder := (by rw [gK, gf26]; exact fw_law_has_folder w26),
      mg_law_raised := (by rw [gm, gf27]; exact PySem.W.mg_of X GN a27), fn_law_raised := (by rw [gK, gf27]; exact fw_law_raised w27),
      mg_law_behind := (by rw [gm, gf28]; exact PySem.W.mg_of X GN a28), fn_law_behind := (by rw [gK, gf28]; exact fw_law_behind w28),
      mg_law_moved := (by rw [gm, gf29]; exact PySem.W.mg_of X GN a29), fn_law_moved := (by rw [gK, gf29]; exact fw_law_moved w29),
      mg_law_first := (by rw [gm, gf30]; exact PySem.W.mg_of X GN a30), fn_law_first := (by rw [gK, gf30]; exact fw_law_first w30),
      mg_law_odds := (by rw [gm, gf31]; exact PySem.W.mg_of X GN a31), fn_law_odds := (by rw [gK, gf31]; exact fw_law_odds w31),
      mg_law_odds_right := (by rw [gm, gf32]; exact PySem.W.mg_of X GN a32), fn_law_odds_right := ⟨_, (by rw [gK, gf32]; exact F32), (by rw [gK]; exact b32), (by intro t z; simp only [List.mem_cons, List.not_mem_nil, or_false] at z; subst z; exact ⟨cA32, rfl, by rw [gb, gm, gA32]; exact TB32, rfl⟩)⟩,
      mg_law := (by rw [gm, gf33]; exact PySem.W.mg_of X GN a33), fn_law := ⟨_, (by rw [gK, gf33]; exact F33), (by rw [gK]; exact b33)⟩,
      tb0 := (by rw [gt, gA32]; refine ⟨by simp, fun p hp e => ?_⟩; simp only [List.mem_cons, List.not_mem_nil, or_false] at hp; rcases hp with rfl <;> first | rfl | exact absurd e (by first | assumption | exact Ne.symm (by assumption))),
      lm0 := (by rw [← hg]; rfl),
      lm1 := (by rw [← hg]; rfl),
      lm2 := (by rw [← hg]; rfl),
      lm3 := (by rw [← hg]; rfl),
      mc_ALWAYS := ⟨tk_ALWAYS, by rw [gm]; exact PySem.W.mg_of X GN mc_ALWAYS⟩,
      mc_ANEW := ⟨tk_ANEW, by rw [gm]; exact PySem.W.mg_of X GN mc_ANEW⟩,
      mc_APART := ⟨tk_APART, by rw [gm]; exact PySem.W.mg_of X GN mc_APART⟩,
      mc_BARE := ⟨tk_BARE, by rw [gm]; exact PySem.W.mg_of X GN mc_BARE⟩,
      mc_BELOW := ⟨tk_BELOW, by rw [gm]; exact PySem.W.mg_of X GN mc_BELOW⟩,
      mc_BY_NAME := ⟨tk_BY_NAME, by rw [gm]; exact PySem.W.mg_of X GN mc_BY_NAME⟩,
      mc_BY_PATH := ⟨tk_BY_PATH, by rw [gm]; exact PySem.W.mg_of X GN mc_BY_PATH⟩,
      mc_COPY := ⟨tk_COPY, by rw [gm]; exact PySem.W.mg_of X GN mc_COPY⟩,
      mc_FILE := ⟨tk_FILE, by rw [gm]; exact PySem.W.mg_of X GN mc_FILE⟩,
      mc_FOLDER := ⟨tk_FOLDER, by rw [gm]; exact PySem.W.mg_of X GN mc_FOLDER⟩,
      mc_GONE := ⟨tk_GONE, by rw [gm]; exact PySem.W.mg_of X GN mc_GONE⟩,
      mc_JOINS := ⟨tk_JOINS, by rw [gm]; exact PySem.W.mg_of X GN mc_JOINS⟩,
      mc_KEEP := ⟨tk_KEEP, by rw [gm]; exact PySem.W.mg_of X GN mc_KEEP⟩,
      mc_LED := ⟨tk_LED, by rw [gm]; exact PySem.W.mg_of X GN mc_LED⟩,
      mc_MADE := ⟨tk_MADE, by rw [gm]; exact PySem.W.mg_of X GN mc_MADE⟩,
      mc_NAMES := ⟨tk_NAMES, by rw [gm]; exact PySem.W.mg_of X GN mc_NAMES⟩,
      mc_NEAR := ⟨tk_NEAR, by rw [gm]; exact PySem.W.mg_of X GN mc_NEAR⟩,
      mc_NONE := ⟨tk_NONE, by rw [gm]; exact PySem.W.mg_of X GN mc_NONE⟩,
      mc_OFF := ⟨tk_OFF, by rw [gm]; exact PySem.W.mg_of X GN mc_OFF⟩,
      mc_OTHER := ⟨tk_OTHER, by rw [gm]; exact PySem.W.mg_of X GN mc_OTHER⟩,
      mc_OVER := ⟨tk_OVER, by rw [gm]; exact PySem.W.mg_of X GN mc_OVER⟩,
      mc_OWN := ⟨tk_OWN, by rw [gm]; exact PySem.W.mg_of X GN mc_OWN⟩,
      mc_SEEN := ⟨tk_SEEN, by rw [gm]; exact PySem.W.mg_of X GN mc_SEEN⟩,
      mc_SHOWN := ⟨tk_SHOWN, by rw [gm]; exact PySem.W.mg_of X GN mc_SHOWN⟩,
      mg_PileError := (by rw [gm, gc0]; exact PySem.W.mg_of X GN A0),
      mg_BadTree := (by rw [gm, gc1]; exact PySem.W.mg_of X GN A1),
      mg_BadPath := (by rw [gm, gc2]; exact PySem.W.mg_of X GN A2),
      mg_BadUpper := (by rw [gm, gc3]; exact PySem.W.mg_of X GN A3),
      mg_BadBook := (by rw [gm, gc4]; exact PySem.W.mg_of X GN A4),
      mg_BadDeed := (by rw [gm, gc5]; exact PySem.W.mg_of X GN A5),
      mg_BadRow := (by rw [gm, gc6]; exact PySem.W.mg_of X GN A6),
      mg_Refused := (by rw [gm, gc7]; exact PySem.W.mg_of X GN A7),
      mg_BadStand := (by rw [gm, gc8]; exact PySem.W.mg_of X GN A8),
      mg_BadPaper := (by rw [gm, gc9]; exact PySem.W.mg_of X GN A9),
      x_BadBook := x_4,
      x_BadStand := x_8,
      rs_BadBook := ⟨(by rw [gK, gc4]; exact B_4), (by rw [gK, gc4]; exact Y_4)⟩,
      rs_BadStand := ⟨(by rw [gK, gc8]; exact B_8), (by rw [gK, gc8]; exact Y_8)⟩,
      mt0 := (fun c b hh => by
        unfold mt0 at hh
        split at hh
        · rename_i hm
          cases hh
          simp only [List.mem_cons, List.not_mem_nil, or_false] at hm
          rcases hm with rfl | rfl
          · rw [gK, gc4, gc0]; exact exm_of P_0 x0 Q_4_0
          · rw [gK, gc8, gc0]; exact exm_of P_0 x10 Q_8_0
        · cases hh),
      mt_CHOICES := (by obtain ⟨p, h1, h2⟩ := mtf_CHOICES; exact ⟨p, (by rw [gm]; exact PySem.W.mg_of X GN h1), (by rw [gK]; exact h2)⟩),
      mt_ENTRIES := (by obtain ⟨p, h1, h2⟩ := mtf_ENTRIES; exact ⟨p, (by rw [gm]; exact PySem.W.mg_of X GN h1), (by rw [gK]; exact h2)⟩),
      mt_LYING := (by obtain ⟨p, h1, h2⟩ := mtf_LYING; exact ⟨p, (by rw [gm]; exact PySem.W.mg_of X GN h1), (by rw [gK]; exact h2)⟩),
      mt_TRUTHS := (by obtain ⟨p, h1, h2⟩ := mtf_TRUTHS; exact ⟨p, (by rw [gm]; exact PySem.W.mg_of X GN h1), (by rw [gK]; exact h2)⟩),
      no_all := (by rw [gm]; exact PySem.W.mg_none_of X GN z_all),
      no_enumerate := (by rw [gm]; exact PySem.W.mg_none_of X GN z_enumerate),
      no_int := (by rw [gm]; exact PySem.W.mg_none_of X GN z_int),
      no_isinstance := (by rw [gm]; exact PySem.W.mg_none_of X GN z_isinstance),
      no_len := (by rw [gm]; exact PySem.W.mg_none_of X GN z_len),
      no_list := (by rw [gm]; exact PySem.W.mg_none_of X GN z_list),
      no_range := (by rw [gm]; exact PySem.W.mg_none_of X GN z_range),
      no_repr := (by rw [gm]; exact PySem.W.mg_none_of X GN z_repr),
      no_set := (by rw [gm]; exact PySem.W.mg_none_of X GN z_set),
      no_sorted := (by rw [gm]; exact PySem.W.mg_none_of X GN z_sorted),
      no_str := (by rw [gm]; exact PySem.W.mg_none_of X GN z_str),
      no_tuple := (by rw [gm]; exact PySem.W.mg_none_of X GN z_tuple),
      ee := (by rw [← hg]), ei := (by rw [← hg]), io := io,
      xf_place := fun c hc => by
        rw [← hg] at hc
        exact xfOf (P := fun c => XFa g c) (l := efL) (n := "place") (fun c hc => by
          have hm : c ∈ hasF efL "place" := hc
          rw [show hasF efL "place" = [4] by decide +kernel] at hm
          simp only [List.mem_cons, List.not_mem_nil, or_false] at hm
          rcases hm with rfl
          · exact f_4
          ) c hc
      xf_value := fun c hc => by
        rw [← hg] at hc
        exact xfOf (P := fun c => XFa g c) (l := efL) (n := "value") (fun c hc => by
          have hm : c ∈ hasF efL "value" := hc
          rw [show hasF efL "value" = [8] by decide +kernel] at hm
          simp only [List.mem_cons, List.not_mem_nil, or_false] at hm
          rcases hm with rfl
          · exact f_8
          ) c hc
      xf_word := fun c hc => by
        rw [← hg] at hc
        exact xfOf (P := fun c => XFa g c) (l := efL) (n := "word") (fun c hc => by
          have hm : c ∈ hasF efL "word" := hc
          rw [show hasF efL "word" = [] by decide +kernel] at hm
          cases hm
          ) c hc
    }
  have z := fnG_of (g := g) (k := 8) (by rw [gK]; exact F33) sc_law (j_law T)
  subst hg
  exact z
end Sm
namespace Sm
open PySem PySem.Spec PyProof.Rows L2
noncomputable def zC0 (K : Fg) : Addr := gQ K "PileError"
noncomputable def zC1 (K : Fg) : Addr := gQ K "BadTree"
noncomputable def zC2 (K : Fg) : Addr := gQ K "BadPath"
noncomputable def zC3 (K : Fg) : Addr := gQ K "BadUpper"
noncomputable def zC4 (K : Fg) : Addr := gQ K "BadBook"
noncomputable def zC5 (K : Fg) : Addr := gQ K "BadDeed"
noncomputable def zC6 (K : Fg) : Addr := gQ K "BadRow"
noncomputable def zC7 (K : Fg) : Addr := gQ K "Refused"
noncomputable def zC8 (K : Fg) : Addr := gQ K "BadStand"
noncomputable def zC9 (K : Fg) : Addr := gQ K "BadPaper"
noncomputable def zf0 (K : Fg) : Addr := gQ K "is_tuple"
noncomputable def zf1 (K : Fg) : Addr := gQ K "need_book"
noncomputable def zf2 (K : Fg) : Addr := gQ K "is_stand"
noncomputable def zf3 (K : Fg) : Addr := gQ K "need_stand"
noncomputable def zf4 (K : Fg) : Addr := gQ K "is_folder_in"
noncomputable def zf5 (K : Fg) : Addr := gQ K "is_fault_in"
noncomputable def zf6 (K : Fg) : Addr := gQ K "is_fault"
noncomputable def zf7 (K : Fg) : Addr := gQ K "first_in"
noncomputable def zf8 (K : Fg) : Addr := gQ K "first_stands"
noncomputable def zf9 (K : Fg) : Addr := gQ K "left_by"
noncomputable def zf10 (K : Fg) : Addr := gQ K "raised_stand"
noncomputable def zf11 (K : Fg) : Addr := gQ K "behind_in"
noncomputable def zf12 (K : Fg) : Addr := gQ K "behind"
noncomputable def zf13 (K : Fg) : Addr := gQ K "mark_of"
noncomputable def zf14 (K : Fg) : Addr := gQ K "moved_in"
noncomputable def zf15 (K : Fg) : Addr := gQ K "can_move"
noncomputable def zf16 (K : Fg) : Addr := gQ K "moved"
noncomputable def zf17 (K : Fg) : Addr := gQ K "_law_mixed"
noncomputable def zf18 (K : Fg) : Addr := gQ K "_law_folded"
noncomputable def zf19 (K : Fg) : Addr := gQ K "_law_draw"
noncomputable def zf20 (K : Fg) : Addr := gQ K "_law_begun"
noncomputable def zf21 (K : Fg) : Addr := gQ K "_law_book"
noncomputable def zf22 (K : Fg) : Addr := gQ K "_law_class"
noncomputable def zf23 (K : Fg) : Addr := gQ K "_law_said"
noncomputable def zf24 (K : Fg) : Addr := gQ K "_law_stands"
noncomputable def zf25 (K : Fg) : Addr := gQ K "_law_is_fault"
noncomputable def zf26 (K : Fg) : Addr := gQ K "_law_has_folder"
noncomputable def zf27 (K : Fg) : Addr := gQ K "_law_raised"
noncomputable def zf28 (K : Fg) : Addr := gQ K "_law_behind"
noncomputable def zf29 (K : Fg) : Addr := gQ K "_law_moved"
noncomputable def zf30 (K : Fg) : Addr := gQ K "_law_first"
noncomputable def zf31 (K : Fg) : Addr := gQ K "_law_odds"
noncomputable def zf32 (K : Fg) : Addr := gQ K "_law_odds_right"
noncomputable def zf33 (K : Fg) : Addr := gQ K "law"
noncomputable def zfx4 (K : Fg) : Addr := mQ K (zC4 K) "__init__"
noncomputable def zfx8 (K : Fg) : Addr := mQ K (zC8 K) "__init__"
noncomputable def dsG0 : List DefH := [⟨zf0, "is_tuple", "is_tuple", s_is_tuple, []⟩,
  ⟨zf1, "need_book", "need_book", s_need_book, []⟩,
  ⟨zf2, "is_stand", "is_stand", s_is_stand, []⟩,
  ⟨zf3, "need_stand", "need_stand", s_need_stand, []⟩,
  ⟨zf4, "is_folder_in", "is_folder_in", s_is_folder_in, []⟩,
  ⟨zf5, "is_fault_in", "is_fault_in", s_is_fault_in, []⟩,
  ⟨zf6, "is_fault", "is_fault", s_is_fault, []⟩,
  ⟨zf7, "first_in", "first_in", s_first_in, []⟩,
  ⟨zf8, "first_stands", "first_stands", s_first_stands, []⟩,
  ⟨zf9, "left_by", "left_by", s_left_by, []⟩,
  ⟨zf10, "raised_stand", "raised_stand", s_raised_stand, []⟩,
  ⟨zf11, "behind_in", "behind_in", s_behind_in, []⟩,
  ⟨zf12, "behind", "behind", s_behind, []⟩,
  ⟨zf13, "mark_of", "mark_of", s_mark_of, []⟩,
  ⟨zf14, "moved_in", "moved_in", s_moved_in, []⟩,
  ⟨zf15, "can_move", "can_move", s_can_move, []⟩,
  ⟨zf16, "moved", "moved", s_moved, []⟩,
  ⟨zf17, "_law_mixed", "_law_mixed", s_law_mixed, []⟩,
  ⟨zf18, "_law_folded", "_law_folded", s_law_folded, []⟩,
  ⟨zf19, "_law_draw", "_law_draw", s_law_draw, []⟩,
  ⟨zf20, "_law_begun", "_law_begun", s_law_begun, []⟩,
  ⟨zf21, "_law_book", "_law_book", s_law_book, []⟩,
  ⟨zf22, "_law_class", "_law_class", s_law_class, []⟩,
  ⟨zf23, "_law_said", "_law_said", s_law_said, []⟩,
  ⟨zf24, "_law_stands", "_law_stands", s_law_stands, []⟩,
  ⟨zf25, "_law_is_fault", "_law_is_fault", s_law_is_fault, []⟩,
  ⟨zf26, "_law_has_folder", "_law_has_folder", s_law_has_folder, []⟩,
  ⟨zf27, "_law_raised", "_law_raised", s_law_raised, []⟩,
  ⟨zf28, "_law_behind", "_law_behind", s_law_behind, []⟩,
  ⟨zf29, "_law_moved", "_law_moved", s_law_moved, []⟩,
  ⟨zf30, "_law_first", "_law_first", s_law_first, []⟩,
  ⟨zf31, "_law_odds", "_law_odds", s_law_odds, []⟩,
  ⟨zf32, "_law_odds_right", "_law_odds_right", s_law_odds_right, []⟩,
  ⟨zf33, "law", "law", s_law, []⟩,
  ⟨zfx4, "__init__", "BadBook.__init__", inClass (top 5) 0, ["__class__"]⟩,
  ⟨zfx8, "__init__", "BadStand.__init__", inClass (top 9) 0, ["__class__"]⟩]
noncomputable def dsH : List DefH := dsG0
noncomputable def tsH (K : Fg) : List Addr := [tbA K (cdA K (zf32 K))]
noncomputable def ckL0 : List (Fg → Bool) := [fun K => refO (nsQ K mainGlobals "PileError"),
  fun K => refO (nsQ K mainGlobals "BadTree"),
  fun K => refO (nsQ K mainGlobals "BadPath"),
  fun K => refO (nsQ K mainGlobals "BadUpper"),
  fun K => refO (nsQ K mainGlobals "BadBook"),
  fun K => refO (nsQ K mainGlobals "BadDeed"),
  fun K => refO (nsQ K mainGlobals "BadRow"),
  fun K => refO (nsQ K mainGlobals "Refused"),
  fun K => refO (nsQ K mainGlobals "BadStand"),
  fun K => refO (nsQ K mainGlobals "BadPaper"),
  fun K => refO (nsQ K mainGlobals "is_tuple"),
  fun K => refO (nsQ K mainGlobals "need_book"),
  fun K => refO (nsQ K mainGlobals "is_stand"),
  fun K => refO (nsQ K mainGlobals "need_stand"),
  fun K => refO (nsQ K mainGlobals "is_folder_in"),
  fun K => refO (nsQ K mainGlobals "is_fault_in"),
  fun K => refO (nsQ K mainGlobals "is_fault"),
  fun K => refO (nsQ K mainGlobals "first_in"),
  fun K => refO (nsQ K mainGlobals "first_stands"),
  fun K => refO (nsQ K mainGlobals "left_by"),
  fun K => refO (nsQ K mainGlobals "raised_stand"),
  fun K => refO (nsQ K mainGlobals "behind_in"),
  fun K => refO (nsQ K mainGlobals "behind"),
  fun K => refO (nsQ K mainGlobals "mark_of"),
  fun K => refO (nsQ K mainGlobals "moved_in"),
  fun K => refO (nsQ K mainGlobals "can_move"),
  fun K => refO (nsQ K mainGlobals "moved"),
  fun K => refO (nsQ K mainGlobals "_law_mixed"),
  fun K => refO (nsQ K mainGlobals "_law_folded"),
  fun K => refO (nsQ K mainGlobals "_law_draw"),
  fun K => refO (nsQ K mainGlobals "_law_begun"),
  fun K => refO (nsQ K mainGlobals "_law_book"),
  fun K => refO (nsQ K mainGlobals "_law_class"),
  fun K => refO (nsQ K mainGlobals "_law_said"),
  fun K => refO (nsQ K mainGlobals "_law_stands"),
  fun K => refO (nsQ K mainGlobals "_law_is_fault"),
  fun K => refO (nsQ K mainGlobals "_law_has_folder"),
  fun K => refO (nsQ K mainGlobals "_law_raised"),
  fun K => refO (nsQ K mainGlobals "_law_behind"),
  fun K => refO (nsQ K mainGlobals "_law_moved")]
noncomputable def ckL1 : List (Fg → Bool) := [fun K => refO (nsQ K mainGlobals "_law_first"),
  fun K => refO (nsQ K mainGlobals "_law_odds"),
  fun K => refO (nsQ K mainGlobals "_law_odds_right"),
  fun K => refO (nsQ K mainGlobals "law"),
  fun K => refO (PySem.W.findIn K (.ref (zC4 K)) "__init__"),
  fun K => refO (PySem.W.findIn K (.ref (zC8 K)) "__init__"),
  fun K => foK K (zf0 K) "is_tuple",
  fun K => foK K (zf1 K) "need_book",
  fun K => foK K (zf2 K) "is_stand",
  fun K => foK K (zf3 K) "need_stand",
  fun K => foK K (zf4 K) "is_folder_in",
  fun K => foK K (zf5 K) "is_fault_in",
  fun K => foK K (zf6 K) "is_fault",
  fun K => foK K (zf7 K) "first_in",
  fun K => foK K (zf8 K) "first_stands",
  fun K => foK K (zf9 K) "left_by",
  fun K => foK K (zf10 K) "raised_stand",
  fun K => foK K (zf11 K) "behind_in",
  fun K => foK K (zf12 K) "behind",
  fun K => foK K (zf13 K) "mark_of",
  fun K => foK K (zf14 K) "moved_in",
  fun K => foK K (zf15 K) "can_move",
  fun K => foK K (zf16 K) "moved",
  fun K => foK K (zf17 K) "_law_mixed",
  fun K => foK K (zf18 K) "_law_folded",
  fun K => foK K (zf19 K) "_law_draw",
  fun K => foK K (zf20 K) "_law_begun",
  fun K => foK K (zf21 K) "_law_book",
  fun K => foK K (zf22 K) "_law_class",
  fun K => foK K (zf23 K) "_law_said",
  fun K => foK K (zf24 K) "_law_stands",
  fun K => foK K (zf25 K) "_law_is_fault",
  fun K => foK K (zf26 K) "_law_has_folder",
  fun K => foK K (zf27 K) "_law_raised",
  fun K => foK K (zf28 K) "_law_behind",
  fun K => foK K (zf29 K) "_law_moved",
  fun K => foK K (zf30 K) "_law_first",
  fun K => foK K (zf31 K) "_law_odds",
  fun K => foK K (zf32 K) "_law_odds_right",
  fun K => mkB K (zf32 K)]
noncomputable def ckL2 : List (Fg → Bool) := [fun K => foK K (zf33 K) "law",
  fun K => foK K (zfx4 K) "BadBook.__init__",
  fun K => xB K (zC4 K) (zfx4 K) PySem.Challenge.pw_piledtrees_k40_whole_stands.main.file,
  fun K => clB K (zC4 K),
  fun K => someB (PySem.W.findIn K (.ref (zC4 K)) "__getattr__"),
  fun K => foK K (zfx8 K) "BadStand.__init__",
  fun K => xB K (zC8 K) (zfx8 K) PySem.Challenge.pw_piledtrees_k40_whole_stands.main.file,
  fun K => clB K (zC8 K),
  fun K => someB (PySem.W.findIn K (.ref (zC8 K)) "__getattr__"),
  fun K => sB "always" (nsQ K mainGlobals "ALWAYS"),
  fun K => sB "anew" (nsQ K mainGlobals "ANEW"),
  fun K => sB "apart" (nsQ K mainGlobals "APART"),
  fun K => sB "bare" (nsQ K mainGlobals "BARE"),
  fun K => sB "below" (nsQ K mainGlobals "BELOW"),
  fun K => sB "name" (nsQ K mainGlobals "BY_NAME"),
  fun K => sB "path" (nsQ K mainGlobals "BY_PATH"),
  fun K => sB "copy" (nsQ K mainGlobals "COPY"),
  fun K => sB "file" (nsQ K mainGlobals "FILE"),
  fun K => sB "folder" (nsQ K mainGlobals "FOLDER"),
  fun K => sB "gone" (nsQ K mainGlobals "GONE"),
  fun K => sB "joins" (nsQ K mainGlobals "JOINS"),
  fun K => sB "keep" (nsQ K mainGlobals "KEEP"),
  fun K => sB "led" (nsQ K mainGlobals "LED"),
  fun K => sB "made" (nsQ K mainGlobals "MADE"),
  fun K => sB "names" (nsQ K mainGlobals "NAMES"),
  fun K => sB "near" (nsQ K mainGlobals "NEAR"),
  fun K => sB "none" (nsQ K mainGlobals "NONE"),
  fun K => sB "off" (nsQ K mainGlobals "OFF"),
  fun K => sB "other" (nsQ K mainGlobals "OTHER"),
  fun K => sB "over" (nsQ K mainGlobals "OVER"),
  fun K => sB "own" (nsQ K mainGlobals "OWN"),
  fun K => sB "seen" (nsQ K mainGlobals "SEEN"),
  fun K => sB "shown" (nsQ K mainGlobals "SHOWN"),
  fun K => gtB K "CHOICES" (.tup [(.tup [(.str "always"), (.str "below"), (.str "shown"), (.str "never")]), (.tup [(.str "bare"), (.str "over"), (.str "joins")]), (.tup [(.str "bare"), (.str "keep")]), (.tup [(.str "path"), (.str "seen"), (.str "name"), (.str "near"), (.str "copy"), (.str "keep")]), (.tup [(.str "kept"), (.str "anew")]), (.tup [(.str "index"), (.str "copy")])]),
  fun K => gtB K "ENTRIES" (.tup [(.str "apart"), (.str "bare"), (.str "file"), (.str "gone"), (.str "joins"), (.str "led"), (.str "none"), (.str "off")]),
  fun K => gtB K "LYING" (.tup [(.str "file"), (.str "folder"), (.str "names"), (.str "none")]),
  fun K => gtB K "TRUTHS" (.tup [(.str "file"), (.str "made"), (.str "none"), (.str "other"), (.str "own")]),
  fun K => PySem.W.excInitIn K (zC4 K) veT "ValueError.__new__",
  fun K => oB true (PySem.W.mroIn K (zC4 K) (.ref (zC4 K))),
  fun K => bB "ValueError.__init__" (PySem.W.ks_superIn K (zC4 K) (zC4 K) "__init__")]
noncomputable def ckL3 : List (Fg → Bool) := [fun K => oB true (PySem.W.subIn K (.ref (zC4 K)) (.type "ValueError")),
  fun K => bB "object.__setattr__" (PySem.W.findIn K (.ref (zC4 K)) "__setattr__"),
  fun K => vB "function" (PySem.W.typeIn K (.ref (zfx4 K))),
  fun K => nB (PySem.W.findIn K (.ref (zC4 K)) "place"),
  fun K => vB "type" (PySem.W.typeIn K (.ref (zC4 K))),
  fun K => PySem.W.keepIn K (.ref (zC4 K)),
  fun K => bB "BaseException.__getattribute__" (PySem.W.findIn K (.ref (zC4 K)) "__getattribute__"),
  fun K => oB true (PySem.W.subIn K (.ref (zC4 K)) (.type "BaseException")),
  fun K => bB "object.__class__" (PySem.W.findIn K (.ref (zC4 K)) "__class__"),
  fun K => oB true (PySem.W.mroIn K (zC4 K) (.type "object")),
  fun K => PySem.W.hasDictIn K (zC4 K),
  fun K => PySem.W.excInitIn K (zC8 K) veT "ValueError.__new__",
  fun K => oB true (PySem.W.mroIn K (zC8 K) (.ref (zC8 K))),
  fun K => bB "ValueError.__init__" (PySem.W.ks_superIn K (zC8 K) (zC8 K) "__init__"),
  fun K => oB true (PySem.W.subIn K (.ref (zC8 K)) (.type "ValueError")),
  fun K => bB "object.__setattr__" (PySem.W.findIn K (.ref (zC8 K)) "__setattr__"),
  fun K => vB "function" (PySem.W.typeIn K (.ref (zfx8 K))),
  fun K => nB (PySem.W.findIn K (.ref (zC8 K)) "value"),
  fun K => vB "type" (PySem.W.typeIn K (.ref (zC8 K))),
  fun K => PySem.W.keepIn K (.ref (zC8 K)),
  fun K => bB "BaseException.__getattribute__" (PySem.W.findIn K (.ref (zC8 K)) "__getattribute__"),
  fun K => oB true (PySem.W.subIn K (.ref (zC8 K)) (.type "BaseException")),
  fun K => bB "object.__class__" (PySem.W.findIn K (.ref (zC8 K)) "__class__"),
  fun K => oB true (PySem.W.mroIn K (zC8 K) (.type "object")),
  fun K => PySem.W.hasDictIn K (zC8 K),
  fun K => nB (nsQ K cStatics "thirdparty.any"),
  fun K => bB "getset_descriptor.__get__" (PySem.W.specialIn K (.builtin "object.__class__") "__get__"),
  fun K => oB true (PySem.W.takesIn K (.builtin "object.__class__")),
  fun K => nB (nsQ K mainGlobals "all"),
  fun K => nB (nsQ K mainGlobals "enumerate"),
  fun K => nB (nsQ K mainGlobals "int"),
  fun K => nB (nsQ K mainGlobals "isinstance"),
  fun K => nB (nsQ K mainGlobals "len"),
  fun K => nB (nsQ K mainGlobals "list"),
  fun K => nB (nsQ K mainGlobals "range"),
  fun K => nB (nsQ K mainGlobals "repr"),
  fun K => nB (nsQ K mainGlobals "set"),
  fun K => nB (nsQ K mainGlobals "sorted"),
  fun K => nB (nsQ K mainGlobals "str"),
  fun K => nB (nsQ K mainGlobals "super")]
noncomputable def ckL4 : List (Fg → Bool) := [fun K => nB (nsQ K mainGlobals "tuple"),
  fun K => oB true (PySem.W.subIn K (.ref (zC0 K)) (.type "BaseException")),
  fun K => !(Value.ref (zC4 K) == Value.ref (zC0 K)),
  fun K => !(Value.ref (zC8 K) == Value.ref (zC0 K)),
  fun K => oB true (PySem.W.kitOne K (.ref (zC4 K)) (.ref (zC0 K))),
  fun K => oB false (PySem.W.kitOne K (.ref (zC4 K)) (.ref (zC1 K))),
  fun K => oB false (PySem.W.kitOne K (.ref (zC4 K)) (.ref (zC2 K))),
  fun K => oB false (PySem.W.kitOne K (.ref (zC4 K)) (.ref (zC3 K))),
  fun K => oB true (PySem.W.kitOne K (.ref (zC4 K)) (.ref (zC4 K))),
  fun K => oB false (PySem.W.kitOne K (.ref (zC4 K)) (.ref (zC5 K))),
  fun K => oB false (PySem.W.kitOne K (.ref (zC4 K)) (.ref (zC6 K))),
  fun K => oB false (PySem.W.kitOne K (.ref (zC4 K)) (.ref (zC7 K))),
  fun K => oB false (PySem.W.kitOne K (.ref (zC4 K)) (.ref (zC8 K))),
  fun K => oB false (PySem.W.kitOne K (.ref (zC4 K)) (.ref (zC9 K))),
  fun K => oB true (PySem.W.kitOne K (.ref (zC8 K)) (.ref (zC0 K))),
  fun K => oB false (PySem.W.kitOne K (.ref (zC8 K)) (.ref (zC1 K))),
  fun K => oB false (PySem.W.kitOne K (.ref (zC8 K)) (.ref (zC2 K))),
  fun K => oB false (PySem.W.kitOne K (.ref (zC8 K)) (.ref (zC3 K))),
  fun K => oB false (PySem.W.kitOne K (.ref (zC8 K)) (.ref (zC4 K))),
  fun K => oB false (PySem.W.kitOne K (.ref (zC8 K)) (.ref (zC5 K))),
  fun K => oB false (PySem.W.kitOne K (.ref (zC8 K)) (.ref (zC6 K))),
  fun K => oB false (PySem.W.kitOne K (.ref (zC8 K)) (.ref (zC7 K))),
  fun K => oB true (PySem.W.kitOne K (.ref (zC8 K)) (.ref (zC8 K))),
  fun K => oB false (PySem.W.kitOne K (.ref (zC8 K)) (.ref (zC9 K))),
  fun K => oB true (PySem.W.kitOne K (.type "tuple") (.type "tuple")),
  fun K => oB false (PySem.W.kitOne K (.type "tuple") (.type "str")),
  fun K => oB true (PySem.W.kitOne K (.type "str") (.type "str")),
  fun K => oB false (PySem.W.kitOne K (.type "str") (.type "tuple")),
  fun K => oB true (PySem.W.kitOne K (.type "dict") (.type "dict")),
  fun K => oB false (PySem.W.kitOne K (.type "dict") (.type "tuple")),
  fun K => oB false (PySem.W.kitOne K (.type "dict") (.type "str")),
  fun K => oB true (PySem.W.kitOne K (.type "list") (.type "list")),
  fun K => oB false (PySem.W.kitOne K (.type "list") (.type "tuple")),
  fun K => oB false (PySem.W.kitOne K (.type "list") (.type "str")),
  fun K => oB true (PySem.W.kitOne K (.type "int") (.type "int")),
  fun K => oB false (PySem.W.kitOne K (.type "int") (.type "bool")),
  fun K => oB false (PySem.W.kitOne K (.type "int") (.type "tuple")),
  fun K => oB false (PySem.W.kitOne K (.type "int") (.type "str")),
  fun K => oB false (PySem.W.kitOne K (.type "NoneType") (.type "tuple")),
  fun K => oB false (PySem.W.kitOne K (.type "NoneType") (.type "str"))]
noncomputable def chk (K : Fg) : Bool := (ckL0.all fun f => f K) && ((ckL1.all fun f => f K) && ((ckL2.all fun f => f K) && ((ckL3.all fun f => f K) && ((ckL4.all fun f => f K)))))
noncomputable abbrev hdR : PySem.W.OpenRow := PySem.W.OpenLaw.row PySem.Challenge.rw_piledtrees_k40_whole_stands
noncomputable abbrev hkR : PySem.W.Hook := hookR 0 chk dsH tsH
noncomputable def obH (s : PySem.W.SharedT) : Bool × List FO := obsR 0 chk dsH tsH (HandSHeadRun.getT s) s.n
theorem obH_eq (s : PySem.W.SharedT) : obH s = hkR.obs s.abs := obsR_eq s
noncomputable def loL0 : List Str := ["PileError", "BadTree", "BadPath", "BadUpper", "BadBook", "BadDeed", "BadRow", "Refused", "BadStand", "BadPaper", "FILE", "FOLDER", "is_tuple", "GONE", "JOINS", "BARE", "BY_PATH", "BY_NAME", "ALWAYS", "BELOW"]
noncomputable def loL1 : List Str := ["SHOWN", "NEVER", "OVER", "KEEP", "SEEN", "NEAR", "COPY", "KEPT", "ANEW", "INDEX", "CHOICES", "need_book", "NONE", "NAMES", "LED", "OFF", "APART", "OWN", "MADE", "OTHER"]
noncomputable def loL2 : List Str := ["LYING", "ENTRIES", "TRUTHS", "is_stand", "need_stand", "is_folder_in", "is_fault_in", "is_fault", "first_in", "first_stands", "left_by", "raised_stand", "behind_in", "behind", "mark_of", "moved_in", "can_move", "moved", "_law_mixed", "_law_folded"]
noncomputable def loL3 : List Str := ["_law_draw", "_law_begun", "_law_book", "_law_class", "_law_said", "_law_stands", "_law_is_fault", "_law_has_folder", "_law_raised", "_law_behind", "_law_moved", "_law_first", "_law_odds", "_law_odds_right"]
noncomputable def loN : List Str := loL0 ++ loL1 ++ loL2 ++ loL3
open HandSHeadRun PySem.W PySem.Calls in
noncomputable abbrev rX (w : World) (os : OsState) := endF (stepQ (denQ tabQ) hdR.prog w) 6000 hdR.prog w os
noncomputable abbrev hk0 : PySem.W.Hook := hookR 0 (fun _ => true) [] (fun _ => [])
theorem run0 (w : World) : HandSHeadRun.RunEq hdR (PySem.W.view hdR.prog [79]) hk0 (fun _ => (true, [])) 6000 loN w := by
  intro os
  kernel_rfl
noncomputable def chG0 (K : Fg) : Bool := (ckL0.all fun f => f K) && ((ckL1.all fun f => f K) && ((ckL2.all fun f => f K) && ((ckL3.all fun f => f K) && ((ckL4.all fun f => f K)))))
theorem runC0 (w : World) (os : OsState) : (rX w os).map (fun s => chG0 (kS 0 s)) = some true := by kernel_rfl
theorem runT (w : World) (os : OsState) : (rX w os).map (tabsE tsH 0) = some true := by kernel_rfl
theorem runF0 (w : World) (os : OsState) : (rX w os).map (fun s => dsG0.map fun d => foA (kS 0 s) (d.at_ (kS 0 s))) = some (dsG0.map DefH.val) := by kernel_rfl
theorem runC (w : World) (os : OsState) : (rX w os).map (fun s => chG0 (kS 0 s)) = some true := (runC0 w os)
theorem runF (w : World) (os : OsState) : (rX w os).map (fun s => (dsG0.map fun d => foA (kS 0 s) (d.at_ (kS 0 s)))) = some (dsG0.map DefH.val) := (runF0 w os)
set_option maxHeartbeats 4000000 in
theorem chk_eq (K : Fg) : chk K = (chG0 K) := by
  unfold chk chG0
  simp only [Bool.and_assoc]
set_option maxHeartbeats 4000000 in
theorem ob_eq (s : PySem.W.SharedT) : obH s = ((chG0 (kS 0 s)) && tabsE tsH 0 s, (dsG0.map fun d => foA (kS 0 s) (d.at_ (kS 0 s)))) := by
  show (chk (kS 0 s) && tabsE tsH 0 s, dsH.map fun d => foA (kS 0 s) (d.at_ (kS 0 s))) = _
  rw [chk_eq]
  unfold dsH
  simp only [List.map_append, Bool.and_assoc]
set_option maxHeartbeats 4000000 in
theorem runH (w : World) : HandSHeadRun.RunEq hdR (PySem.W.view hdR.prog [79]) hkR obH 6000 loN w := by
  intro os
  have e : hkR.val w = (true, dsG0.map DefH.val) := by
    show (true, dsH.map DefH.val) = _
    unfold dsH
    simp only [List.map_append]
  unfold HandSHeadRun.RunEq at *
  rw [e]
  exact rj_end ob_eq (run0 w os) (rj_all (runC w os) (runT w os)) (runF w os)
end Sm
open PySem PySem.W PyProof.Rows in
set_option maxRecDepth 100000 in
set_option maxHeartbeats 0 in
theorem PySem.Challenge.cw_piledtrees_k40_whole_stands_holds : PySem.Challenge.rw_piledtrees_k40_whole_stands.Holds := by
  w_on; o_law
  refine HandSHeadRun.head_any (r := OpenLaw.row PySem.Challenge.rw_piledtrees_k40_whole_stands) (q := view (OpenLaw.row PySem.Challenge.rw_piledtrees_k40_whole_stands).prog [79]) (H := Sm.hkR) (ob := Sm.obH) (M := 6000) (loose := Sm.loN) (d := HandSHeadRun.topDef (OpenLaw.row PySem.Challenge.rw_piledtrees_k40_whole_stands).prog 79) (kwd := []) Sm.obH_eq
    (by kernel_rfl) (fun s => by kernel_rfl) Sm.runH (by kernel_rfl) (by kernel_rfl) (by kernel_rfl) (by rfl) (by first | assumption | decide +kernel) (by decide +kernel) ⟨rfl, rfl, rfl, rfl, rfl, by decide +kernel⟩ ?hw ?hc
  case hw => w_witness2
  case hc =>
    refine Sm.walk_H (l := PySem.Challenge.rw_piledtrees_k40_whole_stands) (n := 63) (k := 9) (x := "_law_script") (c := Sm.c_law) (chk := Sm.chk) (ds := Sm.dsH) (ts := Sm.tsH) rfl (by decide) (by kernel_rfl) ⟨rfl, by decide, by decide⟩ (fun _ _ Y => Y) ?F (fun ns hl => Sm.law_run ns)
    intro w mg fa h K KX G hmg0 c0
    have hmg : mg ("law" : PySem.Str) = some (.ref fa) := by
      have e : (HandSHeadRun.topDef (OpenLaw.row PySem.Challenge.rw_piledtrees_k40_whole_stands).prog 79).name = ("law" : PySem.Str) := by kernel_rfl
      rw [← e]
      exact hmg0
    have cc := c0.chk
    unfold Sm.chk at cc
    simp only [Bool.and_eq_true] at cc
    obtain ⟨cc0, cc1, cc2, cc3, cc4⟩ := cc
    have q0 : (Sm.refO (Sm.nsQ K mainGlobals "PileError")) = true := Sm.ck_at cc0 0
    have q1 : (Sm.refO (Sm.nsQ K mainGlobals "BadTree")) = true := Sm.ck_at cc0 1
    have q2 : (Sm.refO (Sm.nsQ K mainGlobals "BadPath")) = true := Sm.ck_at cc0 2
    have q3 : (Sm.refO (Sm.nsQ K mainGlobals "BadUpper")) = true := Sm.ck_at cc0 3
    have q4 : (Sm.refO (Sm.nsQ K mainGlobals "BadBook")) = true := Sm.ck_at cc0 4
    have q5 : (Sm.refO (Sm.nsQ K mainGlobals "BadDeed")) = true := Sm.ck_at cc0 5
    have q6 : (Sm.refO (Sm.nsQ K mainGlobals "BadRow")) = true := Sm.ck_at cc0 6
    have q7 : (Sm.refO (Sm.nsQ K mainGlobals "Refused")) = true := Sm.ck_at cc0 7
    have q8 : (Sm.refO (Sm.nsQ K mainGlobals "BadStand")) = true := Sm.ck_at cc0 8
    have q9 : (Sm.refO (Sm.nsQ K mainGlobals "BadPaper")) = true := Sm.ck_at cc0 9
    have q10 : (Sm.refO (Sm.nsQ K mainGlobals "is_tuple")) = true := Sm.ck_at cc0 10
    have q11 : (Sm.refO (Sm.nsQ K mainGlobals "need_book")) = true := Sm.ck_at cc0 11
    have q12 : (Sm.refO (Sm.nsQ K mainGlobals "is_stand")) = true := Sm.ck_at cc0 12
    have q13 : (Sm.refO (Sm.nsQ K mainGlobals "need_stand")) = true := Sm.ck_at cc0 13
    have q14 : (Sm.refO (Sm.nsQ K mainGlobals "is_folder_in")) = true := Sm.ck_at cc0 14
    have q15 : (Sm.refO (Sm.nsQ K mainGlobals "is_fault_in")) = true := Sm.ck_at cc0 15
    have q16 : (Sm.refO (Sm.nsQ K mainGlobals "is_fault")) = true := Sm.ck_at cc0 16
    have q17 : (Sm.refO (Sm.nsQ K mainGlobals "first_in")) = true := Sm.ck_at cc0 17
    have q18 : (Sm.refO (Sm.nsQ K mainGlobals "first_stands")) = true := Sm.ck_at cc0 18
    have q19 : (Sm.refO (Sm.nsQ K mainGlobals "left_by")) = true := Sm.ck_at cc0 19
    have q20 : (Sm.refO (Sm.nsQ K mainGlobals "raised_stand")) = true := Sm.ck_at cc0 20
    have q21 : (Sm.refO (Sm.nsQ K mainGlobals "behind_in")) = true := Sm.ck_at cc0 21
    have q22 : (Sm.refO (Sm.nsQ K mainGlobals "behind")) = true := Sm.ck_at cc0 22
    have q23 : (Sm.refO (Sm.nsQ K mainGlobals "mark_of")) = true := Sm.ck_at cc0 23
    have q24 : (Sm.refO (Sm.nsQ K mainGlobals "moved_in")) = true := Sm.ck_at cc0 24
    have q25 : (Sm.refO (Sm.nsQ K mainGlobals "can_move")) = true := Sm.ck_at cc0 25
    have q26 : (Sm.refO (Sm.nsQ K mainGlobals "moved")) = true := Sm.ck_at cc0 26
    have q27 : (Sm.refO (Sm.nsQ K mainGlobals "_law_mixed")) = true := Sm.ck_at cc0 27
    have q28 : (Sm.refO (Sm.nsQ K mainGlobals "_law_folded")) = true := Sm.ck_at cc0 28
    have q29 : (Sm.refO (Sm.nsQ K mainGlobals "_law_draw")) = true := Sm.ck_at cc0 29
    have q30 : (Sm.refO (Sm.nsQ K mainGlobals "_law_begun")) = true := Sm.ck_at cc0 30
    have q31 : (Sm.refO (Sm.nsQ K mainGlobals "_law_book")) = true := Sm.ck_at cc0 31
    have q32 : (Sm.refO (Sm.nsQ K mainGlobals "_law_class")) = true := Sm.ck_at cc0 32
    have q33 : (Sm.refO (Sm.nsQ K mainGlobals "_law_said")) = true := Sm.ck_at cc0 33
    have q34 : (Sm.refO (Sm.nsQ K mainGlobals "_law_stands")) = true := Sm.ck_at cc0 34
    have q35 : (Sm.refO (Sm.nsQ K mainGlobals "_law_is_fault")) = true := Sm.ck_at cc0 35
    have q36 : (Sm.refO (Sm.nsQ K mainGlobals "_law_has_folder")) = true := Sm.ck_at cc0 36
    have q37 : (Sm.refO (Sm.nsQ K mainGlobals "_law_raised")) = true := Sm.ck_at cc0 37
    have q38 : (Sm.refO (Sm.nsQ K mainGlobals "_law_behind")) = true := Sm.ck_at cc0 38
    have q39 : (Sm.refO (Sm.nsQ K mainGlobals "_law_moved")) = true := Sm.ck_at cc0 39
    have q40 : (Sm.refO (Sm.nsQ K mainGlobals "_law_first")) = true := Sm.ck_at cc1 0
    have q41 : (Sm.refO (Sm.nsQ K mainGlobals "_law_odds")) = true := Sm.ck_at cc1 1
    have q42 : (Sm.refO (Sm.nsQ K mainGlobals "_law_odds_right")) = true := Sm.ck_at cc1 2
    have q43 : (Sm.refO (Sm.nsQ K mainGlobals "law")) = true := Sm.ck_at cc1 3
    have q44 : (Sm.refO (PySem.W.findIn K (.ref (Sm.zC4 K)) "__init__")) = true := Sm.ck_at cc1 4
    have q45 : (Sm.refO (PySem.W.findIn K (.ref (Sm.zC8 K)) "__init__")) = true := Sm.ck_at cc1 5
    have q46 : (Sm.foK K (Sm.zf0 K) "is_tuple") = true := Sm.ck_at cc1 6
    have q47 : (Sm.foK K (Sm.zf1 K) "need_book") = true := Sm.ck_at cc1 7
    have q48 : (Sm.foK K (Sm.zf2 K) "is_stand") = true := Sm.ck_at cc1 8
    have q49 : (Sm.foK K (Sm.zf3 K) "need_stand") = true := Sm.ck_at cc1 9
    have q50 : (Sm.foK K (Sm.zf4 K) "is_folder_in") = true := Sm.ck_at cc1 10
    have q51 : (Sm.foK K (Sm.zf5 K) "is_fault_in") = true := Sm.ck_at cc1 11
    have q52 : (Sm.foK K (Sm.zf6 K) "is_fault") = true := Sm.ck_at cc1 12
    have q53 : (Sm.foK K (Sm.zf7 K) "first_in") = true := Sm.ck_at cc1 13
    have q54 : (Sm.foK K (Sm.zf8 K) "first_stands") = true := Sm.ck_at cc1 14
    have q55 : (Sm.foK K (Sm.zf9 K) "left_by") = true := Sm.ck_at cc1 15
    have q56 : (Sm.foK K (Sm.zf10 K) "raised_stand") = true := Sm.ck_at cc1 16
    have q57 : (Sm.foK K (Sm.zf11 K) "behind_in") = true := Sm.ck_at cc1 17
    have q58 : (Sm.foK K (Sm.zf12 K) "behind") = true := Sm.ck_at cc1 18
    have q59 : (Sm.foK K (Sm.zf13 K) "mark_of") = true := Sm.ck_at cc1 19
    have q60 : (Sm.foK K (Sm.zf14 K) "moved_in") = true := Sm.ck_at cc1 20
    have q61 : (Sm.foK K (Sm.zf15 K) "can_move") = true := Sm.ck_at cc1 21
    have q62 : (Sm.foK K (Sm.zf16 K) "moved") = true := Sm.ck_at cc1 22
    have q63 : (Sm.foK K (Sm.zf17 K) "_law_mixed") = true := Sm.ck_at cc1 23
    have q64 : (Sm.foK K (Sm.zf18 K) "_law_folded") = true := Sm.ck_at cc1 24
    have q65 : (Sm.foK K (Sm.zf19 K) "_law_draw") = true := Sm.ck_at cc1 25
    have q66 : (Sm.foK K (Sm.zf20 K) "_law_begun") = true := Sm.ck_at cc1 26
    have q67 : (Sm.foK K (Sm.zf21 K) "_law_book") = true := Sm.ck_at cc1 27
    have q68 : (Sm.foK K (Sm.zf22 K) "_law_class") = true := Sm.ck_at cc1 28
    have q69 : (Sm.foK K (Sm.zf23 K) "_law_said") = true := Sm.ck_at cc1 29
    have q70 : (Sm.foK K (Sm.zf24 K) "_law_stands") = true := Sm.ck_at cc1 30
    have q71 : (Sm.foK K (Sm.zf25 K) "_law_is_fault") = true := Sm.ck_at cc1 31
    have q72 : (Sm.foK K (Sm.zf26 K) "_law_has_folder") = true := Sm.ck_at cc1 32
    have q73 : (Sm.foK K (Sm.zf27 K) "_law_raised") = true := Sm.ck_at cc1 33
    have q74 : (Sm.foK K (Sm.zf28 K) "_law_behind") = true := Sm.ck_at cc1 34
    have q75 : (Sm.foK K (Sm.zf29 K) "_law_moved") = true := Sm.ck_at cc1 35
    have q76 : (Sm.foK K (Sm.zf30 K) "_law_first") = true := Sm.ck_at cc1 36
    have q77 : (Sm.foK K (Sm.zf31 K) "_law_odds") = true := Sm.ck_at cc1 37
    have q78 : (Sm.foK K (Sm.zf32 K) "_law_odds_right") = true := Sm.ck_at cc1 38
    have q79 : (Sm.mkB K (Sm.zf32 K)) = true := Sm.ck_at cc1 39
    have q80 : (Sm.foK K (Sm.zf33 K) "law") = true := Sm.ck_at cc2 0
    have q81 : (Sm.foK K (Sm.zfx4 K) "BadBook.__init__") = true := Sm.ck_at cc2 1
    have q82 : (Sm.xB K (Sm.zC4 K) (Sm.zfx4 K) PySem.Challenge.pw_piledtrees_k40_whole_stands.main.file) = true := Sm.ck_at cc2 2
    have q83 : (Sm.clB K (Sm.zC4 K)) = true := Sm.ck_at cc2 3
    have q84 : (Sm.someB (PySem.W.findIn K (.ref (Sm.zC4 K)) "__getattr__")) = true := Sm.ck_at cc2 4
    have q85 : (Sm.foK K (Sm.zfx8 K) "BadStand.__init__") = true := Sm.ck_at cc2 5
    have q86 : (Sm.xB K (Sm.zC8 K) (Sm.zfx8 K) PySem.Challenge.pw_piledtrees_k40_whole_stands.main.file) = true := Sm.ck_at cc2 6
    have q87 : (Sm.clB K (Sm.zC8 K)) = true := Sm.ck_at cc2 7
    have q88 : (Sm.someB (PySem.W.findIn K (.ref (Sm.zC8 K)) "__getattr__")) = true := Sm.ck_at cc2 8
    have q89 : (Sm.sB "always" (Sm.nsQ K mainGlobals "ALWAYS")) = true := Sm.ck_at cc2 9
    have q90 : (Sm.sB "anew" (Sm.nsQ K mainGlobals "ANEW")) = true := Sm.ck_at cc2 10
    have q91 : (Sm.sB "apart" (Sm.nsQ K mainGlobals "APART")) = true := Sm.ck_at cc2 11
    have q92 : (Sm.sB "bare" (Sm.nsQ K mainGlobals "BARE")) = true := Sm.ck_at cc2 12
    have q93 : (Sm.sB "below" (Sm.nsQ K mainGlobals "BELOW")) = true := Sm.ck_at cc2 13
    have q94 : (Sm.sB "name" (Sm.nsQ K mainGlobals "BY_NAME")) = true := Sm.ck_at cc2 14
    have q95 : (Sm.sB "path" (Sm.nsQ K mainGlobals "BY_PATH")) = true := Sm.ck_at cc2 15
    have q96 : (Sm.sB "copy" (Sm.nsQ K mainGlobals "COPY")) = true := Sm.ck_at cc2 16
    have q97 : (Sm.sB "file" (Sm.nsQ K mainGlobals "FILE")) = true := Sm.ck_at cc2 17
    have q98 : (Sm.sB "folder" (Sm.nsQ K mainGlobals "FOLDER")) = true := Sm.ck_at cc2 18
    have q99 : (Sm.sB "gone" (Sm.nsQ K mainGlobals "GONE")) = true := Sm.ck_at cc2 19
    have q100 : (Sm.sB "joins" (Sm.nsQ K mainGlobals "JOINS")) = true := Sm.ck_at cc2 20
    have q101 : (Sm.sB "keep" (Sm.nsQ K mainGlobals "KEEP")) = true := Sm.ck_at cc2 21
    have q102 : (Sm.sB "led" (Sm.nsQ K mainGlobals "LED")) = true := Sm.ck_at cc2 22
    have q103 : (Sm.sB "made" (Sm.nsQ K mainGlobals "MADE")) = true := Sm.ck_at cc2 23
    have q104 : (Sm.sB "names" (Sm.nsQ K mainGlobals "NAMES")) = true := Sm.ck_at cc2 24
    have q105 : (Sm.sB "near" (Sm.nsQ K mainGlobals "NEAR")) = true := Sm.ck_at cc2 25
    have q106 : (Sm.sB "none" (Sm.nsQ K mainGlobals "NONE")) = true := Sm.ck_at cc2 26
    have q107 : (Sm.sB "off" (Sm.nsQ K mainGlobals "OFF")) = true := Sm.ck_at cc2 27
    have q108 : (Sm.sB "other" (Sm.nsQ K mainGlobals "OTHER")) = true := Sm.ck_at cc2 28
    have q109 : (Sm.sB "over" (Sm.nsQ K mainGlobals "OVER")) = true := Sm.ck_at cc2 29
    have q110 : (Sm.sB "own" (Sm.nsQ K mainGlobals "OWN")) = true := Sm.ck_at cc2 30
    have q111 : (Sm.sB "seen" (Sm.nsQ K mainGlobals "SEEN")) = true := Sm.ck_at cc2 31
    have q112 : (Sm.sB "shown" (Sm.nsQ K mainGlobals "SHOWN")) = true := Sm.ck_at cc2 32
    have q113 : (Sm.gtB K "CHOICES" (.tup [(.tup [(.str "always"), (.str "below"), (.str "shown"), (.str "never")]), (.tup [(.str "bare"), (.str "over"), (.str "joins")]), (.tup [(.str "bare"), (.str "keep")]), (.tup [(.str "path"), (.str "seen"), (.str "name"), (.str "near"), (.str "copy"), (.str "keep")]), (.tup [(.str "kept"), (.str "anew")]), (.tup [(.str "index"), (.str "copy")])])) = true := Sm.ck_at cc2 33
    have q114 : (Sm.gtB K "ENTRIES" (.tup [(.str "apart"), (.str "bare"), (.str "file"), (.str "gone"), (.str "joins"), (.str "led"), (.str "none"), (.str "off")])) = true := Sm.ck_at cc2 34
    have q115 : (Sm.gtB K "LYING" (.tup [(.str "file"), (.str "folder"), (.str "names"), (.str "none")])) = true := Sm.ck_at cc2 35
    have q116 : (Sm.gtB K "TRUTHS" (.tup [(.str "file"), (.str "made"), (.str "none"), (.str "other"), (.str "own")])) = true := Sm.ck_at cc2 36
    have q117 : (PySem.W.excInitIn K (Sm.zC4 K) Sm.veT "ValueError.__new__") = true := Sm.ck_at cc2 37
    have q118 : (Sm.oB true (PySem.W.mroIn K (Sm.zC4 K) (.ref (Sm.zC4 K)))) = true := Sm.ck_at cc2 38
    have q119 : (Sm.bB "ValueError.__init__" (PySem.W.ks_superIn K (Sm.zC4 K) (Sm.zC4 K) "__init__")) = true := Sm.ck_at cc2 39
    have q120 : (Sm.oB true (PySem.W.subIn K (.ref (Sm.zC4 K)) (.type "ValueError"))) = true := Sm.ck_at cc3 0
    have q121 : (Sm.bB "object.__setattr__" (PySem.W.findIn K (.ref (Sm.zC4 K)) "__setattr__")) = true := Sm.ck_at cc3 1
    have q122 : (Sm.vB "function" (PySem.W.typeIn K (.ref (Sm.zfx4 K)))) = true := Sm.ck_at cc3 2
    have q123 : (Sm.nB (PySem.W.findIn K (.ref (Sm.zC4 K)) "place")) = true := Sm.ck_at cc3 3
    have q124 : (Sm.vB "type" (PySem.W.typeIn K (.ref (Sm.zC4 K)))) = true := Sm.ck_at cc3 4
    have q125 : (PySem.W.keepIn K (.ref (Sm.zC4 K))) = true := Sm.ck_at cc3 5
    have q126 : (Sm.bB "BaseException.__getattribute__" (PySem.W.findIn K (.ref (Sm.zC4 K)) "__getattribute__")) = true := Sm.ck_at cc3 6
    have q127 : (Sm.oB true (PySem.W.subIn K (.ref (Sm.zC4 K)) (.type "BaseException"))) = true := Sm.ck_at cc3 7
    have q128 : (Sm.bB "object.__class__" (PySem.W.findIn K (.ref (Sm.zC4 K)) "__class__")) = true := Sm.ck_at cc3 8
    have q129 : (Sm.oB true (PySem.W.mroIn K (Sm.zC4 K) (.type "object"))) = true := Sm.ck_at cc3 9
    have q130 : (PySem.W.hasDictIn K (Sm.zC4 K)) = true := Sm.ck_at cc3 10
    have q131 : (PySem.W.excInitIn K (Sm.zC8 K) Sm.veT "ValueError.__new__") = true := Sm.ck_at cc3 11
    have q132 : (Sm.oB true (PySem.W.mroIn K (Sm.zC8 K) (.ref (Sm.zC8 K)))) = true := Sm.ck_at cc3 12
    have q133 : (Sm.bB "ValueError.__init__" (PySem.W.ks_superIn K (Sm.zC8 K) (Sm.zC8 K) "__init__")) = true := Sm.ck_at cc3 13
    have q134 : (Sm.oB true (PySem.W.subIn K (.ref (Sm.zC8 K)) (.type "ValueError"))) = true := Sm.ck_at cc3 14
    have q135 : (Sm.bB "object.__setattr__" (PySem.W.findIn K (.ref (Sm.zC8 K)) "__setattr__")) = true := Sm.ck_at cc3 15
    have q136 : (Sm.vB "function" (PySem.W.typeIn K (.ref (Sm.zfx8 K)))) = true := Sm.ck_at cc3 16
    have q137 : (Sm.nB (PySem.W.findIn K (.ref (Sm.zC8 K)) "value")) = true := Sm.ck_at cc3 17
    have q138 : (Sm.vB "type" (PySem.W.typeIn K (.ref (Sm.zC8 K)))) = true := Sm.ck_at cc3 18
    have q139 : (PySem.W.keepIn K (.ref (Sm.zC8 K))) = true := Sm.ck_at cc3 19
    have q140 : (Sm.bB "BaseException.__getattribute__" (PySem.W.findIn K (.ref (Sm.zC8 K)) "__getattribute__")) = true := Sm.ck_at cc3 20
    have q141 : (Sm.oB true (PySem.W.subIn K (.ref (Sm.zC8 K)) (.type "BaseException"))) = true := Sm.ck_at cc3 21
    have q142 : (Sm.bB "object.__class__" (PySem.W.findIn K (.ref (Sm.zC8 K)) "__class__")) = true := Sm.ck_at cc3 22
    have q143 : (Sm.oB true (PySem.W.mroIn K (Sm.zC8 K) (.type "object"))) = true := Sm.ck_at cc3 23
    have q144 : (PySem.W.hasDictIn K (Sm.zC8 K)) = true := Sm.ck_at cc3 24
    have q145 : (Sm.nB (Sm.nsQ K cStatics "thirdparty.any")) = true := Sm.ck_at cc3 25
    have q146 : (Sm.bB "getset_descriptor.__get__" (PySem.W.specialIn K (.builtin "object.__class__") "__get__")) = true := Sm.ck_at cc3 26
    have q147 : (Sm.oB true (PySem.W.takesIn K (.builtin "object.__class__"))) = true := Sm.ck_at cc3 27
    have q148 : (Sm.nB (Sm.nsQ K mainGlobals "all")) = true := Sm.ck_at cc3 28
    have q149 : (Sm.nB (Sm.nsQ K mainGlobals "enumerate")) = true := Sm.ck_at cc3 29
    have q150 : (Sm.nB (Sm.nsQ K mainGlobals "int")) = true := Sm.ck_at cc3 30
    have q151 : (Sm.nB (Sm.nsQ K mainGlobals "isinstance")) = true := Sm.ck_at cc3 31
    have q152 : (Sm.nB (Sm.nsQ K mainGlobals "len")) = true := Sm.ck_at cc3 32
    have q153 : (Sm.nB (Sm.nsQ K mainGlobals "list")) = true := Sm.ck_at cc3 33
    have q154 : (Sm.nB (Sm.nsQ K mainGlobals "range")) = true := Sm.ck_at cc3 34
    have q155 : (Sm.nB (Sm.nsQ K mainGlobals "repr")) = true := Sm.ck_at cc3 35
    have q156 : (Sm.nB (Sm.nsQ K mainGlobals "set")) = true := Sm.ck_at cc3 36
    have q157 : (Sm.nB (Sm.nsQ K mainGlobals "sorted")) = true := Sm.ck_at cc3 37
    have q158 : (Sm.nB (Sm.nsQ K mainGlobals "str")) = true := Sm.ck_at cc3 38
    have q159 : (Sm.nB (Sm.nsQ K mainGlobals "super")) = true := Sm.ck_at cc3 39
    have q160 : (Sm.nB (Sm.nsQ K mainGlobals "tuple")) = true := Sm.ck_at cc4 0
    have q161 : (Sm.oB true (PySem.W.subIn K (.ref (Sm.zC0 K)) (.type "BaseException"))) = true := Sm.ck_at cc4 1
    have q162 : (!(Value.ref (Sm.zC4 K) == Value.ref (Sm.zC0 K))) = true := Sm.ck_at cc4 2
    have q163 : (!(Value.ref (Sm.zC8 K) == Value.ref (Sm.zC0 K))) = true := Sm.ck_at cc4 3
    have q164 : (Sm.oB true (PySem.W.kitOne K (.ref (Sm.zC4 K)) (.ref (Sm.zC0 K)))) = true := Sm.ck_at cc4 4
    have q165 : (Sm.oB false (PySem.W.kitOne K (.ref (Sm.zC4 K)) (.ref (Sm.zC1 K)))) = true := Sm.ck_at cc4 5
    have q166 : (Sm.oB false (PySem.W.kitOne K (.ref (Sm.zC4 K)) (.ref (Sm.zC2 K)))) = true := Sm.ck_at cc4 6
    have q167 : (Sm.oB false (PySem.W.kitOne K (.ref (Sm.zC4 K)) (.ref (Sm.zC3 K)))) = true := Sm.ck_at cc4 7
    have q168 : (Sm.oB true (PySem.W.kitOne K (.ref (Sm.zC4 K)) (.ref (Sm.zC4 K)))) = true := Sm.ck_at cc4 8
    have q169 : (Sm.oB false (PySem.W.kitOne K (.ref (Sm.zC4 K)) (.ref (Sm.zC5 K)))) = true := Sm.ck_at cc4 9
    have q170 : (Sm.oB false (PySem.W.kitOne K (.ref (Sm.zC4 K)) (.ref (Sm.zC6 K)))) = true := Sm.ck_at cc4 10
    have q171 : (Sm.oB false (PySem.W.kitOne K (.ref (Sm.zC4 K)) (.ref (Sm.zC7 K)))) = true := Sm.ck_at cc4 11
    have q172 : (Sm.oB false (PySem.W.kitOne K (.ref (Sm.zC4 K)) (.ref (Sm.zC8 K)))) = true := Sm.ck_at cc4 12
    have q173 : (Sm.oB false (PySem.W.kitOne K (.ref (Sm.zC4 K)) (.ref (Sm.zC9 K)))) = true := Sm.ck_at cc4 13
    have q174 : (Sm.oB true (PySem.W.kitOne K (.ref (Sm.zC8 K)) (.ref (Sm.zC0 K)))) = true := Sm.ck_at cc4 14
    have q175 : (Sm.oB false (PySem.W.kitOne K (.ref (Sm.zC8 K)) (.ref (Sm.zC1 K)))) = true := Sm.ck_at cc4 15
    have q176 : (Sm.oB false (PySem.W.kitOne K (.ref (Sm.zC8 K)) (.ref (Sm.zC2 K)))) = true := Sm.ck_at cc4 16
    have q177 : (Sm.oB false (PySem.W.kitOne K (.ref (Sm.zC8 K)) (.ref (Sm.zC3 K)))) = true := Sm.ck_at cc4 17
    have q178 : (Sm.oB false (PySem.W.kitOne K (.ref (Sm.zC8 K)) (.ref (Sm.zC4 K)))) = true := Sm.ck_at cc4 18
    have q179 : (Sm.oB false (PySem.W.kitOne K (.ref (Sm.zC8 K)) (.ref (Sm.zC5 K)))) = true := Sm.ck_at cc4 19
    have q180 : (Sm.oB false (PySem.W.kitOne K (.ref (Sm.zC8 K)) (.ref (Sm.zC6 K)))) = true := Sm.ck_at cc4 20
    have q181 : (Sm.oB false (PySem.W.kitOne K (.ref (Sm.zC8 K)) (.ref (Sm.zC7 K)))) = true := Sm.ck_at cc4 21
    have q182 : (Sm.oB true (PySem.W.kitOne K (.ref (Sm.zC8 K)) (.ref (Sm.zC8 K)))) = true := Sm.ck_at cc4 22
    have q183 : (Sm.oB false (PySem.W.kitOne K (.ref (Sm.zC8 K)) (.ref (Sm.zC9 K)))) = true := Sm.ck_at cc4 23
    have q184 : (Sm.oB true (PySem.W.kitOne K (.type "tuple") (.type "tuple"))) = true := Sm.ck_at cc4 24
    have q185 : (Sm.oB false (PySem.W.kitOne K (.type "tuple") (.type "str"))) = true := Sm.ck_at cc4 25
    have q186 : (Sm.oB true (PySem.W.kitOne K (.type "str") (.type "str"))) = true := Sm.ck_at cc4 26
    have q187 : (Sm.oB false (PySem.W.kitOne K (.type "str") (.type "tuple"))) = true := Sm.ck_at cc4 27
    have q188 : (Sm.oB true (PySem.W.kitOne K (.type "dict") (.type "dict"))) = true := Sm.ck_at cc4 28
    have q189 : (Sm.oB false (PySem.W.kitOne K (.type "dict") (.type "tuple"))) = true := Sm.ck_at cc4 29
    have q190 : (Sm.oB false (PySem.W.kitOne K (.type "dict") (.type "str"))) = true := Sm.ck_at cc4 30
    have q191 : (Sm.oB true (PySem.W.kitOne K (.type "list") (.type "list"))) = true := Sm.ck_at cc4 31
    have q192 : (Sm.oB false (PySem.W.kitOne K (.type "list") (.type "tuple"))) = true := Sm.ck_at cc4 32
    have q193 : (Sm.oB false (PySem.W.kitOne K (.type "list") (.type "str"))) = true := Sm.ck_at cc4 33
    have q194 : (Sm.oB true (PySem.W.kitOne K (.type "int") (.type "int"))) = true := Sm.ck_at cc4 34
    have q195 : (Sm.oB false (PySem.W.kitOne K (.type "int") (.type "bool"))) = true := Sm.ck_at cc4 35
    have q196 : (Sm.oB false (PySem.W.kitOne K (.type "int") (.type "tuple"))) = true := Sm.ck_at cc4 36
    have q197 : (Sm.oB false (PySem.W.kitOne K (.type "int") (.type "str"))) = true := Sm.ck_at cc4 37
    have q198 : (Sm.oB false (PySem.W.kitOne K (.type "NoneType") (.type "tuple"))) = true := Sm.ck_at cc4 38
    have q199 : (Sm.oB false (PySem.W.kitOne K (.type "NoneType") (.type "str"))) = true := Sm.ck_at cc4 39
    obtain ⟨oc32, od32, kV32, dc32, pm32, an32, ct32, sl32, l32, c32, k32⟩ := Sm.fo_ok (n := "_law_odds_right") (q := "_law_odds_right") (st := Sm.s_law_odds_right) (c0.defs 32 ⟨Sm.zf32, "_law_odds_right", "_law_odds_right", Sm.s_law_odds_right, []⟩ rfl) q78
    obtain ⟨co32, zd32, vc32, zs32, w32, e32⟩ := Sm.mkB_ok q79
    obtain ⟨oc33, od33, kV33, dc33, pm33, an33, ct33, sl33, l33, c33, k33⟩ := Sm.fo_ok (n := "law") (q := "law") (st := Sm.s_law) (c0.defs 33 ⟨Sm.zf33, "law", "law", Sm.s_law, []⟩ rfl) q80
    obtain ⟨oc_4, kV_4, dc_4, pm_4, ct_4, ccl4, cl4, od_4, an_4, cdd4, cld4, osl4, ccs4, csl4, vs4, fi4, tf4, l_4, c_4, d_4, v_4, m_4, e_4⟩ := Sm.xB_ok (n := "__init__") (q := "BadBook.__init__") (st := L2.inClass (Sm.top 5) 0) (c0.defs 34 ⟨Sm.zfx4, "__init__", "BadBook.__init__", L2.inClass (Sm.top 5) 0, ["__class__"]⟩ rfl) q81 q82
    obtain ⟨cD4, D_4, r_4, H_4⟩ := Sm.clB_ok q83
    obtain ⟨gt4, t_4⟩ := Sm.someB_ok q84
    obtain ⟨oc_8, kV_8, dc_8, pm_8, ct_8, ccl8, cl8, od_8, an_8, cdd8, cld8, osl8, ccs8, csl8, vs8, fi8, tf8, l_8, c_8, d_8, v_8, m_8, e_8⟩ := Sm.xB_ok (n := "__init__") (q := "BadStand.__init__") (st := L2.inClass (Sm.top 9) 0) (c0.defs 35 ⟨Sm.zfx8, "__init__", "BadStand.__init__", L2.inClass (Sm.top 9) 0, ["__class__"]⟩ rfl) q85 q86
    obtain ⟨cD8, D_8, r_8, H_8⟩ := Sm.clB_ok q87
    obtain ⟨gt8, t_8⟩ := Sm.someB_ok q88
    obtain ⟨tk_ALWAYS, mc_ALWAYS⟩ := Sm.gS_ok q89
    obtain ⟨tk_ANEW, mc_ANEW⟩ := Sm.gS_ok q90
    obtain ⟨tk_APART, mc_APART⟩ := Sm.gS_ok q91
    obtain ⟨tk_BARE, mc_BARE⟩ := Sm.gS_ok q92
    obtain ⟨tk_BELOW, mc_BELOW⟩ := Sm.gS_ok q93
    obtain ⟨tk_BY_NAME, mc_BY_NAME⟩ := Sm.gS_ok q94
    obtain ⟨tk_BY_PATH, mc_BY_PATH⟩ := Sm.gS_ok q95
    obtain ⟨tk_COPY, mc_COPY⟩ := Sm.gS_ok q96
    obtain ⟨tk_FILE, mc_FILE⟩ := Sm.gS_ok q97
    obtain ⟨tk_FOLDER, mc_FOLDER⟩ := Sm.gS_ok q98
    obtain ⟨tk_GONE, mc_GONE⟩ := Sm.gS_ok q99
    obtain ⟨tk_JOINS, mc_JOINS⟩ := Sm.gS_ok q100
    obtain ⟨tk_KEEP, mc_KEEP⟩ := Sm.gS_ok q101
    obtain ⟨tk_LED, mc_LED⟩ := Sm.gS_ok q102
    obtain ⟨tk_MADE, mc_MADE⟩ := Sm.gS_ok q103
    obtain ⟨tk_NAMES, mc_NAMES⟩ := Sm.gS_ok q104
    obtain ⟨tk_NEAR, mc_NEAR⟩ := Sm.gS_ok q105
    obtain ⟨tk_NONE, mc_NONE⟩ := Sm.gS_ok q106
    obtain ⟨tk_OFF, mc_OFF⟩ := Sm.gS_ok q107
    obtain ⟨tk_OTHER, mc_OTHER⟩ := Sm.gS_ok q108
    obtain ⟨tk_OVER, mc_OVER⟩ := Sm.gS_ok q109
    obtain ⟨tk_OWN, mc_OWN⟩ := Sm.gS_ok q110
    obtain ⟨tk_SEEN, mc_SEEN⟩ := Sm.gS_ok q111
    obtain ⟨tk_SHOWN, mc_SHOWN⟩ := Sm.gS_ok q112
    exact Sm.all_mk KX G hmg (ts := Sm.tsH K) c0.tab (Sm.gQ_ok q0) (Sm.gQ_ok q1) (Sm.gQ_ok q2) (Sm.gQ_ok q3) (Sm.gQ_ok q4) (Sm.gQ_ok q5) (Sm.gQ_ok q6) (Sm.gQ_ok q7) (Sm.gQ_ok q8) (Sm.gQ_ok q9) (Sm.gQ_ok q10) (Sm.foW (c0.defs 0 ⟨Sm.zf0, "is_tuple", "is_tuple", Sm.s_is_tuple, []⟩ rfl) q46) (Sm.gQ_ok q11) (Sm.foW (c0.defs 1 ⟨Sm.zf1, "need_book", "need_book", Sm.s_need_book, []⟩ rfl) q47) (Sm.gQ_ok q12) (Sm.foW (c0.defs 2 ⟨Sm.zf2, "is_stand", "is_stand", Sm.s_is_stand, []⟩ rfl) q48) (Sm.gQ_ok q13) (Sm.foW (c0.defs 3 ⟨Sm.zf3, "need_stand", "need_stand", Sm.s_need_stand, []⟩ rfl) q49) (Sm.gQ_ok q14) (Sm.foW (c0.defs 4 ⟨Sm.zf4, "is_folder_in", "is_folder_in", Sm.s_is_folder_in, []⟩ rfl) q50) (Sm.gQ_ok q15) (Sm.foW (c0.defs 5 ⟨Sm.zf5, "is_fault_in", "is_fault_in", Sm.s_is_fault_in, []⟩ rfl) q51) (Sm.gQ_ok q16) (Sm.foW (c0.defs 6 ⟨Sm.zf6, "is_fault", "is_fault", Sm.s_is_fault, []⟩ rfl) q52) (Sm.gQ_ok q17) (Sm.foW (c0.defs 7 ⟨Sm.zf7, "first_in", "first_in", Sm.s_first_in, []⟩ rfl) q53) (Sm.gQ_ok q18) (Sm.foW (c0.defs 8 ⟨Sm.zf8, "first_stands", "first_stands", Sm.s_first_stands, []⟩ rfl) q54) (Sm.gQ_ok q19) (Sm.foW (c0.defs 9 ⟨Sm.zf9, "left_by", "left_by", Sm.s_left_by, []⟩ rfl) q55) (Sm.gQ_ok q20) (Sm.foW (c0.defs 10 ⟨Sm.zf10, "raised_stand", "raised_stand", Sm.s_raised_stand, []⟩ rfl) q56) (Sm.gQ_ok q21) (Sm.foW (c0.defs 11 ⟨Sm.zf11, "behind_in", "behind_in", Sm.s_behind_in, []⟩ rfl) q57) (Sm.gQ_ok q22) (Sm.foW (c0.defs 12 ⟨Sm.zf12, "behind", "behind", Sm.s_behind, []⟩ rfl) q58) (Sm.gQ_ok q23) (Sm.foW (c0.defs 13 ⟨Sm.zf13, "mark_of", "mark_of", Sm.s_mark_of, []⟩ rfl) q59) (Sm.gQ_ok q24) (Sm.foW (c0.defs 14 ⟨Sm.zf14, "moved_in", "moved_in", Sm.s_moved_in, []⟩ rfl) q60) (Sm.gQ_ok q25) (Sm.foW (c0.defs 15 ⟨Sm.zf15, "can_move", "can_move", Sm.s_can_move, []⟩ rfl) q61) (Sm.gQ_ok q26) (Sm.foW (c0.defs 16 ⟨Sm.zf16, "moved", "moved", Sm.s_moved, []⟩ rfl) q62) (Sm.gQ_ok q27) (Sm.foW (c0.defs 17 ⟨Sm.zf17, "_law_mixed", "_law_mixed", Sm.s_law_mixed, []⟩ rfl) q63) (Sm.gQ_ok q28) (Sm.foW (c0.defs 18 ⟨Sm.zf18, "_law_folded", "_law_folded", Sm.s_law_folded, []⟩ rfl) q64) (Sm.gQ_ok q29) (Sm.foW (c0.defs 19 ⟨Sm.zf19, "_law_draw", "_law_draw", Sm.s_law_draw, []⟩ rfl) q65) (Sm.gQ_ok q30) (Sm.foW (c0.defs 20 ⟨Sm.zf20, "_law_begun", "_law_begun", Sm.s_law_begun, []⟩ rfl) q66) (Sm.gQ_ok q31) (Sm.foW (c0.defs 21 ⟨Sm.zf21, "_law_book", "_law_book", Sm.s_law_book, []⟩ rfl) q67) (Sm.gQ_ok q32) (Sm.foW (c0.defs 22 ⟨Sm.zf22, "_law_class", "_law_class", Sm.s_law_class, []⟩ rfl) q68) (Sm.gQ_ok q33) (Sm.foW (c0.defs 23 ⟨Sm.zf23, "_law_said", "_law_said", Sm.s_law_said, []⟩ rfl) q69) (Sm.gQ_ok q34) (Sm.foW (c0.defs 24 ⟨Sm.zf24, "_law_stands", "_law_stands", Sm.s_law_stands, []⟩ rfl) q70) (Sm.gQ_ok q35) (Sm.foW (c0.defs 25 ⟨Sm.zf25, "_law_is_fault", "_law_is_fault", Sm.s_law_is_fault, []⟩ rfl) q71) (Sm.gQ_ok q36) (Sm.foW (c0.defs 26 ⟨Sm.zf26, "_law_has_folder", "_law_has_folder", Sm.s_law_has_folder, []⟩ rfl) q72) (Sm.gQ_ok q37) (Sm.foW (c0.defs 27 ⟨Sm.zf27, "_law_raised", "_law_raised", Sm.s_law_raised, []⟩ rfl) q73) (Sm.gQ_ok q38) (Sm.foW (c0.defs 28 ⟨Sm.zf28, "_law_behind", "_law_behind", Sm.s_law_behind, []⟩ rfl) q74) (Sm.gQ_ok q39) (Sm.foW (c0.defs 29 ⟨Sm.zf29, "_law_moved", "_law_moved", Sm.s_law_moved, []⟩ rfl) q75) (Sm.gQ_ok q40) (Sm.foW (c0.defs 30 ⟨Sm.zf30, "_law_first", "_law_first", Sm.s_law_first, []⟩ rfl) q76) (Sm.gQ_ok q41) (Sm.foW (c0.defs 31 ⟨Sm.zf31, "_law_odds", "_law_odds", Sm.s_law_odds, []⟩ rfl) q77) (Sm.gQ_ok q42) l32 c32 w32 e32 q79 (c0.out _ List.mem_cons_self) List.mem_cons_self k32 (Sm.gQ_ok q43) l33 c33 k33 mc_ALWAYS mc_ANEW mc_APART mc_BARE mc_BELOW mc_BY_NAME mc_BY_PATH mc_COPY mc_FILE mc_FOLDER mc_GONE mc_JOINS mc_KEEP mc_LED mc_MADE mc_NAMES mc_NEAR mc_NONE mc_OFF mc_OTHER mc_OVER mc_OWN mc_SEEN mc_SHOWN (Sm.gtB_ok q113) (Sm.gtB_ok q114) (Sm.gtB_ok q115) (Sm.gtB_ok q116) q117 (Sm.mQ_ok q44) l_4 c_4 d_4 v_4 m_4 e_4 D_4 r_4 H_4 (Sm.oB_ok q118) (Sm.bB_ok q119) (Sm.oB_ok q120) (Sm.bB_ok q121) (Sm.vB_ok q122) (Sm.nB_ok q123) (Sm.vB_ok q124) q125 (Sm.bB_ok q126) t_4 (Sm.oB_ok q127) (Sm.bB_ok q128) (Sm.oB_ok q129) q130 q131 (Sm.mQ_ok q45) l_8 c_8 d_8 v_8 m_8 e_8 D_8 r_8 H_8 (Sm.oB_ok q132) (Sm.bB_ok q133) (Sm.oB_ok q134) (Sm.bB_ok q135) (Sm.vB_ok q136) (Sm.nB_ok q137) (Sm.vB_ok q138) q139 (Sm.bB_ok q140) t_8 (Sm.oB_ok q141) (Sm.bB_ok q142) (Sm.oB_ok q143) q144 (Sm.gN_ok q145) (Sm.bB_ok q146) (Sm.oB_ok q147) (Sm.gN_ok q148) (Sm.gN_ok q149) (Sm.gN_ok q150) (Sm.gN_ok q151) (Sm.gN_ok q152) (Sm.gN_ok q153) (Sm.gN_ok q154) (Sm.gN_ok q155) (Sm.gN_ok q156) (Sm.gN_ok q157) (Sm.gN_ok q158) (Sm.gN_ok q159) (Sm.gN_ok q160) (Sm.oB_ok q161) (Sm.notB_ok q162) (Sm.notB_ok q163) (Sm.oB_ok q164) (Sm.oB_ok q165) (Sm.oB_ok q166) (Sm.oB_ok q167) (Sm.oB_ok q168) (Sm.oB_ok q169) (Sm.oB_ok q170) (Sm.oB_ok q171) (Sm.oB_ok q172) (Sm.oB_ok q173) (Sm.oB_ok q174) (Sm.oB_ok q175) (Sm.oB_ok q176) (Sm.oB_ok q177) (Sm.oB_ok q178) (Sm.oB_ok q179) (Sm.oB_ok q180) (Sm.oB_ok q181) (Sm.oB_ok q182) (Sm.oB_ok q183) (Sm.oB_ok q184) (Sm.oB_ok q185) (Sm.oB_ok q186) (Sm.oB_ok q187) (Sm.oB_ok q188) (Sm.oB_ok q189) (Sm.oB_ok q190) (Sm.oB_ok q191) (Sm.oB_ok q192) (Sm.oB_ok q193) (Sm.oB_ok q194) (Sm.oB_ok q195) (Sm.oB_ok q196) (Sm.oB_ok q197) (Sm.oB_ok q198) (Sm.oB_ok q199)
#print axioms PySem.Challenge.cw_piledtrees_k40_whole_stands_holds
