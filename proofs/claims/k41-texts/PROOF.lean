import PyProof.Rows.All
import Wide.All
import OpenK.AllK
import Wide.FinOn
import HandS.ForMost
import HandS.Exc
import HandS.ExcOwn
import HandS.Wide
import KE.KeyNested
import KE.KDictKeyed
import KE.KDictWalk
import HandS.WordsExc
import HandS.ExcInit
import HandS.Gcd
import HandS.IsInst
import HandS.TupAny
import HandS.More
import HandS.Conv
import HandS.WideBits
import KE.KMathGC
import HandS.Style
import HandS.Iter
import KE.GoesEnum
import HandS.SetFor
import HandS.Strs
import HandS.TupMul
import HandS.Zip
import HandS.Dict
import HandS.SortInts
import HandS.Ends
import HandS.ExcIs
import HandS.ExcField
import HandS.ExcValue
import HandS.TryOnly
import HandS.Small
import HandS.TupSets
import HandS.SetKeys
import HandS.Sort
import HandS.TupLen
import HandS.Deep
import PyProof.Rows.StrOr
import HandS.Text
import HandS.Codes
import HandS.CallLocal
import KE.KUnpackStar
import HandS.Star
import HandS.DictComp
import PyProof.MakeMany
import PySem.Challenge.RW_wholeplays_k41_whole_texts_there_and_bac
set_option Elab.async false
set_option linter.all false
set_option maxRecDepth 100000
set_option maxHeartbeats 4000000
/-! DL: a layer of plain values over HandS: tuples (and what never changes) by their contents, lists and dicts by address in a small store. -/
namespace DL
open PySem PySem.Spec PyProof.Rows L2

/-! ### values -/
inductive D where
  | non | bl (b : Bool) | int (i : Int) | str (x : Str) | ty (n : String) | ref (a : Addr)
  | tup (xs : List D)
  | fro (xs : List D)
  | exc (C : Addr) (d : D)
  deriving Inhabited

/-- a list that never changes: locked, or of the written part -/
def StL (K : PySem.W.Frag) (H : Hp) (a : Addr) (xs : List V) : Prop :=
  (∃ o, H a = some (.frz o (.lst xs))) ∨
    ∃ (o : Obj) (its : Array Value) (n : Nat), K.lookup a = some o ∧ o.cls = .type "list" ∧ o.dict = none ∧ o.data = .seq its n ∧ its.size ≤ sizeLine ∧ Vals xs its.toList
theorem StL.sq {K : PySem.W.Frag} {H : Hp} {a : Addr} {xs : List V} (h : StL K H a xs) : SqL K H a xs := by
  rcases h with ⟨o, h⟩ | h
  · exact .inl (.inr ⟨o, h⟩)
  · exact .inr h
/-- a tuple -/
def StT (K : PySem.W.Frag) (H : Hp) (a : Addr) (xs : List V) : Prop :=
  H a = some (.tup xs) ∨
    ∃ (o : Obj) (its : Array Value) (n : Nat), K.lookup a = some o ∧ o.cls = .type "tuple" ∧ o.data = .seq its n ∧ its.size ≤ sizeLine ∧ Vals xs its.toList
theorem StT.sq {K : PySem.W.Frag} {H : Hp} {a : Addr} {xs : List V} (h : StT K H a xs) : SqT K H a xs := by
  rcases h with h | h
  · exact .inl (.inl h)
  · exact .inr h
/-- an exception object -/
def XO (a C dx : Addr) : HO := .ext fun h => ∃ oe vs, h.get? a = some oe ∧ Zc (.ref C) (some dx) oe ∧ oe.data = .fields vs

mutual
def DV (K : PySem.W.Frag) (H : Hp) : D → V → Prop
  | .non, v => v = .non
  | .bl b, v => v = .bl b
  | .int i, v => v = .int i
  | .str x, v => v = .str x
  | .ty n, v => v = .ty n
  | .ref a, v => v = .ref a
  | .tup xs, v => ∃ a vs, v = .ref a ∧ StT K H a vs ∧ DVs K H xs vs
  | .fro xs, v => ∃ a vs, v = .ref a ∧ StL K H a vs ∧ DVs K H xs vs
  | .exc C d, v => ∃ a dx w, v = .ref a ∧ H a = some (XO a C dx) ∧ H dx = some (.xd [(("value" : Str), w)]) ∧ DV K H d w
def DVs (K : PySem.W.Frag) (H : Hp) : List D → List V → Prop
  | [], vs => vs = []
  | d :: ds, vs => ∃ v ws, vs = v :: ws ∧ DV K H d v ∧ DVs K H ds ws
end

/-! ### dicts by nested tuples of ints -/
mutual
def plainK : NestedKey → Bool
  | .none => true
  | .num _ => true
  | .text _ => false
  | .tup ks => plainKs ks
def plainKs : List NestedKey → Bool
  | [] => true
  | k :: ks => plainK k && plainKs ks
end
mutual
def ofN : NestedKey → D
  | .none => .non
  | .num i => .int i
  | .text x => .str x
  | .tup ks => .tup (ofNs ks)
def ofNs : List NestedKey → List D
  | [] => []
  | k :: ks => ofN k :: ofNs ks
end
structure KeyOk (k : NestedKey) : Prop where
  tup : ∃ ks, k = .tup ks
  plain : plainK k = true
  dep : k.depth ≤ 8
/-- a dict by nested tuples: keys, where the key stands, values -/
def TN (a : Addr) (xs : List (NestedKey × Addr × V)) : HO := .ext fun h => ∃ (us : List (NestedKey × Addr × Value)) (P : Program) (w : World) (o : Obj) (es : Array DictEntry) (ep : Nat), h.get? a = some o ∧ o.ExactDict ∧ o.data = .dict es ep ∧
  es.toList = us.map (entryOfKey (nestedKind P w)) ∧ (us.map (·.1)).Nodup ∧ Paired (fun (p : NestedKey × Addr × V) (q : NestedKey × Addr × Value) => p.1 = q.1 ∧ p.2.1 = q.2.1 ∧ RelV p.2.2 q.2.2) xs us ∧ (a == sysModules) = false ∧ xs.length ≤ sizeLine
def NX (a : Addr) (xs : List (NestedKey × Addr × V)) : Prop := ∀ C dx, TN a xs ≠ XO a C dx
inductive DKN (K : PySem.W.Frag) (H : Hp) : List (NestedKey × D) → List (NestedKey × Addr × V) → Prop
  | nil : DKN K H [] []
  | cons {k : NestedKey} {d : D} {b : Addr} {v : V} {ds : List (NestedKey × D)} {vs : List (NestedKey × Addr × V)} : KeyOk k → DV K H (ofN k) (.ref b) → DV K H d v → DKN K H ds vs → DKN K H ((k, d) :: ds) ((k, b, v) :: vs)
/-! ### the store -/
inductive Cell where
  | lst (xs : List D)
  | dK (kvs : List (Key × D))
  | dN (kvs : List (NestedKey × D))
abbrev Sto := Addr → Option Cell
def sup (S : Sto) (a : Addr) (c : Cell) : Sto := fun b => if b = a then some c else S b
theorem sup_same {S : Sto} {a : Addr} {c : Cell} : sup S a c a = some c := by unfold sup; rw [if_pos rfl]
theorem sup_ne {S : Sto} {a b : Addr} {c : Cell} (h : b ≠ a) : sup S a c b = S b := by unfold sup; rw [if_neg h]
theorem sup_sup {S : Sto} {a : Addr} {c c' : Cell} : sup (sup S a c) a c' = sup S a c' := by
  funext b; unfold sup; split <;> rfl
inductive DKs (K : PySem.W.Frag) (H : Hp) : List (Key × D) → List (Key × V) → Prop
  | nil : DKs K H [] []
  | cons {k : Key} {d : D} {v : V} {ds : List (Key × D)} {vs : List (Key × V)} : DV K H d v → DKs K H ds vs → DKs K H ((k, d) :: ds) ((k, v) :: vs)
def CellOk (K : PySem.W.Frag) (H : Hp) (a : Addr) : Cell → Prop
  | .lst xs => ∃ vs, H a = some (.lst vs) ∧ DVs K H xs vs
  | .dK kvs => ∃ vs, H a = some (.dK vs) ∧ DKs K H kvs vs
  | .dN kvs => ∃ vs, H a = some (TN a vs) ∧ NX a vs ∧ DKN K H kvs vs
/-- the object of a cell -/
def CO (p : Addr) (o : HO) : Prop := (∃ xs, o = .lst xs) ∨ (∃ xs, o = .dK xs) ∨ ∃ xs, o = TN p xs ∧ NX p xs
theorem CO.tup {p : Addr} {xs : List V} (h : CO p (.tup xs)) : False := by
  rcases h with ⟨_, e⟩ | ⟨_, e⟩ | ⟨_, e, _⟩
  · cases e
  · cases e
  · unfold TN at e; cases e
theorem CO.frz {p : Addr} {ob : Obj} {u : HO} (h : CO p (.frz ob u)) : False := by
  rcases h with ⟨_, e⟩ | ⟨_, e⟩ | ⟨_, e, _⟩
  · cases e
  · cases e
  · unfold TN at e; cases e
theorem CO.xd {p : Addr} {fs : List (Str × V)} (h : CO p (.xd fs)) : False := by
  rcases h with ⟨_, e⟩ | ⟨_, e⟩ | ⟨_, e, _⟩
  · cases e
  · cases e
  · unfold TN at e; cases e
theorem CO.exc {p C dx : Addr} (h : CO p (XO p C dx)) : False := by
  rcases h with ⟨_, e⟩ | ⟨_, e⟩ | ⟨_, e, n⟩
  · unfold XO at e; cases e
  · unfold XO at e; cases e
  · exact n _ _ e.symm
def SOk (K : PySem.W.Frag) (H : Hp) (S : Sto) : Prop := ∀ a c, S a = some c → CellOk K H a c
theorem SOk.free {K : PySem.W.Frag} {H : Hp} {S : Sto} (h : SOk K H S) {a : Addr} (e : H a = none) : S a = none := by
  cases q : S a with
  | none => rfl
  | some c =>
    have := h a c q
    cases c with
    | lst xs => obtain ⟨vs, e2, _⟩ := this; rw [e] at e2; cases e2
    | dK kvs => obtain ⟨vs, e2, _⟩ := this; rw [e] at e2; cases e2
    | dN kvs => obtain ⟨vs, e2, _⟩ := this; rw [e] at e2; cases e2
/-- whatever is tracked and is not a cell's kind is not in the store -/
theorem SOk.out {K : PySem.W.Frag} {H : Hp} {S : Sto} (h : SOk K H S) {a : Addr} {o : HO} (e : H a = some o) (hc : ¬ CO a o) : S a = none := by
  cases q : S a with
  | none => rfl
  | some c =>
    have := h a c q
    cases c with
    | lst xs => obtain ⟨vs, e2, _⟩ := this; rw [e] at e2; exact absurd (.inl ⟨_, Option.some.inj e2⟩) hc
    | dK kvs => obtain ⟨vs, e2, _⟩ := this; rw [e] at e2; exact absurd (.inr (.inl ⟨_, Option.some.inj e2⟩)) hc
    | dN kvs => obtain ⟨vs, e2, n, _⟩ := this; rw [e] at e2; exact absurd (.inr (.inr ⟨_, Option.some.inj e2, n⟩)) hc

/-- the step from one heap and store to another: what is tracked beside the store stays; the store grows at new places alone -/
structure Go (K : PySem.W.Frag) (H : Hp) (S : Sto) (H' : Hp) (S' : Sto) : Prop where
  ok0 : SOk K H S
  ok : SOk K H' S'
  frame : ∀ a o, S a = none → H a = some o → H' a = some o
  ex : ∀ a o, S a = none → H a = some o → S' a = none
section
variable {K : PySem.W.Frag} {H H1 H2 : Hp} {S S1 S2 : Sto}
theorem Go.refl (h : SOk K H S) : Go K H S H S := ⟨h, h, fun _ _ _ e => e, fun _ _ e _ => e⟩
theorem Go.trans (g : Go K H S H1 S1) (g' : Go K H1 S1 H2 S2) : Go K H S H2 S2 :=
  ⟨g.ok0, g'.ok, fun a o e h => g'.frame a o (g.ex a o e h) (g.frame a o e h), fun a o e h => g'.ex a o (g.ex a o e h) (g.frame a o e h)⟩
theorem Go.tup (g : Go K H S H1 S1) {a : Addr} {vs : List V} (h : StT K H a vs) : StT K H1 a vs := by
  rcases h with h | h
  · exact .inl (g.frame a _ (g.ok0.out h CO.tup) h)
  · exact .inr h
theorem Go.fro (g : Go K H S H1 S1) {a : Addr} {vs : List V} (h : StL K H a vs) : StL K H1 a vs := by
  rcases h with ⟨o, h⟩ | h
  · exact .inl ⟨o, g.frame a _ (g.ok0.out h CO.frz) h⟩
  · exact .inr h
mutual
theorem DV.go (g : Go K H S H1 S1) : ∀ (d : D) (v : V), DV K H d v → DV K H1 d v
  | .non, _, h => h
  | .bl _, _, h => h
  | .int _, _, h => h
  | .str _, _, h => h
  | .ty _, _, h => h
  | .ref _, _, h => h
  | .tup xs, v, h => by
    obtain ⟨a, vs, e, q, r⟩ := h
    exact ⟨a, vs, e, g.tup q, DVs.go g xs vs r⟩
  | .fro xs, v, h => by
    obtain ⟨a, vs, e, q, r⟩ := h
    exact ⟨a, vs, e, g.fro q, DVs.go g xs vs r⟩
  | .exc C d, v, h => by
    obtain ⟨a, dx, w, e, q1, q2, r⟩ := h
    exact ⟨a, dx, w, e, g.frame a _ (g.ok0.out q1 CO.exc) q1, g.frame dx _ (g.ok0.out q2 CO.xd) q2, DV.go g d w r⟩
theorem DVs.go (g : Go K H S H1 S1) : ∀ (ds : List D) (vs : List V), DVs K H ds vs → DVs K H1 ds vs
  | [], _, h => h
  | d :: ds, vs, h => by
    obtain ⟨v, ws, e, r, q⟩ := h
    exact ⟨v, ws, e, DV.go g d v r, DVs.go g ds ws q⟩
end
theorem DKs.go (g : Go K H S H1 S1) {ds : List (Key × D)} {vs : List (Key × V)} (h : DKs K H ds vs) : DKs K H1 ds vs := by
  induction h with
  | nil => exact .nil
  | cons r _ ih => exact .cons (DV.go g _ _ r) ih

theorem DKN.go (g : Go K H S H1 S1) {ds : List (NestedKey × D)} {vs : List (NestedKey × Addr × V)} (h : DKN K H ds vs) : DKN K H1 ds vs := by
  induction h with
  | nil => exact .nil
  | cons k q r _ ih => exact .cons k (DV.go g _ _ q) (DV.go g _ _ r) ih

theorem DVs.length : ∀ {ds : List D} {vs : List V}, DVs K H ds vs → ds.length = vs.length
  | [], _, h => by cases (show _ = [] from h); rfl
  | d :: ds, vs, h => by
    obtain ⟨v, ws, rfl, _, q⟩ := h
    rw [List.length_cons, List.length_cons, DVs.length q]
theorem DVs.get : ∀ {ds : List D} {vs : List V} {i : Nat} {d : D}, DVs K H ds vs → ds[i]? = some d → ∃ v, vs[i]? = some v ∧ DV K H d v
  | [], _, _, _, _, e => by simp at e
  | d :: ds, vs, 0, x, h, e => by
    obtain ⟨v, ws, rfl, r, q⟩ := h
    have e : d = x := by simpa using e
    subst e
    exact ⟨v, rfl, r⟩
  | d :: ds, vs, i + 1, x, h, e => by
    obtain ⟨v, ws, rfl, r, q⟩ := h
    exact DVs.get (i := i) q (by simpa using e)
theorem DVs.nil : DVs K H [] [] := rfl
theorem DVs.cons {d : D} {v : V} {ds : List D} {vs : List V} (h : DV K H d v) (t : DVs K H ds vs) : DVs K H (d :: ds) (v :: vs) := ⟨v, vs, rfl, h, t⟩
theorem DVs.append : ∀ {ds es : List D} {vs ws : List V}, DVs K H ds vs → DVs K H es ws → DVs K H (ds ++ es) (vs ++ ws)
  | [], _, _, _, h, t => by cases (show _ = [] from h); exact t
  | d :: ds, es, vs, ws, h, t => by
    obtain ⟨v, us, rfl, r, q⟩ := h
    exact DVs.cons r (DVs.append q t)
theorem DVs.take : ∀ {ds : List D} {vs : List V} (n : Nat), DVs K H ds vs → DVs K H (ds.take n) (vs.take n)
  | _, _, 0, _ => by simp [DVs]
  | [], _, _ + 1, h => by cases (show _ = [] from h); exact DVs.nil
  | d :: ds, vs, n + 1, h => by
    obtain ⟨v, us, rfl, r, q⟩ := h
    exact DVs.cons r (DVs.take n q)
theorem DVs.drop : ∀ {ds : List D} {vs : List V} (n : Nat), DVs K H ds vs → DVs K H (ds.drop n) (vs.drop n)
  | _, _, 0, h => h
  | [], _, _ + 1, h => by cases (show _ = [] from h); exact DVs.nil
  | d :: ds, vs, n + 1, h => by
    obtain ⟨v, us, rfl, r, q⟩ := h
    exact DVs.drop n q
theorem DVs.set : ∀ {ds : List D} {vs : List V} {d : D} {v : V} (i : Nat), DVs K H ds vs → DV K H d v → DVs K H (ds.set i d) (vs.set i v)
  | [], _, _, _, _, h, _ => by cases (show _ = [] from h); exact DVs.nil
  | d :: ds, vs, x, y, 0, h, t => by
    obtain ⟨v, us, rfl, r, q⟩ := h
    exact DVs.cons t q
  | d :: ds, vs, x, y, i + 1, h, t => by
    obtain ⟨v, us, rfl, r, q⟩ := h
    exact DVs.cons r (DVs.set i q t)
theorem DVs.rev : ∀ {ds : List D} {vs : List V}, DVs K H ds vs → DVs K H ds.reverse vs.reverse
  | [], _, h => by cases (show _ = [] from h); exact DVs.nil
  | d :: ds, vs, h => by
    obtain ⟨v, us, rfl, r, q⟩ := h
    rw [List.reverse_cons, List.reverse_cons]
    exact DVs.append (DVs.rev q) (DVs.cons r DVs.nil)
theorem DVs.ints : ∀ {ns : List Int} {vs : List V}, DVs K H (ns.map D.int) vs → vs = ns.map V.int
  | [], _, h => h
  | n :: ns, vs, h => by
    obtain ⟨v, us, rfl, r, q⟩ := h
    rw [List.map_cons, ← DVs.ints q, show v = V.int n from r]
theorem DVs.of_ints : ∀ {ns : List Int}, DVs K H (ns.map D.int) (ns.map V.int)
  | [] => DVs.nil
  | n :: ns => DVs.cons (show DV K H (.int n) (.int n) from rfl) DVs.of_ints
theorem DVs.bls : ∀ {ns : List Bool} {vs : List V}, DVs K H (ns.map D.bl) vs → vs = ns.map V.bl
  | [], _, h => h
  | n :: ns, vs, h => by
    obtain ⟨v, us, rfl, r, q⟩ := h
    rw [List.map_cons, ← DVs.bls q, show v = V.bl n from r]
theorem DVs.strs : ∀ {ns : List Str} {vs : List V}, DVs K H (ns.map D.str) vs → vs = ns.map V.str
  | [], _, h => h
  | n :: ns, vs, h => by
    obtain ⟨v, us, rfl, r, q⟩ := h
    rw [List.map_cons, ← DVs.strs q, show v = V.str n from r]

/-- a new object beside the store -/
theorem Go.new (h : SOk K H S) {p : Addr} {o : HO} (hp : H p = none) : Go K H S (upd H p o) S := by
  have sok : ∀ a c, S a = some c → a ≠ p := fun a c e z => by
    subst z
    rw [h.free hp] at e
    cases e
  have g0 : ∀ a u, H a = some u → upd H p o a = some u := fun a u e => by rw [upd_ne (ne_of_none e hp)]; exact e
  -- through an empty store
  have gE : Go K H (fun _ => none) (upd H p o) (fun _ => none) := ⟨fun _ _ e => by simp at e, fun _ _ e => by simp at e, fun a u _ e => g0 a u e, fun _ _ _ _ => rfl⟩
  refine ⟨h, fun a c e => ?_, fun a u _ e => g0 a u e, fun _ _ e _ => e⟩
  have := h a c e
  cases c with
  | lst xs => obtain ⟨vs, e1, r⟩ := this; exact ⟨vs, g0 _ _ e1, DVs.go gE _ _ r⟩
  | dK kvs => obtain ⟨vs, e1, r⟩ := this; exact ⟨vs, g0 _ _ e1, DKs.go gE r⟩
  | dN kvs => obtain ⟨vs, e1, n, r⟩ := this; exact ⟨vs, g0 _ _ e1, n, DKN.go gE r⟩
theorem Go.newLst (h : SOk K H S) {p : Addr} {xs : List D} {vs : List V} (hp : H p = none) (r : DVs K H xs vs) : Go K H S (upd H p (.lst vs)) (sup S p (.lst xs)) := by
  have g := Go.new (o := .lst vs) h hp
  refine ⟨h, fun a c e => ?_, g.frame, fun a o e q => by rw [sup_ne (ne_of_none q hp)]; exact e⟩
  by_cases ha : a = p
  · subst ha
    rw [sup_same] at e; cases e
    exact ⟨vs, upd_same, DVs.go g _ _ r⟩
  · rw [sup_ne ha] at e
    exact g.ok a c e
theorem Go.newDK (h : SOk K H S) {p : Addr} {xs : List (Key × D)} {vs : List (Key × V)} (hp : H p = none) (r : DKs K H xs vs) : Go K H S (upd H p (.dK vs)) (sup S p (.dK xs)) := by
  have g := Go.new (o := .dK vs) h hp
  refine ⟨h, fun a c e => ?_, g.frame, fun a o e q => by rw [sup_ne (ne_of_none q hp)]; exact e⟩
  by_cases ha : a = p
  · subst ha
    rw [sup_same] at e; cases e
    exact ⟨vs, upd_same, DKs.go g r⟩
  · rw [sup_ne ha] at e
    exact g.ok a c e
theorem Go.newDN (h : SOk K H S) {p : Addr} {xs : List (NestedKey × D)} {vs : List (NestedKey × Addr × V)} (hp : H p = none) (n : NX p vs) (r : DKN K H xs vs) : Go K H S (upd H p (TN p vs)) (sup S p (.dN xs)) := by
  have g := Go.new (o := TN p vs) h hp
  refine ⟨h, fun a c e => ?_, g.frame, fun a o e q => by rw [sup_ne (ne_of_none q hp)]; exact e⟩
  by_cases ha : a = p
  · subst ha
    rw [sup_same] at e; cases e
    exact ⟨vs, upd_same, n, DKN.go g r⟩
  · rw [sup_ne ha] at e
    exact g.ok a c e
theorem tup_wr {p : Addr} {o o' : HO} (hp : H p = some o) (hc : CO p o) {a : Addr} {vs : List V} (h : StT K H a vs) : StT K (upd H p o') a vs := by
  have ne : ∀ {b u}, H b = some u → ¬ CO b u → b ≠ p := fun {b u} e h1 z => by
    subst z
    rw [hp] at e
    cases Option.some.inj e
    exact h1 hc
  rcases h with h | h
  · exact .inl (by rw [upd_ne (ne h CO.tup)]; exact h)
  · exact .inr h
mutual
theorem DV.wr {p : Addr} {o o' : HO} (hp : H p = some o) (hc : CO p o) : ∀ (d : D) (v : V), DV K H d v → DV K (upd H p o') d v
  | .non, _, h => h
  | .bl _, _, h => h
  | .int _, _, h => h
  | .str _, _, h => h
  | .ty _, _, h => h
  | .ref _, _, h => h
  | .tup xs, v, h => by
    obtain ⟨a, vs, e, q, r⟩ := h
    exact ⟨a, vs, e, tup_wr hp hc q, DVs.wr hp hc xs vs r⟩
  | .fro xs, v, h => by
    obtain ⟨a, vs, e, q, r⟩ := h
    refine ⟨a, vs, e, ?_, DVs.wr hp hc xs vs r⟩
    rcases q with ⟨u, q⟩ | q
    · refine .inl ⟨u, ?_⟩
      rw [upd_ne (fun z => ?_)]
      · exact q
      · subst z
        rw [hp] at q
        cases Option.some.inj q
        exact hc.frz.elim
    · exact .inr q
  | .exc C d, v, h => by
    obtain ⟨a, dx, w, e, q1, q2, r⟩ := h
    refine ⟨a, dx, w, e, ?_, ?_, DV.wr hp hc d w r⟩
    · rw [upd_ne (fun z => ?_)]
      · exact q1
      · subst z
        rw [hp] at q1
        cases Option.some.inj q1
        exact hc.exc.elim
    · rw [upd_ne (fun z => ?_)]
      · exact q2
      · subst z
        rw [hp] at q2
        cases Option.some.inj q2
        exact hc.xd.elim
theorem DVs.wr {p : Addr} {o o' : HO} (hp : H p = some o) (hc : CO p o) : ∀ (ds : List D) (vs : List V), DVs K H ds vs → DVs K (upd H p o') ds vs
  | [], _, h => h
  | d :: ds, vs, h => by
    obtain ⟨v, ws, e, r, q⟩ := h
    exact ⟨v, ws, e, DV.wr hp hc d v r, DVs.wr hp hc ds ws q⟩
end
theorem DKs.wr {p : Addr} {o o' : HO} (hp : H p = some o) (hc : CO p o) {ds : List (Key × D)} {vs : List (Key × V)} (h : DKs K H ds vs) : DKs K (upd H p o') ds vs := by
  induction h with
  | nil => exact .nil
  | cons r _ ih => exact .cons (DV.wr hp hc _ _ r) ih
theorem DKN.wr {p : Addr} {o o' : HO} (hp : H p = some o) (hc : CO p o) {ds : List (NestedKey × D)} {vs : List (NestedKey × Addr × V)} (h : DKN K H ds vs) : DKN K (upd H p o') ds vs := by
  induction h with
  | nil => exact .nil
  | cons k q r _ ih => exact .cons k (DV.wr hp hc _ _ q) (DV.wr hp hc _ _ r) ih
theorem Go.setLst (h : SOk K H S) {p : Addr} {xs0 xs : List D} {vs : List V} (hp : S p = some (.lst xs0)) (r : DVs K H xs vs) : Go K H S (upd H p (.lst vs)) (sup S p (.lst xs)) := by
  obtain ⟨vs0, e0, _⟩ := h p _ hp
  refine ⟨h, fun a c e => ?_, fun a o e q => ?_, fun a o e q => ?_⟩
  · by_cases ha : a = p
    · subst ha
      rw [sup_same] at e; cases e
      exact ⟨vs, upd_same, DVs.wr e0 (.inl ⟨_, rfl⟩) _ _ r⟩
    · rw [sup_ne ha] at e
      have := h a c e
      cases c with
      | lst xs => obtain ⟨ws, e1, r⟩ := this; exact ⟨ws, by rw [upd_ne ha]; exact e1, DVs.wr e0 (.inl ⟨_, rfl⟩) _ _ r⟩
      | dK kvs => obtain ⟨ws, e1, r⟩ := this; exact ⟨ws, by rw [upd_ne ha]; exact e1, DKs.wr e0 (.inl ⟨_, rfl⟩) r⟩
      | dN kvs => obtain ⟨ws, e1, n, r⟩ := this; exact ⟨ws, by rw [upd_ne ha]; exact e1, n, DKN.wr e0 (.inl ⟨_, rfl⟩) r⟩
  · rw [upd_ne (fun z => ?_)]
    · exact q
    · subst z; rw [hp] at e; cases e
  · rw [sup_ne (fun z => ?_)]
    · exact e
    · subst z; rw [hp] at e; cases e
theorem Go.setDK (h : SOk K H S) {p : Addr} {xs0 xs : List (Key × D)} {vs : List (Key × V)} (hp : S p = some (.dK xs0)) (r : DKs K H xs vs) : Go K H S (upd H p (.dK vs)) (sup S p (.dK xs)) := by
  obtain ⟨vs0, e0, _⟩ := h p _ hp
  refine ⟨h, fun a c e => ?_, fun a o e q => ?_, fun a o e q => ?_⟩
  · by_cases ha : a = p
    · subst ha
      rw [sup_same] at e; cases e
      exact ⟨vs, upd_same, DKs.wr e0 (.inr (.inl ⟨_, rfl⟩)) r⟩
    · rw [sup_ne ha] at e
      have := h a c e
      cases c with
      | lst xs => obtain ⟨ws, e1, r⟩ := this; exact ⟨ws, by rw [upd_ne ha]; exact e1, DVs.wr e0 (.inr (.inl ⟨_, rfl⟩)) _ _ r⟩
      | dK kvs => obtain ⟨ws, e1, r⟩ := this; exact ⟨ws, by rw [upd_ne ha]; exact e1, DKs.wr e0 (.inr (.inl ⟨_, rfl⟩)) r⟩
      | dN kvs => obtain ⟨ws, e1, n, r⟩ := this; exact ⟨ws, by rw [upd_ne ha]; exact e1, n, DKN.wr e0 (.inr (.inl ⟨_, rfl⟩)) r⟩
  · rw [upd_ne (fun z => ?_)]
    · exact q
    · subst z; rw [hp] at e; cases e
  · rw [sup_ne (fun z => ?_)]
    · exact e
    · subst z; rw [hp] at e; cases e
theorem Go.setDN (h : SOk K H S) {p : Addr} {xs0 xs : List (NestedKey × D)} {vs : List (NestedKey × Addr × V)} (hp : S p = some (.dN xs0)) (nx : NX p vs) (r : DKN K H xs vs) : Go K H S (upd H p (TN p vs)) (sup S p (.dN xs)) := by
  obtain ⟨vs0, e0, n0, _⟩ := h p _ hp
  refine ⟨h, fun a c e => ?_, fun a o e q => ?_, fun a o e q => ?_⟩
  · by_cases ha : a = p
    · subst ha
      rw [sup_same] at e; cases e
      exact ⟨vs, upd_same, nx, DKN.wr e0 (.inr (.inr ⟨_, rfl, n0⟩)) r⟩
    · rw [sup_ne ha] at e
      have := h a c e
      cases c with
      | lst xs => obtain ⟨ws, e1, r⟩ := this; exact ⟨ws, by rw [upd_ne ha]; exact e1, DVs.wr e0 (.inr (.inr ⟨_, rfl, n0⟩)) _ _ r⟩
      | dK kvs => obtain ⟨ws, e1, r⟩ := this; exact ⟨ws, by rw [upd_ne ha]; exact e1, DKs.wr e0 (.inr (.inr ⟨_, rfl, n0⟩)) r⟩
      | dN kvs => obtain ⟨ws, e1, n, r⟩ := this; exact ⟨ws, by rw [upd_ne ha]; exact e1, n, DKN.wr e0 (.inr (.inr ⟨_, rfl, n0⟩)) r⟩
  · rw [upd_ne (fun z => ?_)]
    · exact q
    · subst z; rw [hp] at e; cases e
  · rw [sup_ne (fun z => ?_)]
    · exact e
    · subst z; rw [hp] at e; cases e
/-- a list that is read: a cell, or one that never changes -/
def RdL (S : Sto) (d : D) (xs : List D) : Prop := (∃ a, d = .ref a ∧ S a = some (.lst xs)) ∨ d = .fro xs
theorem RdL.sq (h : SOk K H S) {d : D} {xs : List D} {v : V} (r : RdL S d xs) (dv : DV K H d v) : ∃ a vs, v = .ref a ∧ SqL K H a vs ∧ DVs K H xs vs := by
  rcases r with ⟨a, rfl, e⟩ | rfl
  · obtain ⟨vs, e1, q⟩ := h a _ e
    exact ⟨a, vs, dv, SqL.of e1, q⟩
  · obtain ⟨a, vs, e, q, r⟩ := dv
    exact ⟨a, vs, e, q.sq, r⟩
/-- a slot map -/
def SRv (K : PySem.W.Frag) (σ : L2.St) (H : Hp) (ρ : List (Option D)) : Prop := ρ.length = σ.length ∧ ∀ (i : Nat) (d : D), ρ[i]? = some (some d) → ∃ v, σ[i]? = some (some v) ∧ DV K H d v
theorem SRv.go {σ : L2.St} {ρ : List (Option D)} (r : SRv K σ H ρ) (g : Go K H S H1 S1) : SRv K σ H1 ρ := ⟨r.1, fun i d e => by
  obtain ⟨v, e1, q⟩ := r.2 i d e
  exact ⟨v, e1, DV.go g _ _ q⟩⟩
theorem SRv.set {σ : L2.St} {ρ : List (Option D)} (r : SRv K σ H ρ) {d : D} {v : V} (q : DV K H d v) (i : Nat) : SRv K (σ.set i (some v)) H (ρ.set i (some d)) := by
  refine ⟨by rw [List.length_set, List.length_set]; exact r.1, fun j e h => ?_⟩
  by_cases hj : i = j
  · subst hj
    have hl : i < ρ.length := by
      have := (List.getElem?_eq_some_iff.mp h).1
      rwa [List.length_set] at this
    rw [List.getElem?_set_self hl] at h
    have e2 : d = e := Option.some.inj (Option.some.inj h)
    subst e2
    exact ⟨v, by rw [List.getElem?_set_self (by rw [← r.1]; exact hl)], q⟩
  · rw [List.getElem?_set_ne hj] at h
    obtain ⟨u, e1, q1⟩ := r.2 j e h
    exact ⟨u, by rw [List.getElem?_set_ne hj]; exact e1, q1⟩
end
end DL
set_option Elab.async false
set_option linter.all false
set_option maxRecDepth 100000
set_option maxHeartbeats 4000000
namespace DL
open PySem PySem.Spec PyProof.Rows L2

/-! ### readings of plain values -/
abbrev Ro := List (Option D)
abbrev RE := Ro → Sto → (D → Sto → Prop) → Prop
abbrev RT := Ro → Sto → (Bool → Sto → Prop) → Prop
abbrev RA := Ro → Sto → (List D → Sto → Prop) → Prop
/-- what is wanted of an exception: its class, its value, the slots, the store -/
abbrev DWX := Addr → D → Ro → Sto → Prop
structure DXw where
  W : WX
  d : DWX
def XOk (K : PySem.W.Frag) (y : DXw) (H : Hp) (S : Sto) : Prop := ∀ C d ρ S' dx w σ H', Go K H S H' S' → SRv K σ H' ρ → H' dx = some (.xd [(("value" : Str), w)]) → DV K H' d w → y.d C d ρ S' → y.W (.ref C) (some dx) σ H'
structure SX (K : PySem.W.Frag) (y : DXw) (H : Hp) (S : Sto) : Prop where
  so : SOk K H S
  xo : XOk K y H S
theorem SX.go {K : PySem.W.Frag} {y : DXw} {H H' : Hp} {S S' : Sto} (h : SX K y H S) (g : Go K H S H' S') : SX K y H' S' :=
  ⟨g.ok, fun C d ρ S2 dx w σ H2 g2 => h.xo C d ρ S2 dx w σ H2 (g.trans g2)⟩
def lE (K : PySem.W.Frag) (y : DXw) (t : RE) : TE := fun σ H Q => ∃ ρ S R, SRv K σ H ρ ∧ SX K y H S ∧ t ρ S R ∧ ∀ d S' v H', Go K H S H' S' → DV K H' d v → R d S' → Q v H'
def lT (K : PySem.W.Frag) (y : DXw) (t : RT) : TT := fun σ H Q => ∃ ρ S R, SRv K σ H ρ ∧ SX K y H S ∧ t ρ S R ∧ ∀ b S' H', Go K H S H' S' → R b S' → Q b H'
def lA (K : PySem.W.Frag) (y : DXw) (n : Nat) (t : RA) : TA := fun σ H Q => ∃ ρ S R, SRv K σ H ρ ∧ SX K y H S ∧ t ρ S R ∧ ∀ ds S' vs H', Go K H S H' S' → DVs K H' ds vs → ds.length = n → R ds S' → Q vs H'
def PD (X : Cx) (y : DXw) (e : Expr) (t : RE) : Prop := PE X e (lE X.K y t)
def PDT (X : Cx) (y : DXw) (e : Expr) (t : RT) : Prop := PT X e (lT X.K y t)
def PDW (X : Cx) (y : DXw) (e : Expr) (t : RT) : Prop := PW X e (lT X.K y t)
def PDA (X : Cx) (y : DXw) (es : List Expr) (t : RA) : Prop := PA X es (lA X.K y es.length t)
/-- an if that stands still until it is looked at -/
structure IFB (b : Bool) (A B : Prop) : Prop where
  yes : b = true → A
  no : b = false → B
theorem IFB.t {b : Bool} {A B : Prop} (h : b = true) (h1 : A) : IFB b A B := IFB.mk (fun _ => h1) fun z => by rw [h] at z; cases z
theorem IFB.f {b : Bool} {A B : Prop} (h : b = false) (h1 : B) : IFB b A B := IFB.mk (fun z => by rw [h] at z; cases z) fun _ => h1
theorem IFB.of {b : Bool} {A B : Prop} (h : IFB b A B) : (b = true → A) ∧ (b = false → B) := ⟨h.yes, h.no⟩
theorem IFB.p {p : Prop} [Decidable p] {A B : Prop} (h1 : p → A) (h2 : ¬ p → B) : IFB (decide p) A B := IFB.mk (fun z => h1 (of_decide_eq_true z)) fun z => h2 (of_decide_eq_false z)
theorem IFB.np {p : Prop} [Decidable p] {A B : Prop} (h1 : ¬ p → A) (h2 : p → B) : IFB (!decide p) A B := IFB.mk (fun z => h1 (by simpa using z)) fun z => h2 (by simpa using z)

section
variable {X : Cx} {y : DXw}
theorem PD.of {e : Expr} {t0 : TE} {t : RE} (h : PE X e t0) (w : ∀ σ H Q, lE X.K y t σ H Q → t0 σ H Q) : PD X y e t := ⟨fun pins s σ H Q I q => h.run pins s σ H Q I (w σ H Q q)⟩
theorem PDT.of {e : Expr} {t0 : TT} {t : RT} (h : PT X e t0) (w : ∀ σ H Q, lT X.K y t σ H Q → t0 σ H Q) : PDT X y e t := ⟨fun pins s σ H Q I q => h.run pins s σ H Q I (w σ H Q q)⟩
theorem PDA.of {e : List Expr} {t0 : TA} {t : RA} (h : PA X e t0) (w : ∀ σ H Q, lA X.K y e.length t σ H Q → t0 σ H Q) : PDA X y e t := ⟨fun pos pins s σ H Q I q => h.run pos pins s σ H Q I (w σ H Q q)⟩

/-! ### names, constants -/
def rVar (i : Nat) : RE := fun ρ S Q => match ρ[i]? with
  | some (some d) => Q d S
  | _ => False
def rC (d : D) : RE := fun _ S Q => Q d S
theorem pd_var (i : Nat) {x : Str} {pos : Pos} (hN : X.N[i]? = some x := by rfl) (hv : Vis X.env.scope x := by first | exact Or.inl rfl | exact Or.inr (Or.inl rfl) | exact Or.inr (Or.inr rfl)) (hd : (x == ("__debug__" : Str)) = false := by decide)
    (hcd : (x == ("__classdict__" : Str)) = false := by decide) : PD X y (.Name x pos) (rVar i) := by
  refine PD.of (pe_var hN hv hd hcd) fun σ H Q h => ?_
  obtain ⟨ρ, S, R, sr, so, h, k⟩ := h
  unfold rVar at h
  split at h
  · rename_i d e
    obtain ⟨v, e1, q⟩ := sr.2 i d e
    exact ⟨v, e1, k d S v H (Go.refl so.so) q h⟩
  · exact h.elim
theorem pd_c {e : Expr} {v : V} {d : D} (h : PE X e (tC v)) (hd : ∀ H, DV X.K H d v) : PD X y e (rC d) := by
  refine PD.of h fun σ H Q h => ?_
  obtain ⟨ρ, S, R, sr, so, h, k⟩ := h
  exact k d S v H (Go.refl so.so) (hd H) h
theorem pd_int {i j pos} : PD X y (.Constant (.int i) j pos) (rC (.int i)) := pd_c pe_int fun _ => rfl
theorem pd_bl {i j pos} : PD X y (.Constant (.bool i) j pos) (rC (.bl i)) := pd_c pe_bl fun _ => rfl
theorem pd_non {j pos} : PD X y (.Constant .none j pos) (rC .non) := pd_c pe_non fun _ => rfl
theorem pd_str {x j pos} : PD X y (.Constant (.str x) j pos) (rC (.str x)) := pd_c pe_str fun _ => rfl
/-- a module's constant -/
theorem pd_glob {x : Str} {v : V} {u : Value} {d : D} {pos : Pos} (hm : X.mg x = some u) (r : RelV v u) (hd' : ∀ H, DV X.K H d v) (hg : Gl X x := by rfl) (hd : (x == ("__debug__" : Str)) = false := by decide) : PD X y (.Name x pos) (rC d) :=
  pd_c (pe_glob hg hm r hd) hd'

/-! ### two-place operators, by values -/
abbrev ROp := D → D → Sto → (D → Sto → Prop) → Prop
def lop (K : PySem.W.Frag) (p : ROp) : R2 := fun v w H Q => ∃ x y S R, DV K H x v ∧ DV K H y w ∧ SOk K H S ∧ p x y S R ∧ ∀ d S' z H', Go K H S H' S' → DV K H' d z → R d S' → Q z H'
def rBin (p : ROp) (ta tb : RE) : RE := fun ρ S Q => ta ρ S fun x S1 => tb ρ S1 fun y S2 => p x y S2 Q
theorem bin_of {r : R2} {p : ROp} {ta tb : RE} {σ : L2.St} {H : Hp} {Q : VK} (hr : ∀ v w H Q, lop X.K p v w H Q → r v w H Q) (h : lE X.K y (rBin p ta tb) σ H Q) : tOp r (lE X.K y ta) (lE X.K y tb) σ H Q := by
  obtain ⟨ρ, S, R, sr, so, h, k⟩ := h
  refine ⟨ρ, S, _, sr, so, h, fun x S1 v H1 g1 dv1 h1 => ⟨ρ, S1, _, sr.go g1, so.go g1, h1, fun y S2 w H2 g2 dv2 h2 => ?_⟩⟩
  exact hr _ _ _ _ ⟨x, y, S2, R, DV.go g2 _ _ dv1, dv2, g2.ok, h2, fun d S' z H' g dz hz => k d S' z H' (g1.trans (g2.trans g)) dz hz⟩
theorem pd_bin {op : Operator} {p : ROp} {a b : Expr} {ta tb : RE} {pos : Pos} (ho : OpR X (binaryOp op) (lop X.K p)) (ha : PD X y a ta) (hb : PD X y b tb) : PD X y (.BinOp a op b pos) (rBin p ta tb) :=
  PD.of (pe_op ho ha hb) fun _ _ _ h => bin_of (fun _ _ _ _ z => z) h
theorem pd_cmp {op : CmpOp} {p : ROp} {a b : Expr} {ta tb : RE} {pos : Pos} (ho : OpR X (compareOp op) (lop X.K p)) (ha : PD X y a ta) (hb : PD X y b tb) (hm : behindInMarks op b = false := by first | rfl | exact nomark _) : PD X y (.Compare a [op] [b] pos) (rBin p ta tb) :=
  PD.of (pe_cmpR ho ha hb hm) fun _ _ _ h => bin_of (fun _ _ _ _ z => z) h
/-- a value's truth, where it is a bool -/
def dBl : D → (Bool → Prop) → Prop
  | .bl b, k => k b
  | _, _ => False
def rTst (t : RE) : RT := fun ρ S Q => t ρ S fun d S1 => dBl d fun b => Q b S1
theorem tst_of {t0 : TE} {t : RE} {σ : L2.St} {H : Hp} {Q : Bool → Hp → Prop} (ht : ∀ σ H Q, lE X.K y t σ H Q → t0 σ H Q) (h : lT X.K y (rTst t) σ H Q) : t0 σ H (fun x H' => ∃ k, x = .bl k ∧ Q k H') := by
  obtain ⟨ρ, S, R, sr, so, h, k⟩ := h
  refine ht _ _ _ ⟨ρ, S, _, sr, so, h, fun d S' v H' g dv hd => ?_⟩
  cases d with
  | bl b => exact ⟨b, dv, k b S' H' g hd⟩
  | _ => exact False.elim hd
theorem pdt_cmp {op : CmpOp} {p : ROp} {a b : Expr} {ta tb : RE} {pos : Pos} (ho : OpR X (compareOp op) (lop X.K p)) (ha : PD X y a ta) (hb : PD X y b tb) (hm : behindInMarks op b = false := by first | rfl | exact nomark _) : PDT X y (.Compare a [op] [b] pos) (rTst (rBin p ta tb)) :=
  PDT.of (pt_cmpR ho ha hb hm) fun _ _ _ h => tst_of (fun _ _ _ h => bin_of (fun _ _ _ _ z => z) h) h
theorem pdt_val {e : Expr} {t : RE} (h : PD X y e t) (he : ∀ whole, isTrue e X.env whole = (do let v ← whole; standAt e.pos; holding [v] (truthy v)) := by intro _; rfl) : PDT X y e (rTst t) :=
  PDT.of (pt_val h he) fun _ _ _ h => tst_of (fun _ _ _ h => h) h
/-- a value's truth -/
def dTru : D → Sto → (Bool → Prop) → Prop
  | .non, _, k => k false
  | .bl b, _, k => k b
  | .int i, _, k => k (i != 0)
  | .str x, _, k => x.length ≤ sizeLine ∧ k ((x.length : Int) != 0)
  | .tup xs, _, k => k (!xs.isEmpty)
  | .fro xs, _, k => k (!xs.isEmpty)
  | .ref a, S, k => (∃ xs, S a = some (.lst xs) ∧ k (!xs.isEmpty)) ∨ ∃ kvs, S a = some (.dK kvs) ∧ k (!kvs.isEmpty)
  | _, _, _ => False
theorem DVs.empty {K : PySem.W.Frag} {H : Hp} {ds : List D} {vs : List V} (h : DVs K H ds vs) : ds.isEmpty = vs.isEmpty := by
  have := h.length
  cases ds <;> cases vs <;> simp_all
theorem DKs.length {K : PySem.W.Frag} {H : Hp} {ds : List (Key × D)} {vs : List (Key × V)} (h : DKs K H ds vs) : ds.length = vs.length := by
  induction h with
  | nil => rfl
  | cons _ _ ih => simp [ih]
theorem DKs.empty {K : PySem.W.Frag} {H : Hp} {ds : List (Key × D)} {vs : List (Key × V)} (h : DKs K H ds vs) : ds.isEmpty = vs.isEmpty := by
  cases h <;> rfl
theorem dTru_of {K : PySem.W.Frag} {H : Hp} {S : Sto} (so : SOk K H S) : ∀ {d : D} {v : V} {k : Bool → Prop}, DV K H d v → dTru d S k → ∃ b, TruV K v H b ∧ k b
  | .non, _, _, h, q => by cases (show _ = V.non from h); exact ⟨false, rfl, q⟩
  | .bl b, _, _, h, q => by cases (show _ = V.bl b from h); exact ⟨b, rfl, q⟩
  | .int i, _, _, h, q => by cases (show _ = V.int i from h); exact ⟨_, rfl, q⟩
  | .str x, _, _, h, q => by cases (show _ = V.str x from h); exact ⟨_, ⟨q.1, rfl⟩, q.2⟩
  | .tup xs, _, _, h, q => by
    obtain ⟨a, vs, rfl, e, r⟩ := h
    exact ⟨_, .inr (.inl ⟨vs, e.sq, rfl⟩), by rw [← r.empty]; exact q⟩
  | .fro xs, _, _, h, q => by
    obtain ⟨a, vs, rfl, e, r⟩ := h
    exact ⟨_, .inl ⟨vs, e.sq, rfl⟩, by rw [← r.empty]; exact q⟩
  | .ref a, _, _, h, q => by
    cases (show _ = V.ref a from h)
    rcases q with ⟨xs, e, q⟩ | ⟨xs, e, q⟩
    · obtain ⟨vs, e1, r⟩ := so a _ e
      exact ⟨_, .inl ⟨vs, SqL.of e1, rfl⟩, by rw [← r.empty]; exact q⟩
    · obtain ⟨vs, e1, r⟩ := so a _ e
      exact ⟨_, .inr (.inr ⟨vs, e1, rfl⟩), by rw [← r.empty]; exact q⟩
  | .ty _, _, _, _, q => q.elim
  | .exc _ _, _, _, _, q => q.elim
def rTru (t : RE) : RT := fun ρ S Q => t ρ S fun d S1 => dTru d S1 fun b => Q b S1
theorem pdt_tru {e : Expr} {t : RE} (h : PD X y e t) (he : ∀ whole, isTrue e X.env whole = (do let v ← whole; standAt e.pos; holding [v] (truthy v)) := by intro _; rfl) : PDT X y e (rTru t) := by
  refine PDT.of (pt_truth h he) fun σ H Q h => ?_
  obtain ⟨ρ, S, R, sr, so, h, k⟩ := h
  refine ⟨ρ, S, _, sr, so, h, fun d S' v H' g dv hd => ?_⟩
  obtain ⟨b, h1, h2⟩ := dTru_of g.ok dv hd
  exact ⟨b, h1, k b S' H' g h2⟩

/-! ### and, or, not, if -/
def rAnd (t u : RT) : RT := fun ρ S Q => t ρ S fun c S1 => IFB c (u ρ S1 Q) (Q false S1)
def rOr (t u : RT) : RT := fun ρ S Q => t ρ S fun c S1 => IFB c (Q true S1) (u ρ S1 Q)
def rNot (t : RT) : RT := fun ρ S Q => t ρ S fun c S1 => Q (!c) S1
theorem ite_of_IFB {b : Bool} {A B A' B' : Prop} (h : IFB b A B) (h1 : A → A') (h2 : B → B') : if b = true then A' else B' := by
  have q := h.of
  cases b with
  | true => rw [if_pos rfl]; exact h1 (q.1 rfl)
  | false => rw [if_neg Bool.false_ne_true]; exact h2 (q.2 rfl)
variable {a b : Expr} {rest : List Expr} {pos : Pos}
theorem pdw_and1 {t : RT} (h : PDT X y a t) : PDW X y (.BoolOp .And [a] pos) t := pw_and1 h
theorem pdw_or1 {t : RT} (h : PDT X y a t) : PDW X y (.BoolOp .Or [a] pos) t := pw_or1 h
theorem PDW.of {e : Expr} {t0 : TT} {t : RT} (h : PW X e t0) (w : ∀ σ H Q, lT X.K y t σ H Q → t0 σ H Q) : PDW X y e t := ⟨fun wh pins s σ H Q I q => h.run wh pins s σ H Q I (w σ H Q q)⟩
theorem pdw_and {t u : RT} (ha : PDT X y a t) (hb : PDW X y (.BoolOp .And (b :: rest) pos) u) : PDW X y (.BoolOp .And (a :: b :: rest) pos) (rAnd t u) := by
  refine PDW.of (pw_and ha hb) fun σ H Q h => ?_
  obtain ⟨ρ, S, R, sr, so, h, k⟩ := h
  refine ⟨ρ, S, _, sr, so, h, fun c S' H' g hd => ?_⟩
  exact ite_of_IFB hd (fun z => ⟨ρ, S', R, sr.go g, so.go g, z, fun b S2 H2 g2 q => k b S2 H2 (g.trans g2) q⟩) fun z => k false S' H' g z
theorem pdw_or {t u : RT} (ha : PDT X y a t) (hb : PDW X y (.BoolOp .Or (b :: rest) pos) u) : PDW X y (.BoolOp .Or (a :: b :: rest) pos) (rOr t u) := by
  refine PDW.of (pw_or ha hb) fun σ H Q h => ?_
  obtain ⟨ρ, S, R, sr, so, h, k⟩ := h
  refine ⟨ρ, S, _, sr, so, h, fun c S' H' g hd => ?_⟩
  exact ite_of_IFB hd (fun z => k true S' H' g z) fun z => ⟨ρ, S', R, sr.go g, so.go g, z, fun b S2 H2 g2 q => k b S2 H2 (g.trans g2) q⟩
theorem PDW.pt {e : Expr} {t : RT} (h : PDW X y e t) : PDT X y e t := PW.pt h
theorem pdt_not {t : RT} (ha : PDT X y a t) : PDT X y (.UnaryOp .Not a pos) (rNot t) := by
  refine PDT.of (pt_not ha) fun σ H Q h => ?_
  obtain ⟨ρ, S, R, sr, so, h, k⟩ := h
  exact ⟨ρ, S, _, sr, so, h, fun c S' H' g hd => k _ S' H' g hd⟩
def rAndV (t u : RE) : RE := fun ρ S Q => t ρ S fun d S1 => dBl d fun c => IFB c (u ρ S1 Q) (Q (.bl false) S1)
def rOrV (t u : RE) : RE := fun ρ S Q => t ρ S fun d S1 => dBl d fun c => IFB c (Q (.bl true) S1) (u ρ S1 Q)
def rNotV (t : RE) : RE := fun ρ S Q => t ρ S fun d S1 => dBl d fun c => Q (.bl (!c)) S1
theorem pd_one {op : BoolOp} {t : RE} (h : PD X y a t) : PD X y (.BoolOp op [a] pos) t := pe_one h
theorem pd_and {t u : RE} (ha : PD X y a t) (hb : PD X y (.BoolOp .And (b :: rest) pos) u) : PD X y (.BoolOp .And (a :: b :: rest) pos) (rAndV t u) := by
  refine PD.of (pe_and ha hb) fun σ H Q h => ?_
  obtain ⟨ρ, S, R, sr, so, h, k⟩ := h
  refine ⟨ρ, S, _, sr, so, h, fun d S' v H' g dv hd => ?_⟩
  cases d with
  | bl c =>
    refine ⟨c, dv, ite_of_IFB hd (fun z => ⟨ρ, S', R, sr.go g, so.go g, z, fun d S2 v H2 g2 dv q => k d S2 v H2 (g.trans g2) dv q⟩) fun z => k (.bl false) S' _ H' g rfl z⟩
  | _ => exact False.elim hd
theorem pd_or {t u : RE} (ha : PD X y a t) (hb : PD X y (.BoolOp .Or (b :: rest) pos) u) : PD X y (.BoolOp .Or (a :: b :: rest) pos) (rOrV t u) := by
  refine PD.of (pe_or ha hb) fun σ H Q h => ?_
  obtain ⟨ρ, S, R, sr, so, h, k⟩ := h
  refine ⟨ρ, S, _, sr, so, h, fun d S' v H' g dv hd => ?_⟩
  cases d with
  | bl c =>
    refine ⟨c, dv, ite_of_IFB hd (fun z => k (.bl true) S' _ H' g rfl z) fun z => ⟨ρ, S', R, sr.go g, so.go g, z, fun d S2 v H2 g2 dv q => k d S2 v H2 (g.trans g2) dv q⟩⟩
  | _ => exact False.elim hd
theorem pd_not {t : RE} (ha : PD X y a t) : PD X y (.UnaryOp .Not a pos) (rNotV t) := by
  refine PD.of (pe_not ha) fun σ H Q h => ?_
  obtain ⟨ρ, S, R, sr, so, h, k⟩ := h
  refine ⟨ρ, S, _, sr, so, h, fun d S' v H' g dv hd => ?_⟩
  cases d with
  | bl c => exact ⟨c, dv, k (.bl (!c)) S' _ H' g rfl hd⟩
  | _ => exact False.elim hd
def rIf (t : RT) (u w : RE) : RE := fun ρ S Q => t ρ S fun c S1 => IFB c (u ρ S1 Q) (w ρ S1 Q)
theorem pd_if {c : Expr} {t : RT} {u w : RE} (hc : PDT X y c t) (ha : PD X y a u) (hb : PD X y b w) : PD X y (.IfExp c a b pos) (rIf t u w) := by
  refine PD.of (pe_ifExp hc ha hb) fun σ H Q h => ?_
  obtain ⟨ρ, S, R, sr, so, h, k⟩ := h
  refine ⟨ρ, S, _, sr, so, h, fun c S' H' g hd => ?_⟩
  exact ite_of_IFB hd (fun z => ⟨ρ, S', R, sr.go g, so.go g, z, fun d S2 v H2 g2 dv q => k d S2 v H2 (g.trans g2) dv q⟩) fun z => ⟨ρ, S', R, sr.go g, so.go g, z, fun d S2 v H2 g2 dv q => k d S2 v H2 (g.trans g2) dv q⟩

/-! ### arguments, displays -/
def rNil : RA := fun _ S Q => Q [] S
def rCons (t : RE) (u : RA) : RA := fun ρ S Q => t ρ S fun d S1 => u ρ S1 fun ds S2 => Q (d :: ds) S2
variable {e : Expr} {es : List Expr}
theorem pda_nil : PDA X y [] rNil := PDA.of pa_nil fun σ H Q h => by
  obtain ⟨ρ, S, R, sr, so, h, k⟩ := h
  exact k [] S [] H (Go.refl so.so) DVs.nil rfl h
theorem pda_cons {t : RE} {u : RA} (he : PD X y e t) (hr : PDA X y es u) (hs : starEach (e :: es) X.env = (false, eval e X.env) :: starEach es X.env := by rfl) : PDA X y (e :: es) (rCons t u) := by
  refine PDA.of (pa_cons he hr hs) fun σ H Q h => ?_
  obtain ⟨ρ, S, R, sr, so, h, k⟩ := h
  refine ⟨ρ, S, _, sr, so, h, fun d S1 v H1 g1 dv h1 => ⟨ρ, S1, _, sr.go g1, so.go g1, h1, fun ds S2 vs H2 g2 dvs hn h2 => ?_⟩⟩
  exact k _ S2 _ H2 (g1.trans g2) (DVs.cons (DV.go g2 _ _ dv) dvs) (by rw [List.length_cons, List.length_cons, hn]) h2
def rTup (t : RA) : RE := fun ρ S Q => t ρ S fun ds S1 => Q (.tup ds) S1
def rLst (t : RA) : RE := fun ρ S Q => t ρ S fun ds S1 => ∀ p, S1 p = none → Q (.ref p) (sup S1 p (.lst ds))
theorem pd_tup {t : RA} {k : Nat} (h : PDA X y es t) (hl : es.length ≤ sizeLine := by decide) : PD X y (.Tuple es k pos) (rTup t) := by
  refine PD.of (pe_tup h) fun σ H Q h => ?_
  obtain ⟨ρ, S, R, sr, so, h, k⟩ := h
  refine ⟨ρ, S, _, sr, so, h, fun ds S1 vs H1 g1 dvs hn h1 => ⟨by rw [← dvs.length, hn]; exact hl, fun p hp => ?_⟩⟩
  have g2 := Go.new (o := .tup vs) g1.ok hp
  exact k (.tup ds) S1 _ _ (g1.trans g2) ⟨p, vs, rfl, .inl upd_same, DVs.go g2 _ _ dvs⟩ h1
theorem pd_lst {t : RA} (h : PDA X y es t) (hl : es.length ≤ sizeLine := by decide) : PD X y (.List es pos) (rLst t) := by
  refine PD.of (pe_lst h) fun σ H Q h => ?_
  obtain ⟨ρ, S, R, sr, so, h, k⟩ := h
  refine ⟨ρ, S, _, sr, so, h, fun ds S1 vs H1 g1 dvs hn h1 => ⟨by rw [← dvs.length, hn]; exact hl, fun p hp => ?_⟩⟩
  have g2 := Go.newLst g1.ok hp dvs
  exact k (.ref p) _ _ _ (g1.trans g2) rfl (h1 p (g1.ok.free hp))
end
end DL
set_option Elab.async false
set_option linter.all false
set_option maxRecDepth 100000
set_option maxHeartbeats 4000000
namespace DL
open PySem PySem.Spec PyProof.Rows L2

/-! ### statements -/
structure DEnds where
  nx : Ro → Sto → Prop
  rt : D → Sto → Prop
  bk : Ro → Sto → Prop := fun _ _ => False
  ct : Ro → Sto → Prop := fun _ _ => False
abbrev RS := DEnds → Ro → Sto → Prop
structure EOk (K : PySem.W.Frag) (H : Hp) (S : Sto) (E : DEnds) (D : Ends) : Prop where
  nx : ∀ ρ S' σ H', Go K H S H' S' → SRv K σ H' ρ → E.nx ρ S' → D.nx σ H'
  rt : ∀ d S' v H', Go K H S H' S' → DV K H' d v → E.rt d S' → D.rt v H'
  bk : ∀ ρ S' σ H', Go K H S H' S' → SRv K σ H' ρ → E.bk ρ S' → D.bk σ H'
  ct : ∀ ρ S' σ H', Go K H S H' S' → SRv K σ H' ρ → E.ct ρ S' → D.ct σ H'
theorem EOk.go {K : PySem.W.Frag} {H H1 : Hp} {S S1 : Sto} {E : DEnds} {D : Ends} (h : EOk K H S E D) (g : Go K H S H1 S1) : EOk K H1 S1 E D :=
  ⟨fun ρ S' σ H' g' => h.nx ρ S' σ H' (g.trans g'), fun d S' v H' g' => h.rt d S' v H' (g.trans g'), fun ρ S' σ H' g' => h.bk ρ S' σ H' (g.trans g'), fun ρ S' σ H' g' => h.ct ρ S' σ H' (g.trans g')⟩
def lS (K : PySem.W.Frag) (y : DXw) (t : RS) : TS := fun D σ H => ∃ ρ S E, SRv K σ H ρ ∧ SX K y H S ∧ t E ρ S ∧ EOk K H S E D
def PDS (X : Cx) (y : DXw) (st : Stmt) (t : RS) : Prop := PS X st (lS X.K y t)
def PDSs (X : Cx) (y : DXw) (st : List Stmt) (t : RS) : Prop := PSs X st (lS X.K y t)
section
variable {X : Cx} {y : DXw} {st : Stmt} {rest : List Stmt} {t u : RS} {e : Expr} {te : RE} {pos : Pos}
theorem PDS.of {t0 : TS} (h : PS X st t0) (w : ∀ D σ H, lS X.K y t D σ H → t0 D σ H) : PDS X y st t := ⟨fun pins s σ H D I q => h.run pins s σ H D I (w D σ H q)⟩
theorem PDSs.of {sts : List Stmt} {t0 : TS} (h : PSs X sts t0) (w : ∀ D σ H, lS X.K y t D σ H → t0 D σ H) : PDSs X y sts t := ⟨fun pins s σ H D I q => h.run pins s σ H D I (w D σ H q)⟩
def rNext : RS := fun E ρ S => E.nx ρ S
def rSeq (t u : RS) : RS := fun E ρ S => t { E with nx := u E } ρ S
def rBreak : RS := fun E ρ S => E.bk ρ S
def rCont : RS := fun E ρ S => E.ct ρ S
def rNever : RS := fun _ _ _ => False
theorem pds_nil : PDSs X y [] rNext := PDSs.of pss_nil fun D σ H h => by
  obtain ⟨ρ, S, E, sr, so, h, eo⟩ := h
  exact eo.nx ρ S σ H (Go.refl so.so) sr h
theorem pds_one (h : PDS X y st t) : PDSs X y [st] t := pss_one h
theorem pds_cons (h1 : PDS X y st t) (h2 : PDSs X y rest u) : PDSs X y (st :: rest) (rSeq t u) := PDSs.of (pss_cons h1 h2) fun D σ H h => by
  obtain ⟨ρ, S, E, sr, so, h, eo⟩ := h
  exact ⟨ρ, S, { E with nx := u E }, sr, so, h, ⟨fun ρ' S' σ' H' g sr' q => ⟨ρ', S', E, sr', so.go g, q, eo.go g⟩, eo.rt, eo.bk, eo.ct⟩⟩
theorem pd_pass : PDS X y (.Pass pos) rNext := PDS.of ps_pass fun D σ H h => by
  obtain ⟨ρ, S, E, sr, so, h, eo⟩ := h
  exact eo.nx ρ S σ H (Go.refl so.so) sr h
theorem pd_break : PDS X y (.Break pos) rBreak := PDS.of ps_break fun D σ H h => by
  obtain ⟨ρ, S, E, sr, so, h, eo⟩ := h
  exact eo.bk ρ S σ H (Go.refl so.so) sr h
theorem pd_cont : PDS X y (.Continue pos) rCont := PDS.of ps_continue fun D σ H h => by
  obtain ⟨ρ, S, E, sr, so, h, eo⟩ := h
  exact eo.ct ρ S σ H (Go.refl so.so) sr h
theorem pd_never : PDS X y st rNever := PDS.of ps_never fun D σ H h => by
  obtain ⟨ρ, S, E, sr, so, h, eo⟩ := h
  exact h
theorem pds_never {sts : List Stmt} : PDSs X y sts rNever := PDSs.of pss_never fun D σ H h => by
  obtain ⟨ρ, S, E, sr, so, h, eo⟩ := h
  exact h
def rDrop (te : RE) : RS := fun E ρ S => te ρ S fun _ S1 => E.nx ρ S1
theorem pd_expr (he : PD X y e te) (hs : swapsWith e none pos.line X.env = pure false := by rfl) : PDS X y (.Expr e pos) (rDrop te) := PDS.of (ps_expr he hs) fun D σ H h => by
  obtain ⟨ρ, S, E, sr, so, h, eo⟩ := h
  exact ⟨ρ, S, _, sr, so, h, fun d S' v H' g dv q => eo.nx ρ S' σ H' g (sr.go g) q⟩
def rRet (te : RE) : RS := fun E ρ S => te ρ S E.rt
theorem pd_ret (he : PD X y e te) : PDS X y (.Return (some e) pos) (rRet te) := PDS.of (ps_ret he) fun D σ H h => by
  obtain ⟨ρ, S, E, sr, so, h, eo⟩ := h
  exact ⟨ρ, S, _, sr, so, h, fun d S' v H' g dv q => eo.rt d S' v H' g dv q⟩
def rRetN : RS := fun E _ S => E.rt .non S
theorem pd_retN : PDS X y (.Return none pos) rRetN := PDS.of ps_retN fun D σ H h => by
  obtain ⟨ρ, S, E, sr, so, h, eo⟩ := h
  exact eo.rt .non S .non H (Go.refl so.so) rfl h
def rIfS (c : RT) (t u : RS) : RS := fun E ρ S => c ρ S fun b S1 => IFB b (t E ρ S1) (u E ρ S1)
theorem pd_ifS {c : Expr} {a b : List Stmt} {tc : RT} (hc : PDT X y c tc) (ha : PDSs X y a t) (hb : PDSs X y b u) : PDS X y (.If c a b pos) (rIfS tc t u) := PDS.of (ps_if hc ha hb) fun D σ H h => by
  obtain ⟨ρ, S, E, sr, so, h, eo⟩ := h
  refine ⟨ρ, S, _, sr, so, h, fun b S' H' g q => ?_⟩
  exact ite_of_IFB q (fun z => ⟨ρ, S', E, sr.go g, so.go g, z, eo.go g⟩) fun z => ⟨ρ, S', E, sr.go g, so.go g, z, eo.go g⟩

/-! ### targets -/
abbrev RG := D → Ro → Sto → (Ro → Sto → Prop) → Prop
abbrev RGs := List D → Ro → Sto → (Ro → Sto → Prop) → Prop
def lG (K : PySem.W.Frag) (y : DXw) (t : RG) : TG := fun v σ H Q => ∃ d ρ S R, DV K H d v ∧ SRv K σ H ρ ∧ SX K y H S ∧ t d ρ S R ∧ ∀ ρ' S' σ' H', Go K H S H' S' → SRv K σ' H' ρ' → R ρ' S' → Q σ' H'
def lGs (K : PySem.W.Frag) (y : DXw) (t : RGs) : TGs := fun vs σ H Q => ∃ ds ρ S R, DVs K H ds vs ∧ SRv K σ H ρ ∧ SX K y H S ∧ t ds ρ S R ∧ ∀ ρ' S' σ' H', Go K H S H' S' → SRv K σ' H' ρ' → R ρ' S' → Q σ' H'
def PDG (X : Cx) (y : DXw) (tg : Expr) (t : RG) : Prop := PG X tg (lG X.K y t)
def PDGs (X : Cx) (y : DXw) (ts : List Expr) (t : RGs) : Prop := PGs X ts (lGs X.K y t)
theorem PDG.of {tg : Expr} {t0 : TG} {t : RG} (h : PG X tg t0) (w : ∀ v σ H Q, lG X.K y t v σ H Q → t0 v σ H Q) : PDG X y tg t := ⟨fun pins s σ H v u Q I r q => h.run pins s σ H v u Q I r (w v σ H Q q)⟩
theorem PDGs.of {ts : List Expr} {t0 : TGs} {t : RGs} (h : PGs X ts t0) (w : ∀ v σ H Q, lGs X.K y t v σ H Q → t0 v σ H Q) : PDGs X y ts t := ⟨fun pins s σ H v u Q I r q => h.run pins s σ H v u Q I r (w v σ H Q q)⟩
def gN (i : Nat) : RG := fun d ρ S Q => Q (ρ.set i (some d)) S
theorem pdg_name (i : Nat) {x : Str} (hN : X.N.Nodup) (hi : X.N[i]? = some x := by rfl) (hx : Loc X.env.scope x := by first | exact Or.inl rfl | exact Or.inr rfl) (hf : X.fn x = true ∨ X.env.scope.names.lookup x = some .local := by first | exact .inl rfl | exact .inr rfl) : PDG X y (.Name x pos) (gN i) :=
  PDG.of (pg_name hN hi hx hf) fun v σ H Q h => by
    obtain ⟨d, ρ, S, R, dv, sr, so, h, k⟩ := h
    exact k _ S _ H (Go.refl so.so) (sr.set dv i) h
def gNl : RGs := fun ds ρ S Q => match ds with
  | [] => Q ρ S
  | _ => False
def gCs (t : RG) (u : RGs) : RGs := fun ds ρ S Q => match ds with
  | d :: r => t d ρ S fun ρ' S' => u r ρ' S' Q
  | [] => False
theorem pdgs_nil : PDGs X y [] gNl := PDGs.of pgs_nil fun vs σ H Q h => by
  obtain ⟨ds, ρ, S, R, dv, sr, so, h, k⟩ := h
  cases ds with
  | nil => exact ⟨dv, k ρ S σ H (Go.refl so.so) sr h⟩
  | cons d r => exact h.elim
theorem pdgs_cons {es : List Expr} {t : RG} {u : RGs} (h1 : PDG X y e t) (h2 : PDGs X y es u) (hs : (assignEach (e :: es) X.env).map (·.2) = assign e X.env :: (assignEach es X.env).map (·.2) := by rfl) : PDGs X y (e :: es) (gCs t u) := PDGs.of (pgs_cons h1 h2 hs) fun vs σ H Q h => by
  obtain ⟨ds, ρ, S, R, dv, sr, so, h, k⟩ := h
  cases ds with
  | nil => exact h.elim
  | cons d r =>
    obtain ⟨v, ws, rfl, dv1, dv2⟩ := dv
    exact ⟨v, ws, rfl, d, ρ, S, _, dv1, sr, so, h, fun ρ1 S1 σ1 H1 g1 sr1 h1 => ⟨r, ρ1, S1, R, DVs.go g1 _ _ dv2, sr1, so.go g1, h1, fun ρ2 S2 σ2 H2 g2 sr2 h2 => k ρ2 S2 σ2 H2 (g1.trans g2) sr2 h2⟩⟩
def gTp (n : Nat) (t : RGs) : RG := fun d ρ S Q => match d with
  | .tup xs => xs.length = n ∧ t xs ρ S Q
  | _ => False
theorem pdg_tup {es : List Expr} {k : Nat} {t : RGs} {n : Nat} (hc : X.calm = true) (h : PDGs X y es t) (hn : (assignEach es X.env).length = n := by rfl) (hst : (assignEach es X.env).findIdx? (·.1) = none := by rfl) : PDG X y (.Tuple es k pos) (gTp n t) :=
  PDG.of (pg_tup hc h hn hst) fun v σ H Q h => by
    obtain ⟨d, ρ, S, R, dv, sr, so, h, k⟩ := h
    cases d with
    | tup xs =>
      obtain ⟨a, vs, rfl, q, r⟩ := dv
      exact ⟨a, vs, rfl, q.sq, r.length.symm.trans h.1, xs, ρ, S, R, r, sr, so, h.2, k⟩
    | _ => exact False.elim h
/-- o[i] = d, by values -/
abbrev RSet := D → D → D → Sto → (Sto → Prop) → Prop
def lset (K : PySem.W.Frag) (p : RSet) : TSet := fun o i v H Q => ∃ x k d S R, DV K H x o ∧ DV K H k i ∧ DV K H d v ∧ SOk K H S ∧ p x k d S R ∧ ∀ S' H', Go K H S H' S' → R S' → Q H'
def gSb (to ti : RE) (p : RSet) : RG := fun d ρ S Q => to ρ S fun o S1 => ti ρ S1 fun i S2 => p o i d S2 fun S3 => Q ρ S3
theorem pdg_sub {o i : Expr} {to ti : RE} {p : RSet} (hs : PSet X (lset X.K p)) (ho : PD X y o to) (hi : PD X y i ti)
    (ha : ∀ v, assign (.Subscript o i pos) X.env v = (do
      let ov ← holding [v] (eval o X.env)
      let iv ← holding [v, ov] (eval i X.env)
      standAt pos
      holding [v, ov, iv] (setItem ov iv v)
      release [v, ov, iv] []) := by intro _; rfl) : PDG X y (.Subscript o i pos) (gSb to ti p) := PDG.of (pg_sub ho hi hs ha) fun v σ H Q h => by
  obtain ⟨d, ρ, S, R, dv, sr, so, h, k⟩ := h
  refine ⟨ρ, S, _, sr, so, h, fun x S1 v1 H1 g1 dv1 h1 => ⟨ρ, S1, _, sr.go g1, so.go g1, h1, fun i S2 v2 H2 g2 dv2 h2 => ?_⟩⟩
  exact ⟨x, i, d, S2, _, DV.go g2 _ _ dv1, dv2, DV.go (g1.trans g2) _ _ dv, g2.ok, h2, fun S3 H3 g3 h3 => k ρ S3 σ H3 (g1.trans (g2.trans g3)) (sr.go (g1.trans (g2.trans g3))) h3⟩
def rAsg (te : RE) (g : RG) : RS := fun E ρ S => te ρ S fun d S1 => g d ρ S1 E.nx
theorem asg_of {te : RE} {g : RG} {D : Ends} {σ : L2.St} {H : Hp} (h : lS X.K y (rAsg te g) D σ H) : tAsg (lE X.K y te) (lG X.K y g) D σ H := by
  obtain ⟨ρ, S, E, sr, so, h, eo⟩ := h
  exact ⟨ρ, S, _, sr, so, h, fun d S1 v H1 g1 dv h1 => ⟨d, ρ, S1, _, dv, sr.go g1, so.go g1, h1, fun ρ2 S2 σ2 H2 g2 sr2 h2 => eo.nx ρ2 S2 σ2 H2 (g1.trans g2) sr2 h2⟩⟩
theorem pd_asg {tg : Expr} {g : RG} (he : PD X y e te) (hg : PDG X y tg g) (hs : swapsWithSole [tg] e pos.line X.env = pure false := by rfl) (hw : swappedStores [tg] e X.env = pure none := by rfl)
    (h1 : (assignEach [tg] X.env).map (·.2) = [assign tg X.env] := by rfl) : PDS X y (.Assign [tg] e pos) (rAsg te g) := PDS.of (ps_asg he hg hs hw h1) fun D σ H h => asg_of h
theorem pd_set (i : Nat) {x : Str} {pos' : Pos} (hN : X.N.Nodup) (he : PD X y e te) (hi : X.N[i]? = some x := by rfl) (hx : Loc X.env.scope x := by first | exact Or.inl rfl | exact Or.inr rfl) (hs : swapsWith e (some (.Name x pos')) pos.line X.env = pure false := by rfl) (hf : X.fn x = true ∨ X.env.scope.names.lookup x = some .local := by first | exact .inl rfl | exact .inr rfl) :
    PDS X y (.Assign [.Name x pos'] e pos) (rAsg te (gN i)) := PDS.of (ps_set hN hi hx he hs hf) fun D σ H h => by
  obtain ⟨ρ, S, E, sr, so, h, eo⟩ := h
  exact ⟨ρ, S, _, sr, so, h, fun d S1 v H1 g1 dv h1 => eo.nx _ S1 _ H1 g1 ((sr.go g1).set dv i) h1⟩
/-- a, b = x, y with plain local names -/
def rPar (i j : Nat) (ta : RA) : RS := fun E ρ S => ta ρ S fun ds S1 => match ds with
  | [d, e] => E.nx ((ρ.set i (some d)).set j (some e)) S1
  | _ => False
theorem pd_par (i j : Nat) {x z : Str} {a b : Expr} {ta : RA} {px py pt : Pos} {kt k2 pt2} (hc : X.calm = true) (hN : X.N.Nodup) (ha : PDA X y [a, b] ta)
    (hw : swappedStores [.Tuple [.Name x px, .Name z py] kt pt] (.Tuple [a, b] k2 pt2) X.env = pure (some [x, z]))
    (hi : X.N[i]? = some x := by rfl) (hj : X.N[j]? = some z := by rfl) (hij : i ≠ j := by decide)
    (hx : X.env.scope.names.lookup x = some .local := by rfl) (hy : X.env.scope.names.lookup z = some .local := by rfl)
    (hs : swapsWithSole [.Tuple [.Name x px, .Name z py] kt pt] (.Tuple [a, b] k2 pt2) pos.line X.env = pure false := by rfl) :
    PDS X y (.Assign [.Tuple [.Name x px, .Name z py] kt pt] (.Tuple [a, b] k2 pt2) pos) (rPar i j ta) := PDS.of (ps_par hc hN hi hj hij hx hy ha hw hs) fun D σ H h => by
  obtain ⟨ρ, S, E, sr, so, h, eo⟩ := h
  refine ⟨ρ, S, _, sr, so, h, fun ds S1 vs H1 g1 dvs hn h1 => ?_⟩
  match ds, dvs, h1 with
  | [d, e], dvs, h1 =>
    obtain ⟨v, ws, rfl, dv1, v2, ws2, rfl, dv2, q⟩ := dvs
    cases (show ws2 = [] from q)
    exact ⟨v, v2, rfl, eo.nx _ S1 _ H1 g1 (((sr.go g1).set dv1 i).set dv2 j) h1⟩
  | [], _, h1 => exact h1.elim
  | [_], _, h1 => exact h1.elim
  | _ :: _ :: _ :: _, _, h1 => exact h1.elim

/-! ### while, for -/
def rWhile (c : RT) (tb : RS) : RS := fun E ρ S => ∃ W : Nat → Ro → Sto → Prop, (∃ m, W m ρ S) ∧ ∀ m ρ S, W m ρ S →
  c ρ S fun b S1 => IFB b (tb { E with nx := fun ρ' S' => ∃ m', m' < m ∧ W m' ρ' S', ct := fun ρ' S' => ∃ m', m' < m ∧ W m' ρ' S', bk := E.nx } ρ S1) (E.nx ρ S1)
theorem pd_while {c : Expr} {body : List Stmt} {tc : RT} {tb : RS} (hp : PassesOwn (model X.prog X.w) X.A X.env X.xe) (hc : PDT X y c tc) (hb : PDSs X y body tb) : PDS X y (.While c body [] pos) (rWhile tc tb) := PDS.of (ps_while hp hc hb) fun D σ H h => by
  obtain ⟨ρ, S, E, sr, so, ⟨W, ⟨m, hW⟩, hs⟩, eo⟩ := h
  refine ⟨fun m σ1 H1 => ∃ ρ1 S1, Go X.K H S H1 S1 ∧ SRv X.K σ1 H1 ρ1 ∧ W m ρ1 S1, ⟨m, ρ, S, Go.refl so.so, sr, hW⟩, ?_⟩
  rintro m σ1 H1 ⟨ρ1, S1, g1, sr1, w1⟩
  refine ⟨ρ1, S1, _, sr1, so.go g1, hs m ρ1 S1 w1, fun b S2 H2 g2 q => ?_⟩
  refine ite_of_IFB q (fun z => ⟨fun σ3 H3 => ∃ m', m' < m ∧ ∃ ρ3 S3, Go X.K H S H3 S3 ∧ SRv X.K σ3 H3 ρ3 ∧ W m' ρ3 S3, fun σ3 H3 h => h, ρ1, S2, _, sr1.go g2, so.go (g1.trans g2), z, ?_⟩) fun z => eo.nx ρ1 S2 σ1 H2 (g1.trans g2) (sr1.go g2) z
  have eo2 := eo.go (g1.trans g2)
  refine ⟨fun ρ3 S3 σ3 H3 g3 sr3 ⟨m', hm, w⟩ => ⟨m', hm, ρ3, S3, (g1.trans g2).trans g3, sr3, w⟩, eo2.rt, eo2.nx, fun ρ3 S3 σ3 H3 g3 sr3 ⟨m', hm, w⟩ => ⟨m', hm, ρ3, S3, (g1.trans g2).trans g3, sr3, w⟩⟩
/-- what is walked: its items; while src stands it goes on so -/
abbrev RI := Ro → Sto → (List D → (Sto → Prop) → Sto → Prop) → Prop
def JOk (K : PySem.W.Frag) (H1 : Hp) (S1 : Sto) (J : It) (xs : List D) (src : Sto → Prop) : Prop :=
  ∀ i H S, Go K H1 S1 H S → src S → (∀ x, xs[i]? = some x → J.go i H ∧ ∀ v H', J.yld i H v H' → Go K H S H' S ∧ DV K H' x v) ∧ (xs[i]? = none → J.stop i H)
def lI (K : PySem.W.Frag) (y : DXw) (wi : RI) : TI := fun σ H R => ∃ ρ S Rd, SRv K σ H ρ ∧ SX K y H S ∧ wi ρ S Rd ∧ ∀ xs src S1 J H1, Go K H S H1 S1 → JOk K H1 S1 J xs src → Rd xs src S1 → R J H1
def PDI (X : Cx) (y : DXw) (tg iter : Expr) (wi : RI) : Prop := PI X tg iter (lI X.K y wi)
theorem PDI.of {tg iter : Expr} {t0 : TI} {t : RI} (h : PI X tg iter t0) (w : ∀ σ H R, lI X.K y t σ H R → t0 σ H R) : PDI X y tg iter t := ⟨fun pins s σ H R I q => h.run pins s σ H R I (w σ H R q)⟩
/-- the turns: W says what holds ahead of turn i -/
def rFor (wi : RI) (g : RG) (tb : RS) : RS := fun E ρ S => wi ρ S fun xs src S1 => ∃ W : Nat → Ro → Sto → Prop, W 0 ρ S1 ∧ ∀ i ρ' S', W i ρ' S' → src S' ∧
  (∀ x, xs[i]? = some x → g x ρ' S' fun ρ2 S2 => tb { E with nx := W (i + 1), ct := W (i + 1), bk := E.nx } ρ2 S2) ∧ (i = xs.length → E.nx ρ' S')
theorem pd_for {tg iter : Expr} {body : List Stmt} {wi : RI} {g : RG} {tb : RS} (hp : PassesOwn (model X.prog X.w) X.A X.env X.xe) (hc : X.calm = true) (hi : PDI X y tg iter wi) (hg : PDG X y tg g) (hb : PDSs X y body tb) (hs : ∀ x, foldedSetIterable iter X.env x = pure x := by intro _; rfl) : PDS X y (.For tg iter body [] pos) (rFor wi g tb) :=
  PDS.of (ps_for hp hc hi hg hb hs) fun D σ H h => by
  obtain ⟨ρ, S, E, sr, so, h, eo⟩ := h
  refine ⟨ρ, S, _, sr, so, h, fun xs src S1 J H1 g1 jo ⟨W, w0, hs⟩ => ?_⟩
  refine ⟨fun i m σ2 H2 => ∃ ρ2 S2, m = xs.length - i ∧ i ≤ xs.length ∧ Go X.K H1 S1 H2 S2 ∧ SRv X.K σ2 H2 ρ2 ∧ W i ρ2 S2, ⟨_, ρ, S1, rfl, Nat.zero_le _, Go.refl g1.ok, sr.go g1, w0⟩, ?_⟩
  rintro i m σ2 H2 ⟨ρ2, S2, rfl, hi, g2, sr2, w2⟩
  obtain ⟨hsrc, hturn, hend⟩ := hs i ρ2 S2 w2
  obtain ⟨j1, j2⟩ := jo i H2 S2 g2 hsrc
  by_cases hlt : i < xs.length
  · have hx : xs[i]? = some xs[i] := List.getElem?_eq_getElem hlt
    obtain ⟨jg, jy⟩ := j1 _ hx
    refine .inr ⟨jg, fun σ3 H3 => ∃ ρ3 S3, Go X.K H1 S1 H3 S3 ∧ SRv X.K σ3 H3 ρ3 ∧ W (i + 1) ρ3 S3, fun σ3 H3 ⟨ρ3, S3, g3, sr3, w3⟩ => ⟨xs.length - (i + 1), by omega, ρ3, S3, rfl, hlt, g3, sr3, w3⟩, fun v H3 hy => ?_⟩
    obtain ⟨g3, dv⟩ := jy v H3 hy
    have gA := g1.trans (g2.trans g3)
    refine ⟨xs[i], ρ2, S2, _, dv, sr2.go g3, so.go gA, hturn _ hx, fun ρ4 S4 σ4 H4 g4 sr4 h4 => ?_⟩
    refine ⟨ρ4, S4, _, sr4, so.go (gA.trans g4), h4, ?_⟩
    have eo2 := eo.go (gA.trans g4)
    have gB := (g2.trans g3).trans g4
    exact ⟨fun ρ5 S5 σ5 H5 g5 sr5 h5 => ⟨ρ5, S5, gB.trans g5, sr5, h5⟩, eo2.rt, eo2.nx, fun ρ5 S5 σ5 H5 g5 sr5 h5 => ⟨ρ5, S5, gB.trans g5, sr5, h5⟩⟩
  · have e : i = xs.length := by omega
    subst e
    exact .inl ⟨j2 (by simp), eo.nx ρ2 S2 σ2 H2 (g1.trans g2) sr2 (hend rfl)⟩

/-! ### what a for or a comprehension walks -/
/-- a list in the store, a list that never changes, a tuple -/
def rIt (t : RE) : RI := fun ρ S R => t ρ S fun d S1 => match d with
  | .tup xs => R xs (fun _ => True) S1
  | _ => ∃ xs, RdL S1 d xs ∧ R xs (fun S' => RdL S' d xs) S1
theorem jok_list {K : PySem.W.Frag} {H1 : Hp} {S1 : Sto} {d : D} {v : V} {a : Addr} {xs : List D} (dv : DV K H1 d v) (e : v = .ref a) : JOk K H1 S1 (Itl K a) xs (fun S' => RdL S' d xs) := by
  intro i H S g hr
  obtain ⟨a', vs, e1, q, r⟩ := RdL.sq g.ok hr (DV.go g _ _ dv)
  rw [e] at e1
  cases e1
  refine ⟨fun x hx => ?_, fun hn => ⟨vs, q, ?_⟩⟩
  · obtain ⟨w, hw, rw'⟩ := r.get hx
    exact ⟨⟨vs, w, q, hw⟩, fun v' H' hy => by
      obtain ⟨rfl, hy⟩ := hy
      have := hy vs q
      rw [hw] at this
      cases this
      exact ⟨Go.refl g.ok, rw'⟩⟩
  · rw [← r.length]
    exact List.getElem?_eq_none_iff.mp hn
theorem jok_tup {K : PySem.W.Frag} {H1 : Hp} {S1 : Sto} {a : Addr} {xs : List D} {vs : List V} (q : StT K H1 a vs) (r : DVs K H1 xs vs) : JOk K H1 S1 (Itt K a) xs (fun _ => True) := by
  intro i H S g _
  have q := g.tup q
  have r := DVs.go g _ _ r
  refine ⟨fun x hx => ?_, fun hn => ⟨vs, q.sq, ?_⟩⟩
  · obtain ⟨w, hw, rw'⟩ := r.get hx
    exact ⟨⟨vs, w, q.sq, hw⟩, fun v' H' hy => by
      obtain ⟨rfl, hy⟩ := hy
      have := hy vs q.sq
      rw [hw] at this
      cases this
      exact ⟨Go.refl g.ok, rw'⟩⟩
  · rw [← r.length]
    exact List.getElem?_eq_none_iff.mp hn
end
end DL
set_option Elab.async false
set_option linter.all false
set_option maxRecDepth 100000
set_option maxHeartbeats 4000000
namespace DL
open PySem PySem.Spec PyProof.Rows L2
section
variable {X : Cx} {y : DXw} {pos : Pos} {e : Expr} {es : List Expr}

/-! ### walks -/
theorem it_list {pins : List (Addr × Obj)} {σ : L2.St} {H : Hp} {s : Shared} {tg : Expr} {R : It → Hp → Prop} {E : Value → Shared → Prop} {a : Addr} {vs : List V} (I : Inv X pins σ H s) (hq : SqL X.K H a vs) (q : R (Itl X.K a) H) :
    wpAny (model X.prog X.w) X.A (pyIter (.ref a)) (PIE X pins σ tg R) E s := by
  obtain ⟨its, rv, p, hz⟩ := I.list hq
  refine wpAny_pyIter_list p.isList ?_
  refine ⟨s.heap.objs.size, [s.heap.objs.size], _, _, H, rfl, I.kept (t' := s.toks) fun b o e => Heap.get?_push_of_some _ e, turn_list a _, ⟨_, Heap.get?_push_size _ rfl, rfl, rfl⟩, fun b hb => ?_, q⟩
  have e : b = s.heap.objs.size := by simpa using hb
  subst e
  exact I.fpOk (Nat.le_refl _) (I.hok.fresh (Nat.le_refl _))
theorem it_tup {pins : List (Addr × Obj)} {σ : L2.St} {H : Hp} {s : Shared} {tg : Expr} {R : It → Hp → Prop} {E : Value → Shared → Prop} {a : Addr} {vs : List V} (I : Inv X pins σ H s) (hq : SqT X.K H a vs) (q : R (Itt X.K a) H) :
    wpAny (model X.prog X.w) X.A (pyIter (.ref a)) (PIE X pins σ tg R) E s := by
  obtain ⟨its, rv, p, hz⟩ := I.tuple hq
  refine wpAny_pyIter_tuple (show s.heap.IsTuple a its.toArray from p) ?_
  refine ⟨s.heap.objs.size, [s.heap.objs.size], _, _, H, rfl, I.kept (t' := s.toks) fun b o e => Heap.get?_push_of_some _ e, turn_tuple a _, ⟨_, Heap.get?_push_size _ rfl, rfl, rfl⟩, fun b hb => ?_, q⟩
  have e : b = s.heap.objs.size := by simpa using hb
  subst e
  exact I.fpOk (Nat.le_refl _) (I.hok.fresh (Nat.le_refl _))
theorem pdi_it {tg l : Expr} {t : RE} (hl : PD X y l t) : PDI X y tg l (rIt t) := by
  refine ⟨fun pins s σ H R I h => ?_⟩
  obtain ⟨ρ, S, Rd, sr, so, h, k⟩ := h
  refine thn (hl.run pins s σ H (fun v H1 => ∃ d S1, Go X.K H S H1 S1 ∧ DV X.K H1 d v ∧ (match d with
    | .tup xs => Rd xs (fun _ => True) S1
    | _ => ∃ xs, RdL S1 d xs ∧ Rd xs (fun S' => RdL S' d xs) S1)) I ⟨ρ, S, _, sr, so, h, fun d S1 v H1 g dv q => ⟨d, S1, g, dv, q⟩⟩) fun u s1 ⟨v, H1, I1, r1, d, S1, g, dv, q⟩ => ?_
  have lst : ∀ xs, RdL S1 d xs → Rd xs (fun S' => RdL S' d xs) S1 → wpAny (model X.prog X.w) X.A (pyIter u) (PIE X pins σ tg R) X.xe s1 := fun xs hx q => by
    obtain ⟨a, vs, rfl, hq, r⟩ := RdL.sq g.ok hx dv
    cases (show u = Value.ref a from r1)
    exact it_list I1 hq (k _ _ _ _ _ g (jok_list dv rfl) q)
  cases d with
  | tup xs =>
    obtain ⟨a, vs, rfl, hq, r⟩ := dv
    cases (show u = Value.ref a from r1)
    exact it_tup I1 hq.sq (k _ _ _ _ _ g (jok_tup hq r) q)
  | _ => obtain ⟨xs, h1, h2⟩ := q; exact lst xs h1 h2
/-- range -/
def rgI (lo : Int) (n : Nat) : List D := (List.range n).map fun (i : Nat) => D.int (lo + (i : Int))
theorem rgI_len {lo : Int} {n : Nat} : (rgI lo n).length = n := by unfold rgI; simp
theorem rgI_get {lo : Int} {n i : Nat} (h : i < n) : (rgI lo n)[i]? = some (D.int (lo + (i : Int))) := by unfold rgI; simp [h]
theorem rgI_inv {lo : Int} {n i : Nat} {x : D} (h : (rgI lo n)[i]? = some x) : i < n ∧ x = D.int (lo + (i : Int)) := by
  have hl := (List.getElem?_eq_some_iff.mp h).1
  rw [rgI_len] at hl
  rw [rgI_get hl] at h
  exact ⟨hl, (Option.some.inj h).symm⟩
theorem jok_range {K : PySem.W.Frag} {H1 : Hp} {S1 : Sto} {lo : Int} {n : Nat} : JOk K H1 S1 (Itr lo n) (rgI lo n) (fun _ => True) := by
  intro i H S g _
  refine ⟨fun x hx => ?_, fun hn => ?_⟩
  · obtain ⟨hl, rfl⟩ := rgI_inv hx
    exact ⟨hl, fun v H' ⟨e1, e2⟩ => by subst e1 e2; exact ⟨Go.refl g.ok, rfl⟩⟩
  · have := List.getElem?_eq_none_iff.mp hn
    rw [rgI_len] at this
    exact this
def rRng1 (ta : RA) : RI := fun ρ S R => ta ρ S fun ds S1 => match ds with
  | [.int j] => (j < 2 ^ 62 ∧ -(2 ^ 62) ≤ j) ∧ R (rgI 0 j.toNat) (fun _ => True) S1
  | _ => False
def rRng2 (ta : RA) : RI := fun ρ S R => ta ρ S fun ds S1 => match ds with
  | [.int i, .int j] => (-(2 ^ 62) ≤ i ∧ i < 2 ^ 62 ∧ -(2 ^ 62) ≤ j ∧ j < 2 ^ 62) ∧ R (rgI i (j - i).toNat) (fun _ => True) S1
  | _ => False
theorem pdi_range1 {tg a : Expr} {ta : RA} {p : Pos} (hm : X.mg "range" = none) (ha : PDA X y [a] ta) (hg : Gl X "range" := by rfl) (hs : starEach [a] X.env = [(false, eval a X.env)] := by rfl) : PDI X y tg (.Call (.Name "range" p) [a] [] pos) (rRng1 ta) := by
  refine PDI.of (pi_range1 hg hm ha hs) fun σ H R h => ?_
  obtain ⟨ρ, S, Rd, sr, so, h, k⟩ := h
  refine ⟨ρ, S, _, sr, so, h, fun ds S1 vs H1 g dvs hn h1 => ?_⟩
  split at h1
  · rename_i j
    obtain ⟨v, ws, rfl, dv, q⟩ := dvs
    cases (show ws = [] from q)
    cases (show v = V.int j from dv)
    exact ⟨j, rfl, h1.1.2, h1.1.1, k _ _ _ _ _ g jok_range h1.2⟩
  · exact h1.elim
theorem pdi_range2 {tg a b : Expr} {ta : RA} {p : Pos} (hm : X.mg "range" = none) (ha : PDA X y [a, b] ta) (hg : Gl X "range" := by rfl) (hs : starEach [a, b] X.env = [(false, eval a X.env), (false, eval b X.env)] := by rfl) (hs2 : starEach [b] X.env = [(false, eval b X.env)] := by rfl) : PDI X y tg (.Call (.Name "range" p) [a, b] [] pos) (rRng2 ta) := by
  refine PDI.of (pi_range2 hg hm ha hs hs2) fun σ H R h => ?_
  obtain ⟨ρ, S, Rd, sr, so, h, k⟩ := h
  refine ⟨ρ, S, _, sr, so, h, fun ds S1 vs H1 g dvs hn h1 => ?_⟩
  split at h1
  · rename_i i j
    obtain ⟨v, ws, rfl, dv, v2, ws2, rfl, dv2, q⟩ := dvs
    cases (show ws2 = [] from q)
    cases (show v = V.int i from dv)
    cases (show v2 = V.int j from dv2)
    exact ⟨i, j, rfl, h1.1, k _ _ _ _ _ g jok_range h1.2⟩
  · exact h1.elim

/-! ### comprehensions -/
def dwipe (ρ : Ro) : List Nat → Ro
  | [] => ρ
  | v :: vs => (dwipe ρ vs).set v none
theorem dwipe_length (ρ : Ro) : ∀ vs : List Nat, (dwipe ρ vs).length = ρ.length
  | [] => rfl
  | v :: vs => by unfold dwipe; rw [List.length_set, dwipe_length ρ vs]
theorem dwipe_some {ρ : Ro} {i : Nat} {x : D} : ∀ {vs : List Nat}, (dwipe ρ vs)[i]? = some (some x) → ρ[i]? = some (some x) ∧ i ∉ vs
  | [], h => ⟨h, by simp⟩
  | v :: vs, h => by
    unfold dwipe at h
    by_cases hi : v = i
    · subst hi
      by_cases hv : v < (dwipe ρ vs).length
      · rw [List.getElem?_set_self hv] at h; cases h
      · rw [List.getElem?_eq_none (by simpa using hv)] at h; cases h
    · rw [List.getElem?_set_ne hi] at h
      obtain ⟨h1, h2⟩ := dwipe_some h
      exact ⟨h1, by simp only [List.mem_cons, not_or]; exact ⟨fun e => hi e.symm, h2⟩⟩
theorem wipe_out' {σ : L2.St} {i : Nat} : ∀ {vs : List Nat}, i ∉ vs → (wipe σ vs)[i]? = σ[i]?
  | [], _ => rfl
  | v :: vs, h => by
    simp only [List.mem_cons, not_or] at h
    unfold wipe
    rw [List.getElem?_set_ne (Ne.symm h.1)]
    exact wipe_out' h.2
theorem SRv.wipe {K : PySem.W.Frag} {σ : L2.St} {H : Hp} {ρ : Ro} (r : SRv K σ H ρ) (vs : List Nat) : SRv K (L2.wipe σ vs) H (dwipe ρ vs) :=
  ⟨by rw [dwipe_length, wipe_length]; exact r.1, fun i d e => by
    obtain ⟨e1, hn⟩ := dwipe_some e
    obtain ⟨v, e2, q⟩ := r.2 i d e1
    exact ⟨v, by rw [wipe_out' hn]; exact e2, q⟩⟩
theorem wipe_set {σ : L2.St} {i : Nat} {o : Option V} : ∀ {vs : List Nat}, i ∈ vs → L2.wipe (σ.set i o) vs = L2.wipe σ vs
  | v :: vs, h => by
    have gen : ∀ (vs : List Nat), L2.wipe (σ.set i o) vs = (if i ∈ vs then L2.wipe σ vs else (L2.wipe σ vs).set i o) := by
      intro vs
      induction vs with
      | nil => simp [L2.wipe]
      | cons w ws ih =>
        unfold L2.wipe
        rw [ih]
        by_cases hw : i ∈ ws
        · rw [if_pos hw, if_pos (List.mem_cons_of_mem _ hw)]
        · rw [if_neg hw]
          by_cases hi : i = w
          · subst hi
            rw [if_pos (by simp), List.set_set]
          · rw [if_neg (by simp [hi, hw]), List.set_comm _ _ hi]
    rw [gen, if_pos h]
/-- a comprehension's targets: names, tuples of names -/
inductive Pat where
  | n (i : Nat)
  | t (ps : List Pat)
mutual
def Pat.g (K : PySem.W.Frag) : Pat → TG
  | .n i => gName i
  | .t ps => gTup K ps.length (Pat.gs K ps)
def Pat.gs (K : PySem.W.Frag) : List Pat → TGs
  | [] => gNil
  | p :: ps => gCons (Pat.g K p) (Pat.gs K ps)
end
mutual
def Pat.put : Pat → D → Ro → (Ro → Prop) → Prop
  | .n i, d, ρ, k => k (ρ.set i (some d))
  | .t ps, d, ρ, k => match d with
    | .tup xs => Pat.puts ps xs ρ k
    | _ => False
def Pat.puts : List Pat → List D → Ro → (Ro → Prop) → Prop
  | [], ds, ρ, k => match ds with
    | [] => k ρ
    | _ => False
  | p :: ps, ds, ρ, k => match ds with
    | d :: ds => Pat.put p d ρ fun ρ' => Pat.puts ps ds ρ' k
    | [] => False
end
mutual
def Pat.all (vs : List Nat) : Pat → Bool
  | .n i => vs.contains i
  | .t ps => Pat.alls vs ps
def Pat.alls (vs : List Nat) : List Pat → Bool
  | [] => true
  | p :: ps => Pat.all vs p && Pat.alls vs ps
end
theorem puts_len : ∀ {ps : List Pat} {ds : List D} {ρ : Ro} {k : Ro → Prop}, Pat.puts ps ds ρ k → ps.length = ds.length ∨ True := fun _ => .inr trivial
mutual
theorem Pat.ok {K : PySem.W.Frag} {vs : List Nat} {H : Hp} {Q : L2.St → Hp → Prop} : ∀ (p : Pat) (d : D) (v : V) (σ : L2.St) (ρ : Ro) (k : Ro → Prop), Pat.all vs p = true → DV K H d v → SRv K σ H ρ → Pat.put p d ρ k →
    (∀ ρ' σ', SRv K σ' H ρ' → L2.wipe σ' vs = L2.wipe σ vs → k ρ' → Q σ' H) → Pat.g K p v σ H Q
  | .n i, d, v, σ, ρ, k, ha, dv, sr, h, hk => by
    refine hk _ _ (sr.set dv i) (wipe_set (by simpa [Pat.all] using ha)) h
  | .t ps, d, v, σ, ρ, k, ha, dv, sr, h, hk => by
    cases d with
    | tup xs =>
      obtain ⟨a, ws, rfl, q, r⟩ := dv
      obtain ⟨hl, hh⟩ := Pat.oks ps xs ws σ ρ k (by simpa [Pat.all] using ha) r sr h hk
      exact ⟨a, ws, rfl, q.sq, hl.symm, hh⟩
    | _ => exact False.elim h
theorem Pat.oks {K : PySem.W.Frag} {vs : List Nat} {H : Hp} {Q : L2.St → Hp → Prop} : ∀ (ps : List Pat) (ds : List D) (us : List V) (σ : L2.St) (ρ : Ro) (k : Ro → Prop), Pat.alls vs ps = true → DVs K H ds us → SRv K σ H ρ → Pat.puts ps ds ρ k →
    (∀ ρ' σ', SRv K σ' H ρ' → L2.wipe σ' vs = L2.wipe σ vs → k ρ' → Q σ' H) → ps.length = us.length ∧ Pat.gs K ps us σ H Q
  | [], ds, us, σ, ρ, k, ha, dv, sr, h, hk => by
    cases ds with
    | nil =>
      cases (show us = [] from dv)
      exact ⟨rfl, rfl, hk ρ σ sr rfl h⟩
    | cons _ _ => exact False.elim h
  | p :: ps, ds, us, σ, ρ, k, ha, dv, sr, h, hk => by
    cases ds with
    | nil => exact False.elim h
    | cons d ds =>
      obtain ⟨v, ws, rfl, dv1, dv2⟩ := dv
      have ha2 : Pat.all vs p = true ∧ Pat.alls vs ps = true := by simpa [Pat.alls] using ha
      -- the length is told by any run of the rest
      have key := Pat.ok (K := K) (vs := vs) (H := H) (Q := fun σ' H' => H' = H ∧ ps.length = ws.length ∧ Pat.gs K ps ws σ' H Q) p d v σ ρ (fun ρ' => Pat.puts ps ds ρ' k) ha2.1 dv1 sr h (fun ρ' σ' sr' hw h' => by
        obtain ⟨hl, hg⟩ := Pat.oks ps ds ws σ' ρ' k ha2.2 dv2 sr' h' (fun ρ'' σ'' sr'' hw' h'' => hk ρ'' σ'' sr'' (hw'.trans hw) h'')
        exact ⟨rfl, hl, hg⟩)
      have len : ps.length = ws.length := by
        have dl := dv2.length
        rw [← dl]
        -- from the D-level readings
        exact Pat.lens ps ds p d ρ k h
      refine ⟨by simp [len], v, ws, rfl, ?_⟩
      exact Pat.mono p v σ H _ _ (fun σ' H' q => by obtain ⟨e, _, q⟩ := q; rw [e]; exact q) key
theorem Pat.lens : ∀ (ps : List Pat) (ds : List D) (p : Pat) (d : D) (ρ : Ro) (k : Ro → Prop), Pat.put p d ρ (fun ρ' => Pat.puts ps ds ρ' k) → ps.length = ds.length := by
  intro ps ds p d ρ k h
  have h2 : ∃ ρ', Pat.puts ps ds ρ' k := Pat.exi p d ρ _ h
  obtain ⟨ρ', h2⟩ := h2
  exact Pat.len2 ps ds ρ' k h2
theorem Pat.exi : ∀ (p : Pat) (d : D) (ρ : Ro) (k : Ro → Prop), Pat.put p d ρ k → ∃ ρ', k ρ'
  | .n i, d, ρ, k, h => ⟨_, h⟩
  | .t ps, d, ρ, k, h => by
    cases d with
    | tup xs => exact Pat.exis ps xs ρ k h
    | _ => exact False.elim h
theorem Pat.exis : ∀ (ps : List Pat) (ds : List D) (ρ : Ro) (k : Ro → Prop), Pat.puts ps ds ρ k → ∃ ρ', k ρ'
  | [], ds, ρ, k, h => by
    cases ds with
    | nil => exact ⟨_, h⟩
    | cons _ _ => exact False.elim h
  | p :: ps, ds, ρ, k, h => by
    cases ds with
    | nil => exact False.elim h
    | cons d ds =>
      obtain ⟨ρ', h'⟩ := Pat.exi p d ρ _ h
      exact Pat.exis ps ds ρ' k h'
theorem Pat.len2 : ∀ (ps : List Pat) (ds : List D) (ρ : Ro) (k : Ro → Prop), Pat.puts ps ds ρ k → ps.length = ds.length
  | [], ds, ρ, k, h => by
    cases ds with
    | nil => rfl
    | cons _ _ => exact False.elim h
  | p :: ps, ds, ρ, k, h => by
    cases ds with
    | nil => exact False.elim h
    | cons d ds =>
      obtain ⟨ρ', h'⟩ := Pat.exi p d ρ _ h
      simp [Pat.len2 ps ds ρ' k h']
theorem Pat.mono {K : PySem.W.Frag} : ∀ (p : Pat) (v : V) (σ : L2.St) (H : Hp) (Q Q' : L2.St → Hp → Prop), (∀ σ' H', Q σ' H' → Q' σ' H') → Pat.g K p v σ H Q → Pat.g K p v σ H Q'
  | .n i, v, σ, H, Q, Q', m, h => m _ _ h
  | .t ps, v, σ, H, Q, Q', m, h => by
    obtain ⟨a, xs, e, q, l, h⟩ := h
    exact ⟨a, xs, e, q, l, Pat.monos ps xs σ H Q Q' m h⟩
theorem Pat.monos {K : PySem.W.Frag} : ∀ (ps : List Pat) (vs : List V) (σ : L2.St) (H : Hp) (Q Q' : L2.St → Hp → Prop), (∀ σ' H', Q σ' H' → Q' σ' H') → Pat.gs K ps vs σ H Q → Pat.gs K ps vs σ H Q'
  | [], vs, σ, H, Q, Q', m, h => ⟨h.1, m _ _ h.2⟩
  | p :: ps, vs, σ, H, Q, Q', m, h => by
    obtain ⟨v, r, e, h⟩ := h
    exact ⟨v, r, e, Pat.mono p v σ H _ _ (fun σ' H' q => Pat.monos ps r σ' H' Q Q' m q) h⟩
end

def PDTs (X : Cx) (y : DXw) (ifs : List Expr) (t : RT) : Prop := PTs X ifs (lT X.K y t)
def rYes : RT := fun _ S Q => Q true S
theorem pdts_nil : PDTs X y [] rYes := ⟨fun pins s σ H Q I h => by
  obtain ⟨ρ, S, R, sr, so, h, k⟩ := h
  exact pts_nil.run pins s σ H Q I (k true S H (Go.refl so.so) h)⟩
theorem pdts_one {c : Expr} {t : RT} (h : PDT X y c t) : PDTs X y [c] t := pts_one h
/-- no exception is wanted -/
def y0 : DXw := ⟨fun _ _ _ _ => False, fun _ _ _ _ => False⟩
theorem sx0 {K : PySem.W.Frag} {H : Hp} {S : Sto} (h : SOk K H S) : SX K y0 H S := ⟨h, fun _ _ _ _ _ _ _ _ _ _ _ _ z => z⟩
def rLc (wi : RI) (p : Pat) (tt : RT) (te : RE) (vs : List Nat) : RE := fun ρ S Q => wi ρ S fun xs src S1 => ∃ W : Nat → List D → Sto → Prop, W 0 [] S1 ∧ ∀ i acc S', W i acc S' → src S' ∧
  (∀ x, xs[i]? = some x → Pat.put p x (dwipe ρ vs) fun ρ2 => tt ρ2 S' fun b S3 => IFB b (te ρ2 S3 fun d S4 => acc.length < sizeLine ∧ W (i + 1) (acc ++ [d]) S4) (W (i + 1) acc S3)) ∧
  (i = xs.length → ∀ p, S' p = none → Q (.ref p) (sup S' p (.lst acc)))
theorem lc_of {wi : RI} {p : Pat} {tt : RT} {te : RE} {vs : List Nat} {σ : L2.St} {H : Hp} {Q : VK} (ha : Pat.all vs p = true) (h : lE X.K y (rLc wi p tt te vs) σ H Q) : tLc (lI X.K y wi) (Pat.g X.K p) (lT X.K y0 tt) (lE X.K y0 te) vs σ H Q := by
  obtain ⟨ρ, S, R, sr, so, h, k⟩ := h
  refine ⟨ρ, S, _, sr, so, h, fun xs src S1 J H1 g1 jo ⟨W, w0, hs⟩ D hD => ?_⟩
  -- the new list lies beside the store
  have base : ∀ {H2 : Hp} {S2 : Sto} {ws : List V}, Go X.K H1 S1 H2 S2 → H2 D = some (.lst ws) → S2 D = none → True := fun _ _ _ => trivial
  have gD := Go.new (K := X.K) (o := .lst []) g1.ok hD
  have swap : ∀ {H2 : Hp} {S2 : Sto} {ws ws' : List V}, SOk X.K H2 S2 → S2 D = none → H2 D = some (.lst ws) → SOk X.K (upd H2 D (.lst ws')) S2 := fun {H2 S2 ws ws'} so2 e e2 a c q => by
    have ne : a ≠ D := fun z => by rw [z, e] at q; cases q
    have := so2 a c q
    cases c with
    | lst xs => obtain ⟨us, e1, r⟩ := this; exact ⟨us, by rw [upd_ne ne]; exact e1, DVs.wr e2 (.inl ⟨_, rfl⟩) _ _ r⟩
    | dK kvs => obtain ⟨us, e1, r⟩ := this; exact ⟨us, by rw [upd_ne ne]; exact e1, DKs.wr e2 (.inl ⟨_, rfl⟩) r⟩
    | dN kvs => obtain ⟨us, e1, n, r⟩ := this; exact ⟨us, by rw [upd_ne ne]; exact e1, n, DKN.wr e2 (.inl ⟨_, rfl⟩) r⟩
  -- what stands beside the store, but the new list, from H1 on
  refine ⟨fun i m H2 => ∃ S2 acc ws, m = xs.length - i ∧ i ≤ xs.length ∧ Go X.K H1 S1 H2 S2 ∧ H2 D = some (.lst ws) ∧ S2 D = none ∧ DVs X.K H2 acc ws ∧ W i acc S2, ⟨_, S1, [], [], rfl, Nat.zero_le _, gD, upd_same, g1.ok.free hD, DVs.nil, w0⟩, ?_⟩
  rintro i m H2 ⟨S2, acc, ws, rfl, hi, g2, hD2, sD2, r2, w2⟩
  obtain ⟨hsrc, hturn, hend⟩ := hs i acc S2 w2
  obtain ⟨j1, j2⟩ := jo i H2 S2 g2 hsrc
  by_cases hlt : i < xs.length
  · have hx : xs[i]? = some xs[i] := List.getElem?_eq_getElem hlt
    obtain ⟨jg, jy⟩ := j1 _ hx
    refine .inr ⟨jg, fun H3 => ∃ S3 acc3 ws3, Go X.K H1 S1 H3 S3 ∧ H3 D = some (.lst ws3) ∧ S3 D = none ∧ DVs X.K H3 acc3 ws3 ∧ W (i + 1) acc3 S3, fun H3 ⟨S3, acc3, ws3, g3, a1, a2, a3, a4⟩ => ⟨xs.length - (i + 1), by omega, S3, acc3, ws3, rfl, hlt, g3, a1, a2, a3, a4⟩, fun v H3 hy => ?_⟩
    obtain ⟨g3, dv⟩ := jy v H3 hy
    have gA := g2.trans g3
    have hD3 : H3 D = some (.lst ws) := g3.frame D _ sD2 hD2
    refine Pat.ok p _ v _ _ _ ha dv (((sr.go g1).go gA).wipe vs) (hturn _ hx) fun ρ3 σ3 sr3 hw h3 => ⟨by
      have e : ∀ (l : List Nat), L2.wipe (L2.wipe σ l) l = L2.wipe σ l := by
        intro l
        have gen : ∀ (l l' : List Nat), (∀ i ∈ l, i ∈ l') → L2.wipe (L2.wipe σ l') l = L2.wipe σ l' := by
          intro l
          induction l with
          | nil => intro l' _; rfl
          | cons a l ih =>
            intro l' hl
            show (L2.wipe (L2.wipe σ l') l).set a none = L2.wipe σ l'
            rw [ih l' fun i hi => hl i (List.mem_cons_of_mem _ hi)]
            have ha' := hl a List.mem_cons_self
            apply List.ext_getElem?
            intro j
            by_cases hj : a = j
            · subst hj
              by_cases hb : a < (L2.wipe σ l').length
              · rw [List.getElem?_set_self hb]
                cases q : (L2.wipe σ l')[a]? with
                | none => rw [List.getElem?_eq_none_iff] at q; omega
                | some o =>
                  cases o with
                  | none => rfl
                  | some x => exact absurd ha' (wipe_some q).2
              · rw [List.getElem?_eq_none (by simpa using hb), List.getElem?_eq_none (by simpa using hb)]
            · rw [List.getElem?_set_ne hj]
        exact gen l l fun _ h => h
      rw [hw, e], ?_⟩
    refine ⟨ρ3, S2, _, sr3, sx0 gA.ok, h3, fun b S4 H4 g4 h4 => ?_⟩
    have hD4 : H4 D = some (.lst ws) := g4.frame D _ sD2 hD3
    have sD4 : S4 D = none := g4.ex D _ sD2 hD3
    refine ite_of_IFB h4 (fun z => ⟨ρ3, S4, _, sr3.go g4, sx0 g4.ok, z, fun d S5 w H5 g5 dv5 h5 => ?_⟩) fun z => ?_
    · have hD5 : H5 D = some (.lst ws) := g5.frame D _ sD4 hD4
      have sD5 : S5 D = none := g5.ex D _ sD4 hD4
      have gB := (gA.trans g4).trans g5
      have r5 : DVs X.K H5 acc ws := DVs.go ((g3.trans g4).trans g5) _ _ r2
      refine ⟨ws, hD5, by rw [← r5.length]; exact h5.1, S5, acc ++ [d], ws ++ [w], ⟨g1.ok, swap gB.ok sD5 hD5, fun a o e q => ?_, gB.ex⟩, upd_same, sD5, DVs.wr hD5 (.inl ⟨_, rfl⟩) _ _ (r5.append (DVs.cons dv5 DVs.nil)), h5.2⟩
      rw [upd_ne (ne_of_none q hD)]
      exact gB.frame a o e q
    · exact ⟨S4, acc, ws, gA.trans g4, hD4, sD4, DVs.go (g3.trans g4) _ _ r2, z⟩
  · have e : i = xs.length := by omega
    subst e
    refine .inl ⟨j2 (by simp), ?_⟩
    have sok : SOk X.K H2 (sup S2 D (.lst acc)) := fun a c q => by
      by_cases ha : a = D
      · subst ha
        rw [sup_same] at q; cases q
        exact ⟨ws, hD2, r2⟩
      · rw [sup_ne ha] at q
        exact g2.ok a c q
    have gE : Go X.K H1 S1 H2 (sup S2 D (.lst acc)) := ⟨g1.ok, sok, g2.frame, fun a o e q => by rw [sup_ne (ne_of_none q hD)]; exact g2.ex a o e q⟩
    exact k (.ref D) _ _ _ (g1.trans gE) rfl (hend rfl D sD2)
theorem pd_lc {elt tg iter : Expr} {ifs : List Expr} {scope : Scope} {own : List (Str × Nat)} {wi : RI} {p : Pat} {tt : RT} {te : RE} (hc : X.calm = true) (hN : X.N.Nodup) (hi : PDI X y tg iter wi) (ok : BlkOk X.N X.env.scope scope own)
    (hg : ∀ (s : Shared) (H : Hp) (C : Addr) (cl : List (Str × Addr)) (fp : List Addr), PG (X.blk s H scope (compEnvC scope cl C X.env) fp) tg (Pat.g X.K p)) (ht : ∀ (s : Shared) (H : Hp) (C : Addr) (cl : List (Str × Addr)) (fp : List Addr), PDTs (X.blk s H scope (compEnvC scope cl C X.env) fp) y0 ifs tt)
    (he : ∀ (s : Shared) (H : Hp) (C : Addr) (cl : List (Str × Addr)) (fp : List Addr), PD (X.blk s H scope (compEnvC scope cl C X.env) fp) y0 elt te) (hv : Pat.all (own.map (·.2)) p = true := by rfl) (hs : ∀ x, foldedSetIterable iter X.env x = pure x := by intro _; rfl) :
    PD X y (.ListComp elt [⟨tg, iter, ifs, 0⟩] scope pos) (rLc wi p tt te (own.map (·.2))) :=
  PD.of (pe_lc (tt := lT X.K y0 tt) (te := lE X.K y0 te) hc hN hi ok hg ht he hs) fun σ H Q h => lc_of hv h
theorem pd_setLc (i : Nat) {yn : Str} {py : Pos} {elt tg iter : Expr} {ifs : List Expr} {scope : Scope} {own : List (Str × Nat)} {spos : Pos} {wi : RI} {p : Pat} {tt : RT} {te : RE} (hc : X.calm = true) (hN : X.N.Nodup) (hy : X.N[i]? = some yn) (hyl : X.env.scope.names.lookup yn = some .local)
    (hsw : swapsWith (.ListComp elt [⟨tg, iter, ifs, 0⟩] scope pos) (some (.Name yn py)) spos.line X.env = pure true) (hi : PDI X y tg iter wi) (ok : BlkOk X.N X.env.scope scope own)
    (hg : ∀ (s : Shared) (H : Hp) (C : Addr) (cl : List (Str × Addr)) (fp : List Addr), PG (X.blk s H scope (compEnvC scope cl C X.env) fp) tg (Pat.g X.K p)) (ht : ∀ (s : Shared) (H : Hp) (C : Addr) (cl : List (Str × Addr)) (fp : List Addr), PDTs (X.blk s H scope (compEnvC scope cl C X.env) fp) y0 ifs tt)
    (he : ∀ (s : Shared) (H : Hp) (C : Addr) (cl : List (Str × Addr)) (fp : List Addr), PD (X.blk s H scope (compEnvC scope cl C X.env) fp) y0 elt te) (hv : Pat.all (own.map (·.2)) p = true := by rfl) (hs : ∀ x, foldedSetIterable iter X.env x = pure x := by intro _; rfl) :
    PDS X y (.Assign [.Name yn py] (.ListComp elt [⟨tg, iter, ifs, 0⟩] scope pos) spos) (rAsg (rLc wi p tt te (own.map (·.2))) (gN i)) :=
  PDS.of (ps_setLc (tt := lT X.K y0 tt) (te := lE X.K y0 te) hc hN hy hyl hsw hi ok hg ht he hs) fun D σ H h => by
    obtain ⟨ρ, S, E, sr, so, h, eo⟩ := h
    exact lc_of hv ⟨ρ, S, _, sr, so, h, fun d S1 v H1 g1 dv h1 => eo.nx _ S1 _ H1 g1 ((sr.go g1).set dv i) h1⟩
end
end DL
set_option Elab.async false
set_option linter.all false
set_option maxRecDepth 100000
set_option maxHeartbeats 4000000
namespace DL
open PySem PySem.Spec PyProof.Rows L2

/-! ### defs -/
abbrev DSp := List D → Sto → (D → Sto → Prop) → (Addr → D → Sto → Prop) → Prop
def toSp (K : PySem.W.Frag) (f : DSp) : Sp := fun vs H Q E => ∃ ds S R RX, DVs K H ds vs ∧ SOk K H S ∧ f ds S R RX ∧ (∀ d S' v H', Go K H S H' S' → DV K H' d v → R d S' → Q v H') ∧
  (∀ C d S' dx w H', Go K H S H' S' → H' dx = some (.xd [(("value" : Str), w)]) → DV K H' d w → RX C d S' → E (.ref C) (some dx) H')
def startD (N : List Str) (ds : List D) : Ro := ds.map some ++ List.replicate (N.length - ds.length) none
theorem start_srv {K : PySem.W.Frag} {H : Hp} {N : List Str} {ds : List D} {vs : List V} (h : DVs K H ds vs) : SRv K (L2.start N vs) H (startD N ds) := by
  have hl := h.length
  refine ⟨by unfold L2.start startD; simp [hl], fun i d e => ?_⟩
  unfold startD at e
  by_cases hi : i < ds.length
  · rw [List.getElem?_append_left (by simpa using hi), List.getElem?_map] at e
    cases q : ds[i]? with
    | none => rw [q] at e; cases e
    | some d' =>
      rw [q] at e
      have e2 : d' = d := Option.some.inj (Option.some.inj e)
      subst e2
      obtain ⟨v, e1, r⟩ := h.get q
      refine ⟨v, ?_, r⟩
      unfold L2.start
      rw [List.getElem?_append_left (by simpa using (hl ▸ hi)), List.getElem?_map, e1]
      rfl
  · rw [List.getElem?_append_right (by simpa using hi), List.getElem?_replicate] at e
    split at e <;> cases e
abbrev yOf (E : XK) (RX : Addr → D → Sto → Prop) : DXw := ⟨fun cls d _ H => E cls d H, fun C d _ S => RX C d S⟩
theorem fnD {P : Program} {w : World} {K : PySem.W.Frag} {mg : Str → Option Value} {base : Heap} {x qual : Str} {st : Stmt} {f : Addr} {fd : FuncData} {N ps : List Str} {k : Nat} {sp : DSp} (F : Fun K x qual st f fd) (S : FnScope N ps (defScope st))
    (len : ∀ ds S Q E, sp ds S Q E → ds.length = ps.length)
    (hbody : ∀ (cdv : Value) (A : Around) (outer : List Env) (s : Shared) (H : Hp) (E : XK) (RX : Addr → D → Sto → Prop), Room k (A.deeper (envOfC qual (defScope st) s.heap.objs.size f cdv)) →
      ∃ t, PDSs (cxOf (L2.CX P w) P w K mg base N qual (defScope st) f cdv A outer s H E) (yOf E RX) (defBody st) t ∧ ∀ ds S Q, sp ds S Q RX → t { nx := fun _ S' => Q .non S', rt := Q } (startD N ds) S) :
    FnOk P w K mg base (L2.CX P w) (k + 1) f fd ps (toSp K sp) := by
  refine F.okX S (fun vs H Q E h => ?_) (fun cdv A outer s H vs Q E hr h => ?_)
  · obtain ⟨ds, S, R, RX, dvs, _, h, _⟩ := h
    rw [← dvs.length]
    exact len _ _ _ _ h
  · obtain ⟨ds, S, R, RX, dvs, so, h, k1, k2⟩ := h
    obtain ⟨t, ht, hq⟩ := hbody cdv A outer s H E RX hr
    refine ⟨_, ht, startD N ds, S, { nx := fun _ S' => R .non S', rt := R }, start_srv dvs, ⟨so, fun C d ρ S' dx w' σ H' g _ e dv q => k2 C d S' dx w' H' g e dv q⟩, hq ds S R h, ?_⟩
    exact ⟨fun ρ S' σ H' g _ q => k1 .non S' .non H' g rfl q, fun d S' v H' g dv q => k1 d S' v H' g dv q, fun _ _ _ _ _ _ z => z, fun _ _ _ _ _ _ z => z⟩
section
variable {X : Cx} {y : DXw} {pos p : Pos} {e : Expr} {es : List Expr} {x : Str} {k : Nat} {f : Addr} {fd : FuncData} {ps : List Str} {spec : DSp}
def rCall (y : DXw) (spec : DSp) (ta : RA) : RE := fun ρ S Q => ta ρ S fun ds S1 => spec ds S1 Q fun C d S' => y.d C d ρ S'
theorem pd_call {ta : RA} (tk : Takes X y.W) (G : FnOk X.prog X.w X.K X.mg X.base (L2.CX X.prog X.w) k f fd ps (toSp X.K spec)) (hr : Room k X.A) (hm : X.mg x = some (.ref f)) (hk : PySem.W.keepIn X.K (.ref f) = true) (hb : Binds X.K fd ps [])
    (ha : PDA X y (e :: es) ta) (hg : Gl X x := by rfl) (hdb : (x == ("__debug__" : Str)) = false := by decide) (he : starEach (e :: es) X.env = (false, eval e X.env) :: starEach es X.env := by rfl) (hpl : (backTo pos (starEach es X.env)).any (·.1) = false := by rfl) :
    PD X y (.Call (.Name x p) (e :: es) [] pos) (rCall y spec ta) :=
  PD.of (pe_callS G hr hg hm hk hb (fun σ => passAt tk σ) ha hdb he hpl) fun σ H Q h => by
    obtain ⟨ρ, S, R, sr, so, h, k⟩ := h
    exact ⟨ρ, S, _, sr, so, h, fun ds S1 vs H1 g1 dvs hn h1 => ⟨ds, S1, R, _, dvs, g1.ok, h1, fun d S2 v H2 g2 dv q => k d S2 v H2 (g1.trans g2) dv q, fun C d S2 dx w H2 g2 e dw q => (so.go g1).xo C d ρ S2 dx w σ H2 g2 (sr.go (g1.trans g2)) e dw q⟩⟩
/-- keywords -/
def RdK (X : Cx) (y : DXw) (kws : List Keyword) (n : Nat) (t : RA) : Prop := PK X kws (lA X.K y n t)
theorem pdk_nil : RdK X y [] 0 rNil := ⟨fun pins pos s σ H Q I h => by
  obtain ⟨ρ, S, R, sr, so, h, k⟩ := h
  exact pk_nil.run pins pos s σ H Q I (k [] S [] H (Go.refl so.so) DVs.nil rfl h)⟩
theorem pdk_cons {nm : Option Str} {kpos : Pos} {kws : List Keyword} {n : Nat} {t : RE} {u : RA} (he : PD X y e t) (hr : RdK X y kws n u) : RdK X y (⟨nm, e, kpos⟩ :: kws) (n + 1) (rCons t u) := ⟨fun pins pos s σ H Q I h => by
  obtain ⟨ρ, S, R, sr, so, h, k⟩ := h
  refine (pk_cons he hr).run pins pos s σ H Q I ⟨ρ, S, _, sr, so, h, fun d S1 v H1 g1 dv h1 => ⟨ρ, S1, _, sr.go g1, so.go g1, h1, fun ds S2 vs H2 g2 dvs hn h2 => ?_⟩⟩
  exact k _ S2 _ H2 (g1.trans g2) (DVs.cons (DV.go g2 _ _ dv) dvs) (by rw [List.length_cons, hn]) h2⟩
end
end DL
set_option Elab.async false
set_option linter.all false
set_option maxRecDepth 100000
set_option maxHeartbeats 4000000
namespace DL
open PySem PySem.Spec PyProof.Rows L2

/-! ### data as PyData -/
mutual
inductive PyR (S : Sto) : D → PyData → Prop
  | non : PyR S .non .none
  | bl (b : Bool) : PyR S (.bl b) (.bool b)
  | int (i : Int) : PyR S (.int i) (.int i)
  | str (x : Str) : PyR S (.str x) (.str x)
  | tup {xs : List D} {ps : List PyData} : PyRs S xs ps → PyR S (.tup xs) (.tuple ps)
  | fro {xs : List D} {ps : List PyData} : PyRs S xs ps → PyR S (.fro xs) (.list ps)
  | lst {a : Addr} {xs : List D} {ps : List PyData} : S a = some (.lst xs) → PyRs S xs ps → PyR S (.ref a) (.list ps)
inductive PyRs (S : Sto) : List D → List PyData → Prop
  | nil : PyRs S [] []
  | cons {x : D} {xs : List D} {p : PyData} {ps : List PyData} : PyR S x p → PyRs S xs ps → PyRs S (x :: xs) (p :: ps)
end
section
variable {K : PySem.W.Frag} {H : Hp} {S : Sto}
mutual
theorem PyR.dp (so : SOk K H S) : ∀ (p : PyData) (x : D) (v : V), PyR S x p → DV K H x v → Dp K H v p
  | .none, _, _, h, r => by cases h; cases (show _ = V.non from r); exact .non
  | .bool b, _, _, h, r => by cases h; cases (show _ = V.bl b from r); exact .bl b
  | .int i, _, _, h, r => by cases h; cases (show _ = V.int i from r); exact .int i
  | .str x, _, _, h, r => by cases h; cases (show _ = V.str x from r); exact .str x
  | .tuple ps, _, _, h, r => by
    cases h with
    | tup hs =>
      obtain ⟨a, vs, rfl, q, r⟩ := r
      exact .tup q.sq (PyR.dps so ps _ _ hs r)
  | .list ps, _, _, h, r => by
    cases h with
    | fro hs =>
      obtain ⟨a, vs, rfl, q, r⟩ := r
      exact .lst q.sq (PyR.dps so ps _ _ hs r)
    | lst e hs =>
      cases (show _ = V.ref _ from r)
      obtain ⟨vs, e1, r⟩ := so _ _ e
      exact .lst (SqL.of e1) (PyR.dps so ps _ _ hs r)
  | .dict _, _, _, h, _ => by cases h
theorem PyR.dps (so : SOk K H S) : ∀ (ps : List PyData) (xs : List D) (vs : List V), PyRs S xs ps → DVs K H xs vs → DpAll K H vs ps
  | [], _, _, h, r => by cases h; cases (show _ = [] from r); exact .nil
  | p :: ps, _, _, h, r => by
    cases h with
    | cons h1 h2 =>
      obtain ⟨v, ws, rfl, r1, r2⟩ := r
      exact .cons (PyR.dp so p _ _ h1 r1) (PyR.dps so ps _ _ h2 r2)
end
end

/-! ### operators -/
def dAdd : ROp
  | .int i, .int j, S, R => R (.int (i + j)) S
  | .str x, .str z, S, R => x.length + z.length ≤ sizeLine ∧ R (.str (x ++ z)) S
  | .tup xs, .tup ys, S, R => xs.length + ys.length ≤ sizeLine ∧ R (.tup (xs ++ ys)) S
  | .ref a, .ref b, S, R => ∃ xs ys, S a = some (.lst xs) ∧ S b = some (.lst ys) ∧ xs.length + ys.length ≤ sizeLine ∧ ∀ p, S p = none → R (.ref p) (sup S p (.lst (xs ++ ys)))
  | _, _, _, _ => False
def dSub : ROp
  | .int i, .int j, S, R => R (.int (i - j)) S
  | _, _, _, _ => False
def dMul : ROp
  | .int i, .int j, S, R => (CMulW i j ∨ CMul i j) ∧ R (.int (i * j)) S
  | .ref a, .int k, S, R => ∃ xs, S a = some (.lst xs) ∧ (0 ≤ k ∧ k < 2 ^ 63) ∧ xs.length * k.toNat ≤ sizeLine ∧ ∀ p, S p = none → R (.ref p) (sup S p (.lst ((List.replicate k.toNat xs).flatten)))
  | _, _, _, _ => False
def dFdiv : ROp
  | .int i, .int j, S, R => CDivW i j ∧ R (.int (i / j)) S
  | _, _, _, _ => False
def dMod : ROp
  | .int i, .int j, S, R => 0 < j ∧ R (.int (i % j)) S
  | _, _, _, _ => False
def dPow : ROp
  | .int i, .int j, S, R => (0 ≤ j ∧ (Builtin.Int.intBits i : Int) * j ≤ 2 ^ 27) ∧ R (.int (i ^ j.toNat)) S
  | _, _, _, _ => False
def dCmpI (f : Int → Int → Bool) : ROp
  | .int i, .int j, S, R => R (.bl (f i j)) S
  | _, _, _, _ => False
def dLt : ROp
  | .int i, .int j, S, R => R (.bl (decide (i < j))) S
  | _, _, _, _ => False
def dLe : ROp
  | .int i, .int j, S, R => R (.bl (decide (i ≤ j))) S
  | _, _, _, _ => False
def dGt : ROp
  | .int i, .int j, S, R => R (.bl (decide (j < i))) S
  | _, _, _, _ => False
def dGe : ROp
  | .int i, .int j, S, R => R (.bl (decide (j ≤ i))) S
  | _, _, _, _ => False
def dEqG (n : Bool) (x y : D) (S : Sto) (R : D → Sto → Prop) : Prop := ∃ p q, PyR S x p ∧ PyR S y q ∧ SeqAt.shaped p = true ∧ SeqAt.shaped q = true ∧ R (.bl (if n then !PyData.eqv p q else PyData.eqv p q)) S
def dEq : ROp
  | .int i, .int j, S, R => R (.bl (decide (i = j))) S
  | .bl i, .bl j, S, R => R (.bl (decide (i = j))) S
  | .str i, .str j, S, R => R (.bl (decide (i = j))) S
  | x, y, S, R => dEqG false x y S R
def dNe : ROp
  | .int i, .int j, S, R => R (.bl (!decide (i = j))) S
  | .bl i, .bl j, S, R => R (.bl (!decide (i = j))) S
  | .str i, .str j, S, R => R (.bl (!decide (i = j))) S
  | x, y, S, R => dEqG true x y S R
def isNone : D → Bool
  | .non => true
  | _ => false
def dIs : ROp
  | x, .non, S, R => R (.bl (isNone x)) S
  | _, _, _, _ => False
def dIsNot : ROp
  | x, .non, S, R => R (.bl (!isNone x)) S
  | _, _, _, _ => False
section
variable {X : Cx}
theorem od_add : OpR X (binaryOp .Add) (lop X.K dAdd) := by
  intro pins s σ H v w vv ww Q I rv rw' h
  obtain ⟨x, y, S, R, dx, dy, so, h, k⟩ := h
  cases x <;> cases y <;> first | exact False.elim h | skip
  case int.int i j =>
    cases (show v = V.int i from dx); cases (show w = V.int j from dy)
    exact op_add pins s σ H _ _ vv ww Q I rv rw' ⟨i, j, rfl, rfl, k (.int (i + j)) S _ H (Go.refl so) rfl h⟩
  case str.str i j =>
    cases (show v = V.str i from dx); cases (show w = V.str j from dy)
    exact op_add_str pins s σ H _ _ vv ww Q I rv rw' ⟨i, j, rfl, rfl, h.1, k (.str (i ++ j)) S _ H (Go.refl so) rfl h.2⟩
  case tup.tup xs ys =>
    obtain ⟨a, vs, rfl, q1, r1⟩ := dx
    obtain ⟨b, ws, rfl, q2, r2⟩ := dy
    obtain ⟨hl, h⟩ := h
    refine op_catA pins s σ H _ _ vv ww Q I rv rw' ⟨a, b, vs, ws, rfl, rfl, q1.sq, q2.sq, by rw [← r1.length, ← r2.length]; exact hl, fun hv => ?_, fun _ hw => ?_, fun _ _ p hp => ?_⟩
    · subst hv
      have e : xs = [] := List.length_eq_zero_iff.mp r1.length
      subst e
      rw [List.nil_append] at h
      exact k (.tup ys) S _ H (Go.refl so) ⟨b, ws, rfl, q2, r2⟩ h
    · subst hw
      have e : ys = [] := List.length_eq_zero_iff.mp r2.length
      subst e
      rw [List.append_nil] at h
      exact k (.tup xs) S _ H (Go.refl so) ⟨a, vs, rfl, q1, r1⟩ h
    · have g := Go.new (o := .tup (vs ++ ws)) so hp
      exact k (.tup (xs ++ ys)) S _ _ g ⟨p, vs ++ ws, rfl, .inl upd_same, DVs.append (DVs.go g _ _ r1) (DVs.go g _ _ r2)⟩ h
  case ref.ref a b =>
    cases (show v = V.ref a from dx); cases (show w = V.ref b from dy)
    obtain ⟨xs, ys, e1, e2, hl, h⟩ := h
    obtain ⟨vs, f1, r1⟩ := so _ _ e1
    obtain ⟨ws, f2, r2⟩ := so _ _ e2
    refine op_cat pins s σ H _ _ vv ww Q I rv rw' ⟨a, b, vs, ws, rfl, rfl, f1, f2, by rw [← r1.length, ← r2.length]; exact hl, fun p hp => ?_⟩
    exact k (.ref p) _ _ _ (Go.newLst so hp (r1.append r2)) rfl (h p (so.free hp))
theorem od_sub : OpR X (binaryOp .Sub) (lop X.K dSub) := by
  intro pins s σ H v w vv ww Q I rv rw' h
  obtain ⟨x, y, S, R, dx, dy, so, h, k⟩ := h
  cases x <;> cases y <;> first | exact False.elim h | skip
  case int.int i j =>
    cases (show v = V.int i from dx); cases (show w = V.int j from dy)
    exact op_sub pins s σ H _ _ vv ww Q I rv rw' ⟨i, j, rfl, rfl, k (.int (i - j)) S _ H (Go.refl so) rfl h⟩
theorem od_mul : OpR X (binaryOp .Mult) (lop X.K dMul) := by
  intro pins s σ H v w vv ww Q I rv rw' h
  obtain ⟨x, y, S, R, dx, dy, so, h, k⟩ := h
  cases x <;> cases y <;> first | exact False.elim h | skip
  case int.int i j =>
    cases (show v = V.int i from dx); cases (show w = V.int j from dy)
    rcases h.1 with hc | hc
    · exact op_mulW pins s σ H _ _ vv ww Q I rv rw' ⟨i, j, rfl, rfl, hc, k (.int (i * j)) S _ H (Go.refl so) rfl h.2⟩
    · exact op_mul pins s σ H _ _ vv ww Q I rv rw' ⟨i, j, rfl, rfl, hc, k (.int (i * j)) S _ H (Go.refl so) rfl h.2⟩
  case ref.int a j =>
    cases (show v = V.ref a from dx); cases (show w = V.int j from dy)
    obtain ⟨xs, e1, ⟨h0, h1⟩, hl, h⟩ := h
    obtain ⟨vs, f1, r1⟩ := so _ _ e1
    refine op_rep pins s σ H _ _ vv ww Q I rv rw' ⟨a, j, vs, rfl, rfl, f1, by omega, h1, by rw [← r1.length]; exact hl, fun p hp => ?_⟩
    have rr : DVs X.K H ((List.replicate j.toNat xs).flatten) ((List.replicate j.toNat vs).flatten) := by
      generalize j.toNat = n
      induction n with
      | zero => exact DVs.nil
      | succ n ih => rw [List.replicate_succ, List.replicate_succ, List.flatten_cons, List.flatten_cons]; exact r1.append ih
    exact k (.ref p) _ _ _ (Go.newLst so hp rr) rfl (h p (so.free hp))
theorem od_fdiv : OpR X (binaryOp .FloorDiv) (lop X.K dFdiv) := by
  intro pins s σ H v w vv ww Q I rv rw' h
  obtain ⟨x, y, S, R, dx, dy, so, h, k⟩ := h
  cases x <;> cases y <;> first | exact False.elim h | skip
  case int.int i j =>
    cases (show v = V.int i from dx); cases (show w = V.int j from dy)
    exact op_fdivW pins s σ H _ _ vv ww Q I rv rw' ⟨i, j, rfl, rfl, h.1, k (.int (i / j)) S _ H (Go.refl so) rfl h.2⟩
theorem od_mod : OpR X (binaryOp .Mod) (lop X.K dMod) := by
  intro pins s σ H v w vv ww Q I rv rw' h
  obtain ⟨x, y, S, R, dx, dy, so, h, k⟩ := h
  cases x <;> cases y <;> first | exact False.elim h | skip
  case int.int i j =>
    cases (show v = V.int i from dx); cases (show w = V.int j from dy)
    exact op_mod pins s σ H _ _ vv ww Q I rv rw' ⟨i, j, rfl, rfl, h.1, k (.int (i % j)) S _ H (Go.refl so) rfl h.2⟩
theorem op_powW : OpR X (binaryOp .Pow) (rI (fun i j => 0 ≤ j ∧ (Builtin.Int.intBits i : Int) * j ≤ 2 ^ 27) fun i j => .int (i ^ j.toNat)) := opI fun _ _ _ _ _ _ _ hc q => PyProof.Rows.pow_int hc.1 hc.2 q
theorem od_pow : OpR X (binaryOp .Pow) (lop X.K dPow) := by
  intro pins s σ H v w vv ww Q I rv rw' h
  obtain ⟨x, y, S, R, dx, dy, so, h, k⟩ := h
  cases x <;> cases y <;> first | exact False.elim h | skip
  case int.int i j =>
    cases (show v = V.int i from dx); cases (show w = V.int j from dy)
    exact op_powW pins s σ H _ _ vv ww Q I rv rw' ⟨i, j, rfl, rfl, h.1, k (.int (i ^ j.toNat)) S _ H (Go.refl so) rfl h.2⟩
theorem od_cmpI {op : CmpOp} {f : Int → Int → Bool} (ho : OpR X (compareOp op) (rI0 fun i j => .bl (f i j))) : OpR X (compareOp op) (lop X.K (dCmpI f)) := by
  intro pins s σ H v w vv ww Q I rv rw' h
  obtain ⟨x, y, S, R, dx, dy, so, h, k⟩ := h
  cases x <;> cases y <;> first | exact False.elim h | skip
  case int.int i j =>
    cases (show v = V.int i from dx); cases (show w = V.int j from dy)
    exact ho pins s σ H _ _ vv ww Q I rv rw' ⟨i, j, rfl, rfl, k (.bl (f i j)) S _ H (Go.refl so) rfl h⟩
theorem od_lt : OpR X (compareOp .Lt) (lop X.K dLt) := od_cmpI op_lt
theorem od_le : OpR X (compareOp .LtE) (lop X.K dLe) := od_cmpI op_le
theorem od_gt : OpR X (compareOp .Gt) (lop X.K dGt) := od_cmpI op_gt
theorem od_ge : OpR X (compareOp .GtE) (lop X.K dGe) := od_cmpI op_ge
theorem eqG_of {n : Bool} {x y : D} {S : Sto} {R : D → Sto → Prop} {H : Hp} {v w : V} {Q : VK} (so : SOk X.K H S) (dx : DV X.K H x v) (dy : DV X.K H y w) (h : dEqG n x y S R) (k : ∀ d S' z H', Go X.K H S H' S' → DV X.K H' d z → R d S' → Q z H') :
    ∃ d e, Dp X.K H v d ∧ Dp X.K H w e ∧ SeqAt.shaped d = true ∧ SeqAt.shaped e = true ∧ Q (.bl (if n then !PyData.eqv d e else PyData.eqv d e)) H := by
  obtain ⟨p, q, h1, h2, s1, s2, h⟩ := h
  exact ⟨p, q, PyR.dp so p x v h1 dx, PyR.dp so q y w h2 dy, s1, s2, k (.bl (if n then !PyData.eqv p q else PyData.eqv p q)) S _ H (Go.refl so) rfl h⟩
theorem dEq_case {x y : D} {S : Sto} {R : D → Sto → Prop} (h : dEq x y S R) : (∃ i j, x = .int i ∧ y = .int j ∧ R (.bl (decide (i = j))) S) ∨ (∃ i j, x = .bl i ∧ y = .bl j ∧ R (.bl (decide (i = j))) S) ∨ (∃ i j, x = .str i ∧ y = .str j ∧ R (.bl (decide (i = j))) S) ∨ dEqG false x y S R := by
  cases x <;> cases y <;> first | exact .inr (.inr (.inr h)) | exact .inl ⟨_, _, rfl, rfl, h⟩ | exact .inr (.inl ⟨_, _, rfl, rfl, h⟩) | exact .inr (.inr (.inl ⟨_, _, rfl, rfl, h⟩))
theorem dNe_case {x y : D} {S : Sto} {R : D → Sto → Prop} (h : dNe x y S R) : (∃ i j, x = .int i ∧ y = .int j ∧ R (.bl (!decide (i = j))) S) ∨ (∃ i j, x = .bl i ∧ y = .bl j ∧ R (.bl (!decide (i = j))) S) ∨ (∃ i j, x = .str i ∧ y = .str j ∧ R (.bl (!decide (i = j))) S) ∨ dEqG true x y S R := by
  cases x <;> cases y <;> first | exact .inr (.inr (.inr h)) | exact .inl ⟨_, _, rfl, rfl, h⟩ | exact .inr (.inl ⟨_, _, rfl, rfl, h⟩) | exact .inr (.inr (.inl ⟨_, _, rfl, rfl, h⟩))
theorem od_eq (hu : X.A.units + 64 < cLine) : OpR X (compareOp .Eq) (lop X.K dEq) := by
  intro pins s σ H v w vv ww Q I rv rw' h
  obtain ⟨x, y, S, R, dx, dy, so, h, k⟩ := h
  rcases dEq_case h with ⟨i, j, rfl, rfl, h⟩ | ⟨i, j, rfl, rfl, h⟩ | ⟨i, j, rfl, rfl, h⟩ | h
  · cases (show v = V.int i from dx); cases (show w = V.int j from dy)
    exact op_eq pins s σ H _ _ vv ww Q I rv rw' ⟨rfl, by rw [show decide (V.int i = V.int j) = decide (i = j) by simp]; exact k (.bl (decide (i = j))) S _ H (Go.refl so) rfl h⟩
  · cases (show v = V.bl i from dx); cases (show w = V.bl j from dy)
    exact op_eq pins s σ H _ _ vv ww Q I rv rw' ⟨rfl, by rw [show decide (V.bl i = V.bl j) = decide (i = j) by simp]; exact k (.bl (decide (i = j))) S _ H (Go.refl so) rfl h⟩
  · cases (show v = V.str i from dx); cases (show w = V.str j from dy)
    exact op_eq pins s σ H _ _ vv ww Q I rv rw' ⟨rfl, by rw [show decide (V.str i = V.str j) = decide (i = j) by simp]; exact k (.bl (decide (i = j))) S _ H (Go.refl so) rfl h⟩
  · exact op_eqD hu pins s σ H _ _ vv ww Q I rv rw' (eqG_of so dx dy h k)
theorem od_ne (hu : X.A.units + 64 < cLine) : OpR X (compareOp .NotEq) (lop X.K dNe) := by
  intro pins s σ H v w vv ww Q I rv rw' h
  obtain ⟨x, y, S, R, dx, dy, so, h, k⟩ := h
  rcases dNe_case h with ⟨i, j, rfl, rfl, h⟩ | ⟨i, j, rfl, rfl, h⟩ | ⟨i, j, rfl, rfl, h⟩ | h
  · cases (show v = V.int i from dx); cases (show w = V.int j from dy)
    exact op_ne pins s σ H _ _ vv ww Q I rv rw' ⟨rfl, by rw [show decide (V.int i = V.int j) = decide (i = j) by simp]; exact k (.bl (!decide (i = j))) S _ H (Go.refl so) rfl h⟩
  · cases (show v = V.bl i from dx); cases (show w = V.bl j from dy)
    exact op_ne pins s σ H _ _ vv ww Q I rv rw' ⟨rfl, by rw [show decide (V.bl i = V.bl j) = decide (i = j) by simp]; exact k (.bl (!decide (i = j))) S _ H (Go.refl so) rfl h⟩
  · cases (show v = V.str i from dx); cases (show w = V.str j from dy)
    exact op_ne pins s σ H _ _ vv ww Q I rv rw' ⟨rfl, by rw [show decide (V.str i = V.str j) = decide (i = j) by simp]; exact k (.bl (!decide (i = j))) S _ H (Go.refl so) rfl h⟩
  · exact op_neD hu pins s σ H _ _ vv ww Q I rv rw' (eqG_of so dx dy h k)
theorem isNone_of {K : PySem.W.Frag} {H : Hp} {x : D} {v : V} (h : DV K H x v) : decide (v = V.non) = isNone x := by
  cases x with
  | non => cases (show v = V.non from h); rfl
  | bl b => cases (show v = V.bl b from h); rfl
  | int b => cases (show v = V.int b from h); rfl
  | str b => cases (show v = V.str b from h); rfl
  | ty b => cases (show v = V.ty b from h); rfl
  | ref b => cases (show v = V.ref b from h); rfl
  | tup b => obtain ⟨a, vs, rfl, _⟩ := h; rfl
  | fro b => obtain ⟨a, vs, rfl, _⟩ := h; rfl
  | exc C d => obtain ⟨a, dx, w, rfl, _⟩ := h; rfl
theorem od_is : OpR X (compareOp .Is) (lop X.K dIs) := by
  intro pins s σ H v w vv ww Q I rv rw' h
  obtain ⟨x, y, S, R, dx, dy, so, h, k⟩ := h
  cases y <;> first | (cases x <;> exact False.elim h) | skip
  cases (show w = V.non from dy)
  have h : R (.bl (isNone x)) S := by cases x <;> exact h
  exact op_isN pins s σ H _ _ vv ww Q I rv rw' ⟨rfl, by rw [isNone_of dx]; exact k (.bl (isNone x)) S _ H (Go.refl so) rfl h⟩
theorem od_isnot : OpR X (compareOp .IsNot) (lop X.K dIsNot) := by
  intro pins s σ H v w vv ww Q I rv rw' h
  obtain ⟨x, y, S, R, dx, dy, so, h, k⟩ := h
  cases y <;> first | (cases x <;> exact False.elim h) | skip
  cases (show w = V.non from dy)
  have h : R (.bl (!isNone x)) S := by cases x <;> exact h
  exact op_notN pins s σ H _ _ vv ww Q I rv rw' ⟨rfl, by rw [isNone_of dx]; exact k (.bl (!isNone x)) S _ H (Go.refl so) rfl h⟩
variable {y : DXw} {a b : Expr} {t : RE} {pos : Pos}
/-- -a -/
def rNeg (t : RE) : RE := fun ρ S Q => t ρ S fun d S1 => match d with
  | .int i => Q (.int (-i)) S1
  | _ => False
theorem pd_neg (ha : PD X y a t) : PD X y (.UnaryOp .USub a pos) (rNeg t) := by
  refine PD.of (pe_un un_neg ha) fun σ H Q h => ?_
  obtain ⟨ρ, S, R, sr, so, h, k⟩ := h
  refine ⟨ρ, S, _, sr, so, h, fun d S' v H' g dv hd => ?_⟩
  cases d with
  | int i => exact ⟨i, dv, k (.int (-i)) S' _ H' g rfl hd⟩
  | _ => exact False.elim hd
end
end DL
set_option Elab.async false
set_option linter.all false
set_option maxRecDepth 100000
set_option maxHeartbeats 4000000
namespace DL
open PySem PySem.Spec PyProof.Rows L2

/-! ### built-ins, by values -/
abbrev RCall := List D → Sto → (D → Sto → Prop) → Prop
def lcl (K : PySem.W.Frag) (p : RCall) : List V → Hp → VK → Prop := fun vs H Q => ∃ ds S R, DVs K H ds vs ∧ SOk K H S ∧ p ds S R ∧ ∀ d S' z H', Go K H S H' S' → DV K H' d z → R d S' → Q z H'
def rCl (p : RCall) (ta : RA) : RE := fun ρ S Q => ta ρ S fun ds S1 => p ds S1 Q
def dvs1 {K : PySem.W.Frag} {H : Hp} {d : D} {vs : List V} (h : DVs K H [d] vs) : ∃ v, vs = [v] ∧ DV K H d v := by
  obtain ⟨v, ws, rfl, r, q⟩ := h
  cases (show ws = [] from q)
  exact ⟨v, rfl, r⟩
def dvs2 {K : PySem.W.Frag} {H : Hp} {d e : D} {vs : List V} (h : DVs K H [d, e] vs) : ∃ v w, vs = [v, w] ∧ DV K H d v ∧ DV K H e w := by
  obtain ⟨v, ws, rfl, r, q⟩ := h
  obtain ⟨w, rfl, r2⟩ := dvs1 q
  exact ⟨v, w, rfl, r, r2⟩
section
variable {X : Cx} {y : DXw} {pos p : Pos} {e : Expr} {es : List Expr} {x : Str} {ta : RA}
theorem cl_of {r : List V → Hp → VK → Prop} {q : RCall} {n : Nat} {σ : L2.St} {H : Hp} {Q : VK} (hr : ∀ vs H Q, lcl X.K q vs H Q → r vs H Q) (h : lE X.K y (rCl q ta) σ H Q) : tCB r (lA X.K y n ta) σ H Q := by
  obtain ⟨ρ, S, R, sr, so, h, k⟩ := h
  exact ⟨ρ, S, _, sr, so, h, fun ds S1 vs H1 g1 dvs hn h1 => hr _ _ _ ⟨ds, S1, R, dvs, g1.ok, h1, fun d S2 z H2 g2 dz q => k d S2 z H2 (g1.trans g2) dz q⟩⟩
theorem pd_blt {id : String} {q : RCall} (hc : CallR X (.builtin id) (lcl X.K q)) (hm : X.mg x = none) (hv : bootBuiltins x = some (.builtin id)) (ha : PDA X y (e :: es) ta) (hg : Gl X x := by rfl) (hn : x ≠ "__name__" := by decide) (hdb : (x == ("__debug__" : Str)) = false := by decide)
    (he : starEach (e :: es) X.env = (false, eval e X.env) :: starEach es X.env := by rfl) (hpl : (backTo pos (starEach es X.env)).any (·.1) = false := by rfl) : PD X y (.Call (.Name x p) (e :: es) [] pos) (rCl q ta) :=
  PD.of (pe_callB hc hg hm hv ha hn hdb he hpl) fun σ H Q h => cl_of (fun _ _ _ z => z) h
theorem pd_bltTy {T : String} {q : RCall} (hc : CallR X (.type T) (lcl X.K q)) (hm : X.mg x = none) (hv : bootBuiltins x = some (.type T)) (ha : PDA X y (e :: es) ta) (hg : Gl X x := by rfl) (hn : x ≠ "__name__" := by decide) (hdb : (x == ("__debug__" : Str)) = false := by decide)
    (he : starEach (e :: es) X.env = (false, eval e X.env) :: starEach es X.env := by rfl) (hpl : (backTo pos (starEach es X.env)).any (·.1) = false := by rfl) : PD X y (.Call (.Name x p) (e :: es) [] pos) (rCl q ta) :=
  PD.of (pe_callTy hc hg hm hv ha hn hdb he hpl) fun σ H Q h => cl_of (fun _ _ _ z => z) h
theorem pd_bltFun {id : String} {q : RCall} (hc : CallR X (.builtin id) (lcl X.K q)) (hm : X.mg x = some (.builtin id)) (ha : PDA X y (e :: es) ta) (hg : Gl X x := by rfl) (hdb : (x == ("__debug__" : Str)) = false := by decide)
    (he : starEach (e :: es) X.env = (false, eval e X.env) :: starEach es X.env := by rfl) (hpl : (backTo pos (starEach es X.env)).any (·.1) = false := by rfl) : PD X y (.Call (.Name x p) (e :: es) [] pos) (rCl q ta) :=
  PD.of (pe_callBfun hc hg hm ha hdb he hpl) fun σ H Q h => cl_of (fun _ _ _ z => z) h

/-- len -/
def dLen : RCall := fun ds S Q => match ds with
  | [.tup xs] => Q (.int xs.length) S
  | [.str x] => x.length ≤ sizeLine ∧ Q (.int x.length) S
  | [d] => ∃ xs, RdL S d xs ∧ Q (.int xs.length) S
  | _ => False
theorem cd_len : CallR X (.builtin "len") (lcl X.K dLen) := by
  intro pins s σ H vs us Q I rv h
  obtain ⟨ds, S, R, dv, so, h, k⟩ := h
  refine call_len pins s σ H vs us Q I rv ?_
  unfold dLen at h
  split at h
  · rename_i xs
    obtain ⟨v, rfl, a, ws, rfl, q, r⟩ := dvs1 dv
    exact ⟨_, _, rfl, .inr ⟨ws, q.sq, rfl⟩, by rw [← r.length]; exact k (.int xs.length) S _ H (Go.refl so) rfl h⟩
  · rename_i z
    obtain ⟨v, rfl, r⟩ := dvs1 dv
    cases (show v = V.str z from r)
    exact ⟨_, _, rfl, ⟨h.1, rfl⟩, k (.int z.length) S _ H (Go.refl so) rfl h.2⟩
  · rename_i d _ _
    obtain ⟨v, rfl, r⟩ := dvs1 dv
    obtain ⟨xs, hx, h⟩ := h
    obtain ⟨a, ws, rfl, q, r⟩ := hx.sq so r
    exact ⟨_, _, rfl, .inl ⟨ws, q, rfl⟩, by rw [← r.length]; exact k (.int xs.length) S _ H (Go.refl so) rfl h⟩
  · exact h.elim
/-- int -/
def dInt : RCall := fun ds S Q => match ds with
  | [.int i] => Q (.int i) S
  | [.bl b] => Q (.int (if b then 1 else 0)) S
  | _ => False
theorem cd_int : CallR X (.type "int") (lcl X.K dInt) := by
  intro pins s σ H vs us Q I rv h
  obtain ⟨ds, S, R, dv, so, h, k⟩ := h
  refine call_int1 pins s σ H vs us Q I rv ?_
  unfold dInt at h
  split at h
  · rename_i i
    obtain ⟨v, rfl, r⟩ := dvs1 dv
    cases (show v = V.int i from r)
    exact .inl ⟨i, rfl, k (.int i) S _ H (Go.refl so) rfl h⟩
  · rename_i b
    obtain ⟨v, rfl, r⟩ := dvs1 dv
    cases (show v = V.bl b from r)
    exact .inr ⟨b, rfl, k (.int (if b then 1 else 0)) S _ H (Go.refl so) rfl h⟩
  · exact h.elim
/-- a built-in of whole numbers -/
def dI1 (f : Int → Int) : RCall := fun ds S Q => match ds with
  | [.int i] => Q (.int (f i)) S
  | _ => False
def dI2 (f : Int → Int → Int) : RCall := fun ds S Q => match ds with
  | [.int i, .int j] => Q (.int (f i j)) S
  | _ => False
theorem cd_I1 {u : Value} {f : Int → Int} (hc : CallR X u (fun xs H Q => ∃ i, xs = [.int i] ∧ Q (.int (f i)) H)) : CallR X u (lcl X.K (dI1 f)) := by
  intro pins s σ H vs us Q I rv h
  obtain ⟨ds, S, R, dv, so, h, k⟩ := h
  refine hc pins s σ H vs us Q I rv ?_
  unfold dI1 at h
  split at h
  · rename_i i
    obtain ⟨v, rfl, r⟩ := dvs1 dv
    cases (show v = V.int i from r)
    exact ⟨i, rfl, k (.int (f i)) S _ H (Go.refl so) rfl h⟩
  · exact h.elim
theorem cd_I2 {u : Value} {f : Int → Int → Int} (hc : CallR X u (fun xs H Q => ∃ i j, xs = [.int i, .int j] ∧ Q (.int (f i j)) H)) : CallR X u (lcl X.K (dI2 f)) := by
  intro pins s σ H vs us Q I rv h
  obtain ⟨ds, S, R, dv, so, h, k⟩ := h
  refine hc pins s σ H vs us Q I rv ?_
  unfold dI2 at h
  split at h
  · rename_i i j
    obtain ⟨v, w, rfl, r1, r2⟩ := dvs2 dv
    cases (show v = V.int i from r1)
    cases (show w = V.int j from r2)
    exact ⟨i, j, rfl, k (.int (f i j)) S _ H (Go.refl so) rfl h⟩
  · exact h.elim
def dAbs : RCall := fun ds S Q => match ds with
  | [.int i] => Q (.int (if i < 0 then -i else i)) S
  | _ => False
def dMax2 : RCall := fun ds S Q => match ds with
  | [.int i, .int j] => Q (.int (if j > i then j else i)) S
  | _ => False
def dMin2 : RCall := fun ds S Q => match ds with
  | [.int i, .int j] => Q (.int (if j < i then j else i)) S
  | _ => False
def dGcd : RCall := fun ds S Q => match ds with
  | [.int i, .int j] => Q (.int ((Nat.gcd i.natAbs j.natAbs : Nat) : Int)) S
  | _ => False
theorem cd_abs : CallR X (.builtin "abs") (lcl X.K dAbs) := cd_I1 call_abs
theorem cd_max2 (hc : X.calm = true) : CallR X (.builtin "max") (lcl X.K dMax2) := cd_I2 (call_max2 hc)
theorem cd_min2 (hc : X.calm = true) : CallR X (.builtin "min") (lcl X.K dMin2) := cd_I2 (call_min2 hc)
theorem cd_gcd : CallR X (.builtin "math.gcd") (lcl X.K dGcd) := cd_I2 cr_gcd
/-- tuple, list -/
def dTuple : RCall := fun ds S Q => match ds with
  | [.tup xs] => Q (.tup xs) S
  | [d] => ∃ xs, RdL S d xs ∧ Q (.tup xs) S
  | _ => False
theorem cd_tuple : CallR X (.type "tuple") (lcl X.K dTuple) := by
  intro pins s σ H vs us Q I rv h
  obtain ⟨ds, S, R, dv, so, h, k⟩ := h
  refine call_tuple_of pins s σ H vs us Q I rv ?_
  unfold dTuple at h
  split at h
  · rename_i xs
    obtain ⟨v, rfl, a, ws, rfl, q, r⟩ := dvs1 dv
    exact ⟨a, ws, rfl, .inr ⟨q.sq, k (.tup xs) S _ H (Go.refl so) ⟨a, ws, rfl, q, r⟩ h⟩⟩
  · rename_i d _
    obtain ⟨v, rfl, r⟩ := dvs1 dv
    obtain ⟨xs, hx, h⟩ := h
    obtain ⟨a, ws, rfl, q, r⟩ := hx.sq so r
    refine ⟨a, ws, rfl, .inl ⟨q, fun l hl => ?_⟩⟩
    have g := Go.new (o := .tup ws) so hl
    exact k (.tup xs) S _ _ g ⟨l, ws, rfl, .inl upd_same, DVs.go g _ _ r⟩ h
  · exact h.elim
def dList : RCall := fun ds S Q => match ds with
  | [.tup xs] => ∀ p, S p = none → Q (.ref p) (sup S p (.lst xs))
  | [d] => ∃ xs, RdL S d xs ∧ ∀ p, S p = none → Q (.ref p) (sup S p (.lst xs))
  | _ => False
theorem cd_list : CallR X (.type "list") (lcl X.K dList) := by
  intro pins s σ H vs us Q I rv h
  obtain ⟨ds, S, R, dv, so, h, k⟩ := h
  refine call_list_of pins s σ H vs us Q I rv ?_
  unfold dList at h
  split at h
  · rename_i xs
    obtain ⟨v, rfl, a, ws, rfl, q, r⟩ := dvs1 dv
    exact ⟨a, ws, rfl, .inr q.sq, fun l hl => k (.ref l) _ _ _ (Go.newLst so hl r) rfl (h l (so.free hl))⟩
  · rename_i d _
    obtain ⟨v, rfl, r⟩ := dvs1 dv
    obtain ⟨xs, hx, h⟩ := h
    obtain ⟨a, ws, rfl, q, r⟩ := hx.sq so r
    exact ⟨a, ws, rfl, .inl q, fun l hl => k (.ref l) _ _ _ (Go.newLst so hl r) rfl (h l (so.free hl))⟩
  · exact h.elim
/-- sum, all, any of a list -/
def dSum : RCall := fun ds S Q => match ds with
  | [d] => ∃ ns : List Int, RdL S d (ns.map D.int) ∧ Q (.int ns.sum) S
  | _ => False
theorem cd_sum (hc : X.calm = true) : CallR X (.builtin "sum") (lcl X.K dSum) := by
  intro pins s σ H vs us Q I rv h
  obtain ⟨ds, S, R, dv, so, h, k⟩ := h
  refine cr_sum hc pins s σ H vs us Q I rv ?_
  unfold dSum at h
  split at h
  · rename_i d
    obtain ⟨v, rfl, r⟩ := dvs1 dv
    obtain ⟨ns, hx, h⟩ := h
    obtain ⟨a, ws, rfl, q, r⟩ := hx.sq so r
    rw [DVs.ints r] at q
    exact ⟨a, ns, rfl, q, k (.int ns.sum) S _ H (Go.refl so) rfl h⟩
  · exact h.elim
def dAll : RCall := fun ds S Q => match ds with
  | [d] => ∃ bs : List Bool, RdL S d (bs.map D.bl) ∧ Q (.bl (bs.all id)) S
  | _ => False
def dAny : RCall := fun ds S Q => match ds with
  | [d] => ∃ bs : List Bool, RdL S d (bs.map D.bl) ∧ Q (.bl (bs.any id)) S
  | _ => False
theorem cd_all (hc : X.calm = true) : CallR X (.builtin "all") (lcl X.K dAll) := by
  intro pins s σ H vs us Q I rv h
  obtain ⟨ds, S, R, dv, so, h, k⟩ := h
  refine cr_all hc pins s σ H vs us Q I rv ?_
  unfold dAll at h
  split at h
  · rename_i d
    obtain ⟨v, rfl, r⟩ := dvs1 dv
    obtain ⟨ns, hx, h⟩ := h
    obtain ⟨a, ws, rfl, q, r⟩ := hx.sq so r
    rw [DVs.bls r] at q
    exact ⟨a, ns, rfl, q, k (.bl (ns.all id)) S _ H (Go.refl so) rfl h⟩
  · exact h.elim
theorem cd_any (hc : X.calm = true) : CallR X (.builtin "any") (lcl X.K dAny) := by
  intro pins s σ H vs us Q I rv h
  obtain ⟨ds, S, R, dv, so, h, k⟩ := h
  refine cr_any hc pins s σ H vs us Q I rv ?_
  unfold dAny at h
  split at h
  · rename_i d
    obtain ⟨v, rfl, r⟩ := dvs1 dv
    obtain ⟨ns, hx, h⟩ := h
    obtain ⟨a, ws, rfl, q, r⟩ := hx.sq so r
    rw [DVs.bls r] at q
    exact ⟨a, ns, rfl, q, k (.bl (ns.any id)) S _ H (Go.refl so) rfl h⟩
  · exact h.elim

/-! ### isinstance -/
inductive Ty where
  | int | bool | none | str | tup | lst | dct
  deriving DecidableEq
def Ty.nm : Ty → String
  | .int => "int" | .bool => "bool" | .none => "NoneType" | .str => "str" | .tup => "tuple" | .lst => "list" | .dct => "dict"
def isi : Ty → Ty → Bool
  | .int, .int => true | .bool, .bool => true | .bool, .int => true | .none, .none => true | .str, .str => true | .tup, .tup => true | .lst, .lst => true | .dct, .dct => true
  | _, _ => false
theorem isi_kit : ∀ t c : Ty, kitB t.nm c.nm = some (isi t c) := by
  intro t c
  cases t <;> cases c <;> decide +kernel
def dTy : D → Sto → (Ty → Prop) → Prop
  | .non, _, k => k .none
  | .bl _, _, k => k .bool
  | .int _, _, k => k .int
  | .str _, _, k => k .str
  | .tup _, _, k => k .tup
  | .fro _, _, k => k .lst
  | .ref a, S, k => (∃ xs, S a = some (.lst xs) ∧ k .lst) ∨ ∃ kvs, S a = some (.dK kvs) ∧ k .dct
  | _, _, _ => False
theorem dTy_of {K : PySem.W.Frag} {H : Hp} {S : Sto} (so : SOk K H S) : ∀ {d : D} {v : V} {k : Ty → Prop}, DV K H d v → dTy d S k → ∃ t : Ty, TyX K H v (.type t.nm) ∧ k t
  | .non, _, _, h, q => by cases (show _ = V.non from h); exact ⟨.none, .base .non, q⟩
  | .bl b, _, _, h, q => by cases (show _ = V.bl b from h); exact ⟨.bool, .base (.bl b), q⟩
  | .int b, _, _, h, q => by cases (show _ = V.int b from h); exact ⟨.int, .base (.int b), q⟩
  | .str b, _, _, h, q => by cases (show _ = V.str b from h); exact ⟨.str, .base (.str b), q⟩
  | .tup b, _, _, h, q => by
    obtain ⟨a, vs, rfl, e, _⟩ := h
    rcases e with e | ⟨o, its, n, e, c, _⟩
    · exact ⟨.tup, .base (.tup e), q⟩
    · exact ⟨.tup, .kTuple e c, q⟩
  | .fro b, _, _, h, q => by
    obtain ⟨a, vs, rfl, e, _⟩ := h
    rcases e with ⟨o, e⟩ | ⟨o, its, n, e, c, _⟩
    · exact ⟨.lst, .base (.frz e), q⟩
    · exact ⟨.lst, .kList e c, q⟩
  | .ref a, _, _, h, q => by
    cases (show _ = V.ref a from h)
    rcases q with ⟨xs, e, q⟩ | ⟨xs, e, q⟩
    · obtain ⟨vs, e1, _⟩ := so a _ e
      exact ⟨.lst, .base (.lst e1), q⟩
    · obtain ⟨vs, e1, _⟩ := so a _ e
      exact ⟨.dct, .base (.dK e1), q⟩
  | .ty _, _, _, _, q => q.elim
  | .exc _ _, _, _, _, q => q.elim
/-- a class's name as a value -/
theorem pd_ty {x : Str} {c : Ty} {pos : Pos} (hm : X.mg x = none) (hv : bootBuiltins x = some (.type c.nm)) (hg : Gl X x := by rfl) (hn : x ≠ "__name__" := by decide) (hd : (x == ("__debug__" : Str)) = false := by decide) : PD X y (.Name x pos) (rC (.ty c.nm)) :=
  pd_c (pe_bltn (v := .ty c.nm) hg hm hv rfl hn hd) fun _ => rfl
def dIsi : RCall := fun ds S Q => match ds with
  | [d, .ty n] => ∀ c : Ty, c.nm = n → dTy d S fun t => Q (.bl (isi t c)) S
  | [d, .tup [.ty n, .ty m]] => ∀ c c' : Ty, c.nm = n → c'.nm = m → dTy d S fun t => Q (.bl (isi t c || isi t c')) S
  | _ => False
end
end DL
set_option Elab.async false
set_option linter.all false
set_option maxRecDepth 100000
set_option maxHeartbeats 4000000
namespace DL
open PySem PySem.Spec PyProof.Rows L2
section
variable {X : Cx} {y : DXw} {pos p p2 apos : Pos} {e a b o : Expr} {es : List Expr} {x : Str} {ta : RA} {te ti to : RE}

/-! ### isinstance -/
def rIs1 (c : Ty) (te : RE) : RE := fun ρ S Q => te ρ S fun d S1 => dTy d S1 fun t => Q (.bl (isi t c)) S1
def rIs2 (c c' : Ty) (te : RE) : RE := fun ρ S Q => te ρ S fun d S1 => dTy d S1 fun t => Q (.bl (isi t c || isi t c')) S1
theorem pd_isi1 (c : Ty) {cn : Str} (he : PD X y e te) (hm : X.mg "isinstance" = none) (hmc : X.mg cn = none) (hvc : bootBuiltins cn = some (.type c.nm) := by decide +kernel) (hg : Gl X "isinstance" := by rfl) (hgc : Gl X cn := by rfl) (hn : cn ≠ "__name__" := by decide) (hdb : (cn == ("__debug__" : Str)) = false := by decide)
    (h1 : starEach [e, .Name cn p2] X.env = (false, eval e X.env) :: starEach [.Name cn p2] X.env := by rfl) (h2 : starEach [.Name cn p2] X.env = (false, eval (.Name cn p2) X.env) :: starEach [] X.env := by rfl) (hpl : (backTo pos (starEach [.Name cn p2] X.env)).any (·.1) = false := by rfl) :
    PD X y (.Call (.Name "isinstance" p) [e, .Name cn p2] [] pos) (rIs1 c te) := by
  refine PD.of (pe_callB call_isi hg hm (by decide +kernel) (pa_cons he (pa_cons (pe_bltn (v := .ty c.nm) hgc hmc hvc rfl hn hdb) pa_nil h2) h1) (by decide) (by decide) h1 hpl) fun σ H Q h => ?_
  obtain ⟨ρ, S, R, sr, so, h, k⟩ := h
  refine ⟨ρ, S, _, sr, so, h, fun d S1 v H1 g dv hd => ?_⟩
  obtain ⟨t, ht, q⟩ := dTy_of g.ok dv hd
  exact ⟨v, .ty c.nm, .type t.nm, .type c.nm, _, rfl, .ty _, ht, kit_ty (isi_kit t c), k (.bl (isi t c)) S1 _ H1 g rfl q⟩
theorem pd_isi2 (c c' : Ty) {cn cn' : Str} {kk : Nat} {p3 p4 : Pos} (he : PD X y e te) (hm : X.mg "isinstance" = none) (hmc : X.mg cn = none) (hmc' : X.mg cn' = none) (hvc : bootBuiltins cn = some (.type c.nm) := by decide +kernel) (hvc' : bootBuiltins cn' = some (.type c'.nm) := by decide +kernel) (hg : Gl X "isinstance" := by rfl) (hgc : Gl X cn := by rfl) (hgc' : Gl X cn' := by rfl) (hn : cn ≠ "__name__" := by decide) (hdb : (cn == ("__debug__" : Str)) = false := by decide) (hn' : cn' ≠ "__name__" := by decide) (hdb' : (cn' == ("__debug__" : Str)) = false := by decide)
    (h1 : starEach [e, .Tuple [.Name cn p2, .Name cn' p3] kk p4] X.env = (false, eval e X.env) :: starEach [.Tuple [.Name cn p2, .Name cn' p3] kk p4] X.env := by rfl) (h2 : starEach [.Tuple [.Name cn p2, .Name cn' p3] kk p4] X.env = (false, eval (.Tuple [.Name cn p2, .Name cn' p3] kk p4) X.env) :: starEach [] X.env := by rfl) (hpl : (backTo pos (starEach [.Tuple [.Name cn p2, .Name cn' p3] kk p4] X.env)).any (·.1) = false := by rfl)
    (h3 : starEach [.Name cn p2, .Name cn' p3] X.env = (false, eval (.Name cn p2) X.env) :: starEach [.Name cn' p3] X.env := by rfl) (h4 : starEach [.Name cn' p3] X.env = (false, eval (.Name cn' p3) X.env) :: starEach [] X.env := by rfl) :
    PD X y (.Call (.Name "isinstance" p) [e, .Tuple [.Name cn p2, .Name cn' p3] kk p4] [] pos) (rIs2 c c' te) := by
  refine PD.of (pe_callB call_isiT hg hm (by decide +kernel) (pa_cons he (pa_cons (pe_tup (pa_cons (pe_bltn (v := .ty c.nm) hgc hmc hvc rfl hn hdb) (pa_cons (pe_bltn (v := .ty c'.nm) hgc' hmc' hvc' rfl hn' hdb') pa_nil h4) h3)) pa_nil h2) h1) (by decide) (by decide) h1 hpl) fun σ H Q h => ?_
  obtain ⟨ρ, S, R, sr, so, h, k⟩ := h
  refine ⟨ρ, S, _, sr, so, h, fun d S1 v H1 g dv hd => ?_⟩
  refine ⟨by show 2 ≤ sizeLine; decide, fun q hq => ?_⟩
  have g2 := Go.new (K := X.K) (o := .tup [.ty c.nm, .ty c'.nm]) g.ok hq
  obtain ⟨t, ht, hr⟩ := dTy_of g2.ok (DV.go g2 _ _ dv) hd
  refine ⟨v, q, [.ty c.nm, .ty c'.nm], .type t.nm, [.type c.nm, .type c'.nm], isi t c || isi t c', rfl, upd_same, .cons (.ty _) (.cons (.ty _) .nil), ht, ?_, k (.bl (isi t c || isi t c')) S1 _ _ (g.trans g2) rfl hr⟩
  refine kitAny_cons (kit_ty (isi_kit t c)) (fun z => ?_) fun z => by rw [z]; rfl
  rw [z, Bool.false_or]
  exact kitAny_cons (kit_ty (isi_kit t c')) (fun z => by rw [z]; exact kitAny_nil) fun z => z

/-! ### items -/
def dIx : ROp
  | .tup xs, .int i, S, R => ∃ d, atI xs i = some d ∧ R d S
  | .str x, .int i, S, R => ∃ c, x.length ≤ sizeLine ∧ atI x.cps.toList i = some c ∧ R (.str ⟨#[c]⟩) S
  | d, .int i, S, R => ∃ xs v, RdL S d xs ∧ atI xs i = some v ∧ R v S
  | _, _, _, _ => False
theorem atI_dv {K : PySem.W.Frag} {H : Hp} {xs : List D} {vs : List V} {i : Int} {d : D} (r : DVs K H xs vs) (h : atI xs i = some d) : ∃ v, atI vs i = some v ∧ DV K H d v := by
  unfold atI at h ⊢
  rw [← r.length]
  cases e : ixN xs.length i with
  | none => rw [e] at h; cases h
  | some j =>
    rw [e] at h
    exact r.get h
theorem dIx_case {x y : D} {S : Sto} {R : D → Sto → Prop} (h : dIx x y S R) : ∃ i, y = .int i ∧ ((∃ xs d, x = .tup xs ∧ atI xs i = some d ∧ R d S) ∨ (∃ z c, x = .str z ∧ z.length ≤ sizeLine ∧ atI z.cps.toList i = some c ∧ R (.str ⟨#[c]⟩) S) ∨ ∃ xs v, RdL S x xs ∧ atI xs i = some v ∧ R v S) := by
  cases y with
  | int i =>
    refine ⟨i, rfl, ?_⟩
    cases x with
    | tup xs => obtain ⟨d, h1, h2⟩ := (show ∃ d, atI xs i = some d ∧ R d S from h); exact .inl ⟨xs, d, rfl, h1, h2⟩
    | str z => obtain ⟨c, h1, h2, h3⟩ := (show ∃ c, z.length ≤ sizeLine ∧ atI z.cps.toList i = some c ∧ R (.str ⟨#[c]⟩) S from h); exact .inr (.inl ⟨z, c, rfl, h1, h2, h3⟩)
    | _ => exact .inr (.inr h)
  | _ => cases x <;> exact False.elim h
theorem id_seq : IxR X (lop X.K dIx) := by
  intro value slice pins s σ H v w vv ww Q I rv rw' h hs
  obtain ⟨x, z, S, R, dx, dz, so, h, k⟩ := h
  obtain ⟨i, rfl, hc⟩ := dIx_case h
  cases (show w = V.int i from dz)
  refine ix_seq value slice pins s σ H _ _ vv ww Q I rv rw' ?_ hs
  rcases hc with ⟨xs, d, rfl, e, h⟩ | ⟨z, c, rfl, hl, e, h⟩ | ⟨xs, d, hx, e, h⟩
  · obtain ⟨a, vs, rfl, q, r⟩ := dx
    obtain ⟨u, e2, r2⟩ := atI_dv r e
    exact .inr (.inl ⟨a, vs, i, u, rfl, rfl, q.sq, e2, k d S _ H (Go.refl so) r2 h⟩)
  · cases (show v = V.str z from dx)
    exact .inr (.inr ⟨z, i, c, rfl, rfl, hl, e, k (.str ⟨#[c]⟩) S _ H (Go.refl so) rfl h⟩)
  · obtain ⟨a, vs, rfl, q, r⟩ := hx.sq so dx
    obtain ⟨u, e2, r2⟩ := atI_dv r e
    exact .inl ⟨a, vs, i, u, rfl, rfl, q, e2, k d S _ H (Go.refl so) r2 h⟩
theorem pd_ix (ha : PD X y a te) (hb : PD X y b ti) (hs : PlainIx b := by exact fun _ _ => rfl) : PD X y (.Subscript a b pos) (rBin dIx te ti) :=
  PD.of (pe_ix id_seq ha hb hs) fun _ _ _ h => bin_of (fun _ _ _ _ z => z) h
/-- xs[i] = v -/
def dSet : RSet := fun o i v S R => match o, i with
  | .ref a, .int k => ∃ xs j, S a = some (.lst xs) ∧ ixN xs.length k = some j ∧ R (sup S a (.lst (xs.set j v)))
  | _, _ => False
theorem sd_list : PSet X (lset X.K dSet) := by
  intro pins s σ H o i v ov iv u Q I ro ri rv h
  obtain ⟨x, k, d, S, R, dx, dk, dv, so, h, c⟩ := h
  refine set_list pins s σ H o i v ov iv u Q I ro ri rv ?_
  cases x <;> cases k <;> first | exact False.elim h | skip
  case ref.int a j =>
    cases (show o = V.ref a from dx); cases (show i = V.int j from dk)
    obtain ⟨xs, m, e, hj, h⟩ := h
    obtain ⟨vs, e1, r⟩ := so a _ e
    exact ⟨a, vs, j, m, rfl, rfl, e1, by rw [← r.length]; exact hj, c _ _ (Go.setLst so e (r.set m dv)) h⟩

/-! ### slices -/
abbrev RO := Ro → Sto → (Option Int → Sto → Prop) → Prop
def lO (K : PySem.W.Frag) (y : DXw) (t : RO) : TO := fun σ H Q => ∃ ρ S R, SRv K σ H ρ ∧ SX K y H S ∧ t ρ S R ∧ ∀ i S' H', Go K H S H' S' → R i S' → Q i H'
def PDO (X : Cx) (y : DXw) (e : Option Expr) (t : RO) : Prop := PO X e (lO X.K y t)
def rNoP : RO := fun _ S Q => Q none S
def rPart (t : RE) : RO := fun ρ S Q => t ρ S fun d S1 => match d with
  | .int i => Q (some i) S1
  | _ => False
theorem pdo_none : PDO X y none rNoP := ⟨fun pins s σ H Q I h => by
  obtain ⟨ρ, S, R, sr, so, h, k⟩ := h
  exact po_none.run pins s σ H Q I (k none S H (Go.refl so.so) h)⟩
theorem pdo_some (h : PD X y e te) : PDO X y (some e) (rPart te) := ⟨fun pins s σ H Q I q => by
  refine (po_some h).run pins s σ H Q I ?_
  obtain ⟨ρ, S, R, sr, so, h, k⟩ := q
  refine ⟨ρ, S, _, sr, so, h, fun d S' v H' g dv hd => ?_⟩
  cases d with
  | int i => exact ⟨i, dv, k (some i) S' H' g hd⟩
  | _ => exact False.elim hd⟩
def cutD (xs : List D) (lo hi : Option Int) : List D := (xs.drop (HT.sIx xs.length 0 lo)).take (HT.sIx xs.length xs.length hi - HT.sIx xs.length 0 lo)
theorem cutD_dv {K : PySem.W.Frag} {H : Hp} {xs : List D} {vs : List V} (r : DVs K H xs vs) (lo hi : Option Int) : DVs K H (cutD xs lo hi) (cutV vs lo hi) := by
  unfold cutD cutV
  rw [← r.length]
  exact (r.drop _).take _
abbrev RSl := D → Option Int → Option Int → Sto → (D → Sto → Prop) → Prop
def dSl : RSl := fun d lo hi S R => match d with
  | .tup xs => R (.tup (cutD xs lo hi)) S
  | _ => ∃ xs, RdL S d xs ∧ ∀ p, S p = none → R (.ref p) (sup S p (.lst (cutD xs lo hi)))
def lsl (K : PySem.W.Frag) (q : RSl) : V → Option Int → Option Int → Hp → VK → Prop := fun v lo hi H Q => ∃ d S R, DV K H d v ∧ SOk K H S ∧ q d lo hi S R ∧ ∀ d S' z H', Go K H S H' S' → DV K H' d z → R d S' → Q z H'
theorem sd_sl : SlR X (lsl X.K dSl) := by
  have lst : ∀ {d : D} {lo hi : Option Int} {v : V} {S : Sto} {H : Hp} {R : D → Sto → Prop} {Q : VK}, SOk X.K H S → DV X.K H d v → (∃ xs, RdL S d xs ∧ ∀ p, S p = none → R (.ref p) (sup S p (.lst (cutD xs lo hi)))) → (∀ d S' z H', Go X.K H S H' S' → DV X.K H' d z → R d S' → Q z H') → rSlL X.K v lo hi H Q := fun so dv ⟨xs, hx, h⟩ k => by
    obtain ⟨a, vs, rfl, q, r⟩ := hx.sq so dv
    exact ⟨a, vs, rfl, q, fun p hp => k (.ref p) _ _ _ (Go.newLst so hp (cutD_dv r _ _)) rfl (h p (so.free hp))⟩
  intro pins s σ H x v vl vu lo hi sl Q I rx hs pl pu h
  obtain ⟨d, S, R, dv, so, h, k⟩ := h
  refine ((sl_tupA (X := X)).or (sl_list (X := X))) pins s σ H x v vl vu lo hi sl Q I rx hs pl pu ?_
  cases d with
  | tup xs =>
    obtain ⟨a, vs, rfl, q, r⟩ := dv
    have h : R (.tup (cutD xs lo hi)) S := h
    refine .inl ⟨a, vs, rfl, q.sq, fun hw => ?_, fun _ p hp => ?_⟩
    · have e : cutD xs lo hi = xs := by
        unfold cutD
        rw [r.length, hw.1, hw.2, ← r.length]
        simp
      rw [e] at h
      exact k (.tup xs) S _ H (Go.refl so) ⟨a, vs, rfl, q, r⟩ h
    · have g := Go.new (K := X.K) (o := .tup (cutV vs lo hi)) so hp
      exact k (.tup (cutD xs lo hi)) S _ _ g ⟨p, _, rfl, .inl upd_same, DVs.go g _ _ (cutD_dv r _ _)⟩ h
  | _ => exact .inr (lst so dv h k)
def rSl (te : RE) (tl th : RO) : RE := fun ρ S Q => te ρ S fun d S1 => tl ρ S1 fun l S2 => th ρ S2 fun u S3 => dSl d l u S3 Q
theorem pd_slice {lo hi : Option Expr} {tl th : RO} (he : PD X y e te) (hl : PDO X y lo tl) (hu : PDO X y hi th) : PD X y (.Subscript e (.Slice lo hi none p2) pos) (rSl te tl th) := by
  refine PD.of (pe_slice sd_sl he hl hu) fun σ H Q h => ?_
  obtain ⟨ρ, S, R, sr, so, h, k⟩ := h
  refine ⟨ρ, S, _, sr, so, h, fun d S1 v H1 g1 dv h1 => ⟨ρ, S1, _, sr.go g1, so.go g1, h1, fun l S2 H2 g2 h2 => ⟨ρ, S2, _, (sr.go g1).go g2, (so.go g1).go g2, h2, fun u S3 H3 g3 h3 => ?_⟩⟩⟩
  exact ⟨d, S3, R, DV.go (g2.trans g3) _ _ dv, g3.ok, h3, fun d S' z H' g dz hz => k d S' z H' (g1.trans (g2.trans (g3.trans g))) dz hz⟩

/-! ### methods of lists -/
abbrev RMt := D → List D → Sto → (D → Sto → Prop) → Prop
def isL : D → Sto → Prop
  | .ref a, S => ∃ xs, S a = some (.lst xs)
  | _, _ => False
def lmt (K : PySem.W.Frag) (q : RMt) : V → List V → Hp → VK → Prop := fun v vs H Q => ∃ d ds S R, DV K H d v ∧ DVs K H ds vs ∧ SOk K H S ∧ q d ds S R ∧ ∀ d S' z H', Go K H S H' S' → DV K H' d z → R d S' → Q z H'
def rBM (q : RMt) (to : RE) (ta : RA) : RE := fun ρ S Q => to ρ S fun o S1 => isL o S1 ∧ ta ρ S1 fun ds S2 => q o ds S2 Q
def rBM0 (q : RMt) (to : RE) : RE := fun ρ S Q => to ρ S fun o S1 => isL o S1 ∧ q o [] S1 Q
theorem isL_ty {K : PySem.W.Frag} {H : Hp} {S : Sto} (so : SOk K H S) {d : D} {v : V} (dv : DV K H d v) (h : isL d S) : tyV K "list" v H := by
  cases d with
  | ref a =>
    cases (show v = V.ref a from dv)
    obtain ⟨xs, e⟩ := h
    obtain ⟨vs, e1, _⟩ := so a _ e
    exact .inl ⟨rfl, vs, SqL.of e1⟩
  | _ => exact False.elim h
variable {name : Str} {id : String} {cpos : Pos}
theorem pd_lm {q : RMt} (slot : Slot "list" name id) (hty : typeOf (.builtin id) = pure (.type "method_descriptor")) (hm : MtR X id (lmt X.K q)) (ho : PD X y o to) (ha : PDA X y (e :: es) ta)
    (hbase : attributeBase o name X.env (eval o X.env) = eval o X.env := by rfl)
    (hfew : ((backTo cpos (starEach (e :: es) X.env)).all (fun x => !x.1) && (backToKw cpos (keywordEach [] X.env)).all (fun x => x.1.isSome)
      && decide ((e :: es).length + ([] : List Keyword).length + (if ([] : List Keyword).isEmpty then 0 else 1) < 30)) = true := by rfl)
    (hline : (apos.endLine == cpos.line) = true := by rfl) (hs : starEach (e :: es) X.env = (false, eval e X.env) :: starEach es X.env := by rfl) (hplain : (backTo cpos (starEach es X.env)).any (·.1) = false := by rfl) :
    PD X y (.Call (.Attribute o name apos) (e :: es) [] cpos) (rBM q to ta) :=
  PD.of (pe_bm PySem.F.plainAttrs_list slot hty hm ho ha hbase hfew hline hs hplain) fun σ H Q h => by
    obtain ⟨ρ, S, R, sr, so, h, k⟩ := h
    refine ⟨ρ, S, _, sr, so, h, fun d S1 v H1 g1 dv h1 => ⟨isL_ty g1.ok dv h1.1, ρ, S1, _, sr.go g1, so.go g1, h1.2, fun ds S2 vs H2 g2 dvs hn h2 => ?_⟩⟩
    exact ⟨d, ds, S2, R, DV.go g2 _ _ dv, dvs, g2.ok, h2, fun d S' z H' g dz hz => k d S' z H' (g1.trans (g2.trans g)) dz hz⟩
theorem pd_lm0 {q : RMt} (slot : Slot "list" name id) (hty : typeOf (.builtin id) = pure (.type "method_descriptor")) (hm : MtR X id (lmt X.K q)) (ho : PD X y o to)
    (hbase : attributeBase o name X.env (eval o X.env) = eval o X.env := by rfl) (hline : (apos.endLine == cpos.line) = true := by rfl) : PD X y (.Call (.Attribute o name apos) [] [] cpos) (rBM0 q to) :=
  PD.of (pe_bm0 PySem.F.plainAttrs_list slot hty hm ho hbase hline) fun σ H Q h => by
    obtain ⟨ρ, S, R, sr, so, h, k⟩ := h
    refine ⟨ρ, S, _, sr, so, h, fun d S1 v H1 g1 dv h1 => ⟨isL_ty g1.ok dv h1.1, ?_⟩⟩
    exact ⟨d, [], S1, R, dv, DVs.nil, g1.ok, h1.2, fun d S' z H' g dz hz => k d S' z H' (g1.trans g) dz hz⟩
def dAppend : RMt := fun o ds S R => match o, ds with
  | .ref a, [d] => ∃ xs, S a = some (.lst xs) ∧ xs.length < sizeLine ∧ R .non (sup S a (.lst (xs ++ [d])))
  | _, _ => False
theorem md_append : MtR X "list.append" (lmt X.K dAppend) := by
  intro pins s σ H v vs vv us Q I rv rs h
  obtain ⟨o, ds, S, R, dv, dvs, so, h, k⟩ := h
  refine mt_append pins s σ H v vs vv us Q I rv rs ?_
  unfold dAppend at h
  split at h
  · rename_i a d
    cases (show v = V.ref a from dv)
    obtain ⟨w, rfl, dw⟩ := dvs1 dvs
    obtain ⟨xs, e, hl, h⟩ := h
    obtain ⟨ws, e1, r⟩ := so a _ e
    exact ⟨a, ws, w, rfl, rfl, e1, by rw [← r.length]; exact hl, k .non _ _ _ (Go.setLst so e (r.append (DVs.cons dw DVs.nil))) rfl h⟩
  · exact h.elim
def dInsert : RMt := fun o ds S R => match o, ds with
  | .ref a, [.int i, d] => ∃ xs, S a = some (.lst xs) ∧ xs.length < sizeLine ∧ 0 ≤ i ∧ i < 2 ^ 63 ∧ R .non (sup S a (.lst (xs.take i.toNat ++ [d] ++ xs.drop i.toNat)))
  | _, _ => False
theorem md_insert : MtR X "list.insert" (lmt X.K dInsert) := by
  intro pins s σ H v vs vv us Q I rv rs h
  obtain ⟨o, ds, S, R, dv, dvs, so, h, k⟩ := h
  refine mt_insert pins s σ H v vs vv us Q I rv rs ?_
  unfold dInsert at h
  split at h
  · rename_i a i d
    cases (show v = V.ref a from dv)
    obtain ⟨w, w2, rfl, dw, dw2⟩ := dvs2 dvs
    cases (show w = V.int i from dw)
    obtain ⟨xs, e, hl, h0, h1, h⟩ := h
    obtain ⟨ws, e1, r⟩ := so a _ e
    exact ⟨a, ws, i, w2, rfl, rfl, e1, by rw [← r.length]; exact hl, h0, h1, k .non _ _ _ (Go.setLst so e (((r.take _).append (DVs.cons dw2 DVs.nil)).append (r.drop _))) rfl h⟩
  · exact h.elim
def dExtend : RMt := fun o ds S R => match o, ds with
  | .ref a, [.ref b] => ∃ xs zs, S a = some (.lst xs) ∧ S b = some (.lst zs) ∧ xs.length + zs.length ≤ sizeLine ∧ R .non (sup S a (.lst (xs ++ zs)))
  | _, _ => False
theorem md_extend : MtR X "list.extend" (lmt X.K dExtend) := by
  intro pins s σ H v vs vv us Q I rv rs h
  obtain ⟨o, ds, S, R, dv, dvs, so, h, k⟩ := h
  refine mt_extend pins s σ H v vs vv us Q I rv rs ?_
  unfold dExtend at h
  split at h
  · rename_i a b
    cases (show v = V.ref a from dv)
    obtain ⟨w, rfl, dw⟩ := dvs1 dvs
    cases (show w = V.ref b from dw)
    obtain ⟨xs, zs, e, e', hl, h⟩ := h
    obtain ⟨ws, e1, r⟩ := so a _ e
    obtain ⟨ws', e1', r'⟩ := so b _ e'
    exact ⟨a, b, ws, ws', rfl, rfl, e1, e1', by rw [← r.length, ← r'.length]; exact hl, k .non _ _ _ (Go.setLst so e (r.append r')) rfl h⟩
  · exact h.elim
end
end DL
set_option Elab.async false
set_option linter.all false
set_option maxRecDepth 100000
set_option maxHeartbeats 4000000
namespace DL
open PySem PySem.Spec PyProof.Rows L2
section
variable {X : Cx} {y : DXw} {pos p p2 pos' apos : Pos} {e a b o i value : Expr} {es : List Expr} {x : Str} {ta : RA} {te ti to td tv : RE}

/-! ### flat values in lists and tuples -/
def fl : D → V
  | .non => .non | .bl b => .bl b | .int i => .int i | .str x => .str x | _ => .ref 0
def fb : D → Bool
  | .non => true | .bl _ => true | .int _ => true | .str _ => true | _ => false
theorem fl_of {K : PySem.W.Frag} {H : Hp} {d : D} {v : V} (h : fb d = true) (dv : DV K H d v) : v = fl d ∧ flatV v = true := by
  cases d with
  | non => cases (show v = V.non from dv); exact ⟨rfl, rfl⟩
  | bl b => cases (show v = V.bl b from dv); exact ⟨rfl, rfl⟩
  | int b => cases (show v = V.int b from dv); exact ⟨rfl, rfl⟩
  | str b => cases (show v = V.str b from dv); exact ⟨rfl, rfl⟩
  | _ => cases h
theorem fls_of {K : PySem.W.Frag} {H : Hp} : ∀ {ds : List D} {vs : List V}, ds.all fb = true → DVs K H ds vs → vs = ds.map fl ∧ vs.all flatV = true
  | [], _, _, h => by cases (show _ = [] from h); exact ⟨rfl, rfl⟩
  | d :: ds, _, f, h => by
    obtain ⟨v, ws, rfl, r, q⟩ := h
    rw [List.all_cons, Bool.and_eq_true] at f
    obtain ⟨e1, f1⟩ := fl_of f.1 r
    obtain ⟨e2, f2⟩ := fls_of f.2 q
    exact ⟨by rw [e1, e2, List.map_cons], by rw [List.all_cons, f1, f2]; rfl⟩
def inD (x : D) (xs : List D) : Bool := inV (fl x) (xs.map fl)
def dIn (n : Bool) : ROp := fun x c S R => match c with
  | .tup xs => fb x = true ∧ xs.all fb = true ∧ R (.bl (if n then !inD x xs else inD x xs)) S
  | _ => ∃ xs, RdL S c xs ∧ fb x = true ∧ xs.all fb = true ∧ R (.bl (if n then !inD x xs else inD x xs)) S
theorem dIn_of {n : Bool} {x c : D} {S : Sto} {R : D → Sto → Prop} {H : Hp} {v w : V} {Q : VK} (so : SOk X.K H S) (dx : DV X.K H x v) (dc : DV X.K H c w) (h : dIn n x c S R) (k : ∀ d S' z H', Go X.K H S H' S' → DV X.K H' d z → R d S' → Q z H') : rIn X.K n v w H Q := by
  have fin : ∀ {a : Addr} {xs : List D} {vs : List V}, w = .ref a → (SqL X.K H a vs ∨ SqT X.K H a vs) → DVs X.K H xs vs → fb x = true → xs.all fb = true → R (.bl (if n then !inD x xs else inD x xs)) S → rIn X.K n v w H Q := fun {a xs vs} e q r f1 f2 h => by
    obtain ⟨e1, g1⟩ := fl_of f1 dx
    obtain ⟨e2, g2⟩ := fls_of f2 r
    refine ⟨a, vs, e, q, g1, g2, ?_⟩
    rw [e1, e2]
    exact k (.bl (if n then !inD x xs else inD x xs)) S _ H (Go.refl so) rfl h
  cases c with
  | tup xs =>
    obtain ⟨a, vs, e, q, r⟩ := dc
    exact fin e (.inr q.sq) r h.1 h.2.1 h.2.2
  | _ =>
    obtain ⟨xs, hx, f1, f2, h⟩ := h
    obtain ⟨a, vs, e, q, r⟩ := hx.sq so dc
    exact fin e (.inl q) r f1 f2 h
theorem od_in : OpR X (compareOp .In) (lop X.K (dIn false)) := by
  intro pins s σ H v w vv ww Q I rv rw' h
  obtain ⟨x, y, S, R, dx, dy, so, h, k⟩ := h
  exact op_in_seq pins s σ H v w vv ww Q I rv rw' (dIn_of so dx dy h k)
theorem od_notin : OpR X (compareOp .NotIn) (lop X.K (dIn true)) := by
  intro pins s σ H v w vv ww Q I rv rw' h
  obtain ⟨x, y, S, R, dx, dy, so, h, k⟩ := h
  exact op_notIn_seq pins s σ H v w vv ww Q I rv rw' (dIn_of so dx dy h k)

/-! ### dicts by ints and texts -/
def dkey : Key → D
  | .inl i => .int i
  | .inr x => .str x
def keyD : D → Option Key
  | .int i => some (.inl i)
  | .str x => some (.inr x)
  | _ => none
theorem keyD_v {K : PySem.W.Frag} {H : Hp} {d : D} {v : V} {k : Key} (h : keyD d = some k) (dv : DV K H d v) : v = kV k := by
  cases d with
  | int i => cases h; exact dv
  | str i => cases h; exact dv
  | _ => cases h
def dval (kvs : List (Key × D)) (k : Key) : Option D := (kvs.find? fun kv => decide (kv.1 = k)).map (·.2)
def dput (kvs : List (Key × D)) (k : Key) (v : D) : List (Key × D) := if kvs.any (fun kv => decide (kv.1 = k)) then kvs.map (fun kv => if kv.1 = k then (kv.1, v) else kv) else kvs ++ [(k, v)]
theorem DKs.val {K : PySem.W.Frag} {H : Hp} {ds : List (Key × D)} {vs : List (Key × V)} (h : DKs K H ds vs) (k : Key) : (dval ds k).isSome = (valV vs k).isSome ∧ ∀ d, dval ds k = some d → ∃ v, valV vs k = some v ∧ DV K H d v := by
  induction h with
  | nil => exact ⟨rfl, fun _ e => by cases e⟩
  | @cons k' d v ds vs r _ ih =>
    by_cases e : k' = k
    · subst e
      refine ⟨by simp [dval, valV, List.find?_cons], fun d' h => ⟨v, by simp [valV, List.find?_cons], ?_⟩⟩
      have : d = d' := by simpa [dval, List.find?_cons] using h
      rw [← this]; exact r
    · have e1 : dval ((k', d) :: ds) k = dval ds k := by simp [dval, List.find?_cons, e]
      have e2 : valV ((k', v) :: vs) k = valV vs k := valV_neg e
      rw [e1, e2]
      exact ih
theorem DKs.any {K : PySem.W.Frag} {H : Hp} {ds : List (Key × D)} {vs : List (Key × V)} (h : DKs K H ds vs) (k : Key) : (ds.any fun kv => decide (kv.1 = k)) = vs.any fun kv => decide (kv.1 = k) := by
  induction h with
  | nil => rfl
  | cons _ _ ih => rw [List.any_cons, List.any_cons, ih]
theorem DKs.append {K : PySem.W.Frag} {H : Hp} {ds : List (Key × D)} {vs : List (Key × V)} (h : DKs K H ds vs) {k : Key} {d : D} {v : V} (r : DV K H d v) : DKs K H (ds ++ [(k, d)]) (vs ++ [(k, v)]) := by
  induction h with
  | nil => exact .cons r .nil
  | cons q _ ih => exact .cons q ih
theorem DKs.put {K : PySem.W.Frag} {H : Hp} {ds : List (Key × D)} {vs : List (Key × V)} (h : DKs K H ds vs) (k : Key) {d : D} {v : V} (r : DV K H d v) : DKs K H (dput ds k d) (putK vs k v) := by
  have m : DKs K H (ds.map fun kv => if kv.1 = k then (kv.1, d) else kv) (vs.map fun kv => if kv.1 = k then (kv.1, v) else kv) := by
    induction h with
    | nil => exact .nil
    | @cons k' d' v' ds vs q _ ih =>
      rw [List.map_cons, List.map_cons]
      by_cases e : k' = k
      · rw [if_pos e, if_pos e]; exact .cons r ih
      · rw [if_neg e, if_neg e]; exact .cons q ih
  unfold dput putK
  rw [h.any k]
  split
  · exact m
  · exact h.append r
def rDNew : RE := fun _ S Q => ∀ p, S p = none → Q (.ref p) (sup S p (.dK []))
theorem pd_dnew : PD X y (.Dict [] [] pos) rDNew := by
  refine PD.of pe_dnewK fun σ H Q h => ?_
  obtain ⟨ρ, S, R, sr, so, h, k⟩ := h
  intro p hp
  exact k (.ref p) _ _ _ (Go.newDK so.so hp .nil) rfl (h p (so.so.free hp))
def isD (S : Sto) (o k : D) (f : Addr → List (Key × D) → Key → Prop) : Prop := match o with
  | .ref a => ∃ kvs key, S a = some (.dK kvs) ∧ keyD k = some key ∧ f a kvs key
  | _ => False
def rDGet (td ti : RE) : RE := fun ρ S Q => td ρ S fun o S1 => ti ρ S1 fun k S2 => isD S2 o k fun _ kvs key => ∃ d, dval kvs key = some d ∧ Q d S2
def rDIn (n : Bool) (ti td : RE) : RE := fun ρ S Q => ti ρ S fun k S1 => td ρ S1 fun o S2 => isD S2 o k fun _ kvs key => Q (.bl (if n then !(dval kvs key).isSome else (dval kvs key).isSome)) S2
theorem isD_of {K : PySem.W.Frag} {S : Sto} {H : Hp} {o k : D} {v w : V} {f : Addr → List (Key × D) → Key → Prop} (so : SOk K H S) (dv : DV K H o v) (dw : DV K H k w) (h : isD S o k f) : ∃ a kvs vs key, v = .ref a ∧ S a = some (.dK kvs) ∧ H a = some (.dK vs) ∧ DKs K H kvs vs ∧ w = kV key ∧ f a kvs key := by
  cases o with
  | ref a =>
    obtain ⟨kvs, key, e, ek, h⟩ := h
    obtain ⟨vs, e1, r⟩ := so a _ e
    exact ⟨a, kvs, vs, key, dv, e, e1, r, keyD_v ek dw, h⟩
  | _ => exact False.elim h
theorem pd_dget (hu : X.A.units + 1 < cLine) (ho : PD X y o td) (hi : PD X y i ti) (hs : NoSl i := by exact fun _ _ => rfl) : PD X y (.Subscript o i pos) (rDGet td ti) := by
  refine PD.of (pe_dget hu ho hi hs) fun σ H Q h => ?_
  obtain ⟨ρ, S, R, sr, so, h, k⟩ := h
  refine ⟨ρ, S, _, sr, so, h, fun x S1 v H1 g1 dv h1 => ⟨ρ, S1, _, sr.go g1, so.go g1, h1, fun z S2 w H2 g2 dw h2 => ?_⟩⟩
  obtain ⟨a, kvs, vs, key, rfl, _, e1, r, rfl, d, hd, h3⟩ := isD_of g2.ok (DV.go g2 _ _ dv) dw h2
  obtain ⟨u, hu, ru⟩ := (r.val key).2 d hd
  exact ⟨a, u, rfl, hu ▸ DGet.k e1, k d S2 u H2 (g1.trans g2) ru h3⟩
theorem din_read {n : Bool} {σ : L2.St} {H : Hp} {Q : VK} (h : lE X.K y (rDIn n ti td) σ H Q) : lE X.K y ti σ H fun w H1 => lE X.K y td σ H1 fun v H2 => ∃ a o, v = .ref a ∧ DGet H2 a w o ∧ Q (.bl (if n then !o.isSome else o.isSome)) H2 := by
  obtain ⟨ρ, S, R, sr, so, h, k⟩ := h
  refine ⟨ρ, S, _, sr, so, h, fun z S1 w H1 g1 dw h1 => ⟨ρ, S1, _, sr.go g1, so.go g1, h1, fun x S2 v H2 g2 dv h2 => ?_⟩⟩
  obtain ⟨a, kvs, vs, key, rfl, _, e1, r, rfl, h3⟩ := isD_of g2.ok dv (DV.go g2 _ _ dw) h2
  refine ⟨a, _, rfl, DGet.k e1, ?_⟩
  rw [← (r.val key).1]
  exact k (.bl (if n then !(dval kvs key).isSome else (dval kvs key).isSome)) S2 _ H2 (g1.trans g2) rfl h3
theorem pd_din (hu : X.A.units + 1 < cLine) (hi : PD X y i ti) (ho : PD X y o td) (hb : behindInMarks .In o = false := by rfl) : PD X y (.Compare i [.In] [o] pos) (rDIn false ti td) := PD.of (pe_cmp (pc_din hu hi ho) hb) fun _ _ _ h => din_read (n := false) h
theorem pd_dnotin (hu : X.A.units + 1 < cLine) (hi : PD X y i ti) (ho : PD X y o td) (hb : behindInMarks .NotIn o = false := by rfl) : PD X y (.Compare i [.NotIn] [o] pos) (rDIn true ti td) := PD.of (pe_cmp (pc_dnotin hu hi ho) hb) fun _ _ _ h => din_read (n := true) h
theorem pdt_din (hu : X.A.units + 1 < cLine) (hi : PD X y i ti) (ho : PD X y o td) (hb : behindInMarks .In o = false := by rfl) : PDT X y (.Compare i [.In] [o] pos) (rTst (rDIn false ti td)) := PDT.of (pt_cmp (pc_din hu hi ho) hb) fun _ _ _ h => tst_of (fun _ _ _ h => din_read (n := false) h) h
theorem pdt_dnotin (hu : X.A.units + 1 < cLine) (hi : PD X y i ti) (ho : PD X y o td) (hb : behindInMarks .NotIn o = false := by rfl) : PDT X y (.Compare i [.NotIn] [o] pos) (rTst (rDIn true ti td)) := PDT.of (pt_cmp (pc_dnotin hu hi ho) hb) fun _ _ _ h => tst_of (fun _ _ _ h => din_read (n := true) h) h
def rDPut (td ti tv : RE) : RS := fun E ρ S => tv ρ S fun d S1 => td ρ S1 fun o S2 => ti ρ S2 fun k S3 => isD S3 o k fun a kvs key => kvs.length < sizeLine ∧ E.nx ρ (sup S3 a (.dK (dput kvs key d)))
theorem pd_dput (hu : X.A.units + 1 < cLine) (ho : PD X y o td) (hi : PD X y i ti) (hv : PD X y value tv) (hs : swapsWith value (some (.Subscript o i pos')) pos.line X.env = pure false := by rfl) : PDS X y (.Assign [.Subscript o i pos'] value pos) (rDPut td ti tv) := by
  refine PDS.of (ps_dput hu ho hi hv hs) fun D σ H h => ?_
  obtain ⟨ρ, S, E, sr, so, h, eo⟩ := h
  refine ⟨ρ, S, _, sr, so, h, fun d S1 u H1 g1 du h1 => ⟨ρ, S1, _, sr.go g1, so.go g1, h1, fun x S2 v H2 g2 dv h2 => ⟨ρ, S2, _, (sr.go g1).go g2, (so.go g1).go g2, h2, fun z S3 w H3 g3 dw h3 => ?_⟩⟩⟩
  obtain ⟨a, kvs, vs, key, rfl, e0, e1, r, rfl, hl, h4⟩ := isD_of g3.ok (DV.go g3 _ _ dv) dw h3
  have gA := g1.trans (g2.trans g3)
  have g4 := Go.setDK g3.ok e0 (r.put key (DV.go (g2.trans g3) _ _ du))
  exact ⟨a, _, rfl, DPut.k e1 (by rw [← r.length]; exact hl), eo.nx ρ _ σ _ (gA.trans g4) ((sr.go gA).go g4) h4⟩

/-! ### tuple(range(..)) -/
def rRgT (ta : RA) : RE := fun ρ S Q => ta ρ S fun ds S1 => match ds with
  | [.int j] => j ≤ 16777216 ∧ Q (.tup (rgI 0 j.toNat)) S1
  | [.int i, .int j] => (0 ≤ i ∧ i ≤ 16777216 ∧ 0 ≤ j ∧ j ≤ 16777216) ∧ Q (.tup (rgI i (j - i).toNat)) S1
  | _ => False
theorem rgI_dv {K : PySem.W.Frag} {H : Hp} {i j : Int} : DVs K H (rgI i (j - i).toNat) (rgV i j) := by
  unfold rgI rgV
  generalize (List.range (j - i).toNat) = l
  induction l with
  | nil => exact DVs.nil
  | cons a l ih => exact DVs.cons rfl ih
theorem pd_tupRg1 {ti : RE} {p q : Pos} (hc : X.calm = true) (hm : X.mg "tuple" = none) (hm2 : X.mg "range" = none) (hi : PD X y a ti) (hg : Gl X "tuple" := by rfl) (hg2 : Gl X "range" := by rfl) (na : starEach [.Call (.Name "range" q) [a] [] p2] X.env = (false, eval (.Call (.Name "range" q) [a] [] p2) X.env) :: starEach [] X.env := by rfl)
    (nb : starEach [a] X.env = (false, eval a X.env) :: starEach [] X.env := by rfl) : PD X y (.Call (.Name "tuple" p) [.Call (.Name "range" q) [a] [] p2] [] pos) (fun ρ S Q => ti ρ S fun d S1 => match d with | .int j => (0 ≤ j ∧ j ≤ 16777216) ∧ Q (.tup (rgI 0 j.toNat)) S1 | _ => False) := by
  refine PD.of (pe_tupRg hc hg hm (prg_1 hg2 hm2 hi nb) na) fun σ H Q h => ?_
  obtain ⟨ρ, S, R, sr, so, h, k⟩ := h
  refine ⟨ρ, S, _, sr, so, h, fun d S1 v H1 g dv hd => ?_⟩
  cases d with
  | int j =>
    refine ⟨j, dv, RgOk.of_le (by omega) hd.1.2 (by omega) hd.1.1, fun q hq => ?_⟩
    have g2 := Go.new (K := X.K) (o := .tup (rgV 0 j)) g.ok hq
    have e : (j - 0).toNat = j.toNat := by omega
    exact k (.tup (rgI 0 j.toNat)) S1 _ _ (g.trans g2) ⟨q, _, rfl, .inl upd_same, e ▸ rgI_dv⟩ hd.2
  | _ => exact False.elim hd
theorem pd_tupRg2 {ti tj : RE} {p q : Pos} (hc : X.calm = true) (hm : X.mg "tuple" = none) (hm2 : X.mg "range" = none) (hi : PD X y a ti) (hj : PD X y b tj) (hg : Gl X "tuple" := by rfl) (hg2 : Gl X "range" := by rfl) (na : starEach [.Call (.Name "range" q) [a, b] [] p2] X.env = (false, eval (.Call (.Name "range" q) [a, b] [] p2) X.env) :: starEach [] X.env := by rfl)
    (nb : starEach [a, b] X.env = (false, eval a X.env) :: starEach [b] X.env := by rfl) (nc : starEach [b] X.env = (false, eval b X.env) :: starEach [] X.env := by rfl) (hp : (backTo p2 (starEach [b] X.env)).any (·.1) = false := by rfl) : PD X y (.Call (.Name "tuple" p) [.Call (.Name "range" q) [a, b] [] p2] [] pos)
      (fun ρ S Q => ti ρ S fun d S1 => tj ρ S1 fun f S2 => match d, f with | .int i, .int j => (0 ≤ i ∧ i ≤ 16777216 ∧ 0 ≤ j ∧ j ≤ 16777216) ∧ Q (.tup (rgI i (j - i).toNat)) S2 | _, _ => False) := by
  refine PD.of (pe_tupRg hc hg hm (prg_2 hg2 hm2 hi hj nb nc hp) na) fun σ H Q h => ?_
  obtain ⟨ρ, S, R, sr, so, h, k⟩ := h
  refine ⟨ρ, S, _, sr, so, h, fun d S1 v H1 g1 dv hd => ⟨ρ, S1, _, sr.go g1, so.go g1, hd, fun f S2 w H2 g2 dw hf => ?_⟩⟩
  cases d <;> cases f <;> first | exact False.elim hf | skip
  case int.int i j =>
    cases (show v = V.int i from dv); cases (show w = V.int j from dw)
    refine ⟨i, j, rfl, rfl, RgOk.of_le hf.1.1 hf.1.2.2.2 hf.1.2.1 hf.1.2.2.1, fun q hq => ?_⟩
    have g3 := Go.new (K := X.K) (o := .tup (rgV i j)) g2.ok hq
    exact k (.tup (rgI i (j - i).toNat)) S2 _ _ (g1.trans (g2.trans g3)) ⟨q, _, rfl, .inl upd_same, rgI_dv⟩ hf.2
/-! ### x.bit_length(), factorial, comb -/
def rBits (te : RE) : RE := fun ρ S Q => te ρ S fun d S1 => match d with
  | .int i => Q (.int (Builtin.Int.intBits i : Nat)) S1
  | _ => False
theorem pd_bits (ho : PD X y o te) (hbase : attributeBase o "bit_length" X.env (eval o X.env) = eval o X.env := by rfl) (hline : (apos.endLine == pos.line) = true := by rfl) : PD X y (.Call (.Attribute o "bit_length" apos) [] [] pos) (rBits te) := by
  refine PD.of (pe_bits ho hbase hline) fun σ H Q h => ?_
  obtain ⟨ρ, S, R, sr, so, h, k⟩ := h
  refine ⟨ρ, S, _, sr, so, h, fun d S1 v H1 g dv hd => ?_⟩
  cases d with
  | int i => exact ⟨i, dv, k (.int (Builtin.Int.intBits i : Nat)) S1 _ H1 g rfl hd⟩
  | _ => exact False.elim hd
def dFact : RCall := fun ds S Q => match ds with
  | [.int i] => (0 ≤ i ∧ i ≤ 20000) ∧ Q (.int ((Builtin.Math.factorialNat i.toNat : Nat) : Int)) S
  | _ => False
theorem cd_factorial : CallR X (.builtin "math.factorial") (lcl X.K dFact) := by
  intro pins s σ H vs us Q I rv h
  obtain ⟨ds, S, R, dv, so, h, k⟩ := h
  unfold dFact at h
  split at h
  · rename_i i
    obtain ⟨v, rfl, r⟩ := dvs1 dv
    cases (show v = V.int i from r)
    obtain ⟨u, rfl, t, rfl⟩ := vals1 rv
    exact PySem.W.mc_factorial h.1.1 h.1.2 fun _ => ⟨.int _, H, I.tok _, ⟨_, rfl⟩, k (.int _) S _ H (Go.refl so) rfl h.2⟩
  · exact h.elim
def dComb : RCall := fun ds S Q => match ds with
  | [.int i, .int j] => (0 ≤ i ∧ 0 ≤ j ∧ i ≤ 9000) ∧ Q (.int (PySem.W.mcComb i j)) S
  | _ => False
theorem cd_comb : CallR X (.builtin "math.comb") (lcl X.K dComb) := by
  intro pins s σ H vs us Q I rv h
  obtain ⟨ds, S, R, dv, so, h, k⟩ := h
  unfold dComb at h
  split at h
  · rename_i i j
    obtain ⟨v, w, rfl, r1, r2⟩ := dvs2 dv
    cases (show v = V.int i from r1)
    cases (show w = V.int j from r2)
    obtain ⟨u, u', rfl, ⟨t, rfl⟩, ⟨t', rfl⟩⟩ := vals2 rv
    exact PySem.W.mc_comb h.1.1 h.1.2.1 (by have := h.1.2.2; omega) (.inr (by have := h.1.2.2; omega)) fun _ => ⟨.int _, H, I.tok _, ⟨_, rfl⟩, k (.int _) S _ H (Go.refl so) rfl h.2⟩
  · exact h.elim

/-! ### calls with keywords -/
def rCallK (y : DXw) (spec : DSp) (gD : List D → List D → List D) (ta tk : RA) : RE := fun ρ S Q => ta ρ S fun ds S1 => tk ρ S1 fun zs S2 => spec (gD ds zs) S2 Q fun C d S' => y.d C d ρ S'
structure KBD (K : PySem.W.Frag) (fd : FuncData) (ps ks : List Str) (g : List Value → List Value → List Value) (gD : List D → List D → List D) : Prop where
  to : ∀ (s : Shared) (us ws : List Value), K.In s.heap → (g us ws).length = ps.length → BindsTo s fd ⟨us, ks.zip ws⟩ (ps.zip (g us ws))
  rel : ∀ {H : Hp} {ds zs : List D} {vs ws : List V} {us xs : List Value}, DVs K H ds vs → DVs K H zs ws → Vals vs us → Vals ws xs → ∃ qs, DVs K H (gD ds zs) qs ∧ Vals qs (g us xs)
variable {k : Nat} {f : Addr} {fd : FuncData} {ps ks : List Str} {spec : DSp} {kws : List Keyword} {g : List Value → List Value → List Value} {gD : List D → List D → List D}
theorem run_K {pins : List (Addr × Obj)} {σ : L2.St} {H : Hp} {s : Shared} {Q : VK} {us ws : List Value} {qs : List V} (tk : Takes X y.W) (G : FnOk X.prog X.w X.K X.mg X.base (L2.CX X.prog X.w) k f fd ps (toSp X.K spec)) (hr : Room k X.A) (hb : KBD X.K fd ps ks g gD)
    (I : Inv X pins σ H s) (r : Vals qs (g us ws)) (h : toSp X.K spec qs H Q (WE y.W σ)) : wpAny (model X.prog X.w) X.A (call (.ref f) us (ks.zip ws)) (EP X pins σ Q) X.xe s := by
  have hl : (g us ws).length = ps.length := by rw [← r.length]; exact G.len _ _ _ _ h
  refine wpAny_call (codeAny_mono (G.run X.A X.stack s H ⟨us, ks.zip ws⟩ (g us ws) qs Q _ hr I.env0 (hb.to s us ws I.kIn hl) r h) fun r s' hq => ?_)
  cases r with
  | error e => exact passAt tk σ pins H s e s' I hq
  | ok fl =>
    cases fl with
    | ret u => exact I.after hq
    | next => exact False.elim hq
    | brk => exact False.elim hq
    | cont => exact False.elim hq
theorem pd_callK0 {tkk : RA} {n : Nat} (tk : Takes X y.W) (G : FnOk X.prog X.w X.K X.mg X.base (L2.CX X.prog X.w) k f fd ps (toSp X.K spec)) (hr : Room k X.A) (hm : X.mg x = some (.ref f)) (hk : PySem.W.keepIn X.K (.ref f) = true) (hb : KBD X.K fd ps ks g gD) (hkw : RdK X y kws n tkk)
    (hg : Gl X x := by rfl) (hall : (backToKw pos (keywordEach kws X.env)).all (·.1.isSome) = true := by rfl) (hks : (backToKw pos (keywordEach kws X.env)).filterMap (·.1) = ks := by rfl)
    (hdb : (x == ("__debug__" : Str)) = false := by decide) (hpl : ((backTo pos (starEach [] X.env)).any (·.1) || (backToKw pos (keywordEach kws X.env)).any (·.1.isNone)) = false := by rfl) :
    PD X y (.Call (.Name x p) [] kws pos) (rCallK y spec gD rNil tkk) := by
  refine ⟨fun pins s σ H Q I h => ?_⟩
  obtain ⟨ρ, S, R, sr, so, h, c⟩ := h
  refine wpAny_Call_Name_kw (ld_glob I hg hm ?_ hdb)
  refine PySem.W.callWith_KW0 (h₀ := X.base) I.ok.mod.kin hk hall ?_ hpl
  have hkr := hkw.run pos pins s σ H (fun vs H1 => ∃ zs S1, Go X.K H S H1 S1 ∧ DVs X.K H1 zs vs ∧ spec (gD [] zs) S1 R fun C d S' => y.d C d ρ S') I ⟨ρ, S, _, sr, so, h, fun zs S1 vs H1 g1 dvs _ h1 => ⟨zs, S1, g1, dvs, h1⟩⟩
  refine thn hkr fun ws s2 ⟨vs, H2, I2, rz, zs, S2, g2, dvs, h2⟩ => ⟨I2.kIn, ?_⟩
  rw [hks]
  obtain ⟨qs, hq1, hq2⟩ := hb.rel (H := H2) (ds := []) (vs := []) (us := []) DVs.nil dvs .nil rz
  exact run_K tk G hr hb I2 hq2 ⟨gD [] zs, S2, R, _, hq1, g2.ok, h2, fun d S3 v H3 g3 dv q => c d S3 v H3 (g2.trans g3) dv q, fun C d S3 dx w H3 g3 e dw q => (so.go g2).xo C d ρ S3 dx w σ H3 g3 (sr.go (g2.trans g3)) e dw q⟩
theorem pd_callK {tkk : RA} {n : Nat} (tk : Takes X y.W) (G : FnOk X.prog X.w X.K X.mg X.base (L2.CX X.prog X.w) k f fd ps (toSp X.K spec)) (hr : Room k X.A) (hm : X.mg x = some (.ref f)) (hk : PySem.W.keepIn X.K (.ref f) = true) (hb : KBD X.K fd ps ks g gD) (ha : PDA X y (e :: es) ta) (hkw : RdK X y kws n tkk)
    (hg : Gl X x := by rfl) (hall : (backToKw pos (keywordEach kws X.env)).all (·.1.isSome) = true := by rfl) (hks : (backToKw pos (keywordEach kws X.env)).filterMap (·.1) = ks := by rfl)
    (hdb : (x == ("__debug__" : Str)) = false := by decide) (he : starEach (e :: es) X.env = (false, eval e X.env) :: starEach es X.env := by rfl) (hpl : ((backTo pos (starEach (e :: es) X.env)).any (·.1) || (backToKw pos (keywordEach kws X.env)).any (·.1.isNone)) = false := by rfl) :
    PD X y (.Call (.Name x p) (e :: es) kws pos) (rCallK y spec gD ta tkk) := by
  refine ⟨fun pins s σ H Q I h => ?_⟩
  obtain ⟨ρ, S, R, sr, so, h, c⟩ := h
  refine wpAny_Call_Name_kw (ld_glob I hg hm ?_ hdb)
  have har := ha.run pos pins s σ H (fun vs H1 => ∃ ds S1, Go X.K H S H1 S1 ∧ DVs X.K H1 ds vs ∧ tkk ρ S1 fun zs S2 => spec (gD ds zs) S2 R fun C d S' => y.d C d ρ S') I ⟨ρ, S, _, sr, so, h, fun ds S1 vs H1 g1 dvs _ h1 => ⟨ds, S1, g1, dvs, h1⟩⟩
  refine PySem.W.callWith_KW (h₀ := X.base) I.ok.mod.kin hk hall (thn har fun us s1 ⟨vs, H1, I1, r, ds, S1, g1, dv1, h1⟩ => ?_) hpl he
  have hkr := hkw.run pos pins s1 σ H1 (fun vs H2 => ∃ zs S2, Go X.K H1 S1 H2 S2 ∧ DVs X.K H2 zs vs ∧ spec (gD ds zs) S2 R fun C d S' => y.d C d ρ S') I1 ⟨ρ, S1, _, sr.go g1, so.go g1, h1, fun zs S2 vs H2 g2 dvs _ h2 => ⟨zs, S2, g2, dvs, h2⟩⟩
  refine thn hkr fun ws s2 ⟨ws', H2, I2, rz, zs, S2, g2, dv2, h2⟩ => ⟨I2.kIn, ?_⟩
  rw [hks]
  obtain ⟨qs, hq1, hq2⟩ := hb.rel (H := H2) (DVs.go g2 _ _ dv1) dv2 r rz
  have gA := g1.trans g2
  exact run_K tk G hr hb I2 hq2 ⟨gD ds zs, S2, R, _, hq1, gA.ok, h2, fun d S3 v H3 g3 dv q => c d S3 v H3 (gA.trans g3) dv q, fun C d S3 dx w H3 g3 e dw q => (so.go gA).xo C d ρ S3 dx w σ H3 g3 (sr.go (gA.trans g3)) e dw q⟩
end
end DL
set_option Elab.async false
set_option linter.all false
set_option maxRecDepth 100000
set_option maxHeartbeats 4000000
namespace DL
open PySem PySem.Spec PyProof.Rows L2
/-! ### fractions -/
def fr (q : Rat) : D := .tup [.int q.num, .int (q.den : Int)]
theorem low_num {t b : Int} (hb : 0 < b) : t / ((Nat.gcd t.natAbs b.natAbs : Nat) : Int) = ((t : Rat) / (b : Rat)).num := by
  rw [← Rat.divInt_eq_div, Rat.num_divInt, Int.sign_eq_one_of_pos hb, Int.one_mul, Int.gcd, Nat.gcd_comm]
theorem low_den {t b : Int} (hb : 0 < b) : b / ((Nat.gcd t.natAbs b.natAbs : Nat) : Int) = (((t : Rat) / (b : Rat)).den : Int) := by
  rw [← Rat.divInt_eq_div, Rat.den_divInt, if_neg (by omega), Int.gcd, Nat.gcd_comm]
  have : (b.natAbs : Int) = b := by omega
  rw [Int.natCast_ediv, this]
theorem low_fr {t b : Int} (hb : 0 < b) : D.tup [.int (t / ((Nat.gcd t.natAbs b.natAbs : Nat) : Int)), .int (b / ((Nat.gcd t.natAbs b.natAbs : Nat) : Int))] = fr ((t : Rat) / (b : Rat)) := by
  unfold fr
  rw [← low_num hb, ← low_den hb]
theorem den_pos' (q : Rat) : (0 : Int) < (q.den : Int) := by have := q.den_pos; omega
theorem num_div_den' (q : Rat) : ((q.num : Int) : Rat) / ((q.den : Int) : Rat) = q := by
  rw [← Rat.divInt_eq_div]; exact Rat.num_divInt_den q
theorem mul_fr (a b : Rat) : (((a.num * b.num : Int) : Rat) / (((a.den : Int) * (b.den : Int) : Int) : Rat)) = a * b := by
  have ha := num_div_den' a
  have hb := num_div_den' b
  have da : ((a.den : Int) : Rat) ≠ 0 := by have := a.den_nz; simpa using this
  have db : ((b.den : Int) : Rat) ≠ 0 := by have := b.den_nz; simpa using this
  rw [Rat.intCast_mul, Rat.intCast_mul]
  generalize ((a.num : Int) : Rat) = x at *
  generalize ((b.num : Int) : Rat) = y at *
  generalize ((a.den : Int) : Rat) = u at *
  generalize ((b.den : Int) : Rat) = v at *
  subst ha hb
  grind
theorem add_fr (a b : Rat) : (((a.num * (b.den : Int) + b.num * (a.den : Int) : Int) : Rat) / (((a.den : Int) * (b.den : Int) : Int) : Rat)) = a + b := by
  have ha := num_div_den' a
  have hb := num_div_den' b
  have da : ((a.den : Int) : Rat) ≠ 0 := by have := a.den_nz; simpa using this
  have db : ((b.den : Int) : Rat) ≠ 0 := by have := b.den_nz; simpa using this
  rw [Rat.intCast_add, Rat.intCast_mul, Rat.intCast_mul, Rat.intCast_mul]
  generalize ((a.num : Int) : Rat) = x at *
  generalize ((b.num : Int) : Rat) = y at *
  generalize ((a.den : Int) : Rat) = u at *
  generalize ((b.den : Int) : Rat) = v at *
  subst ha hb
  grind
/-! ### sizes -/
theorem gcd_w {t b : Int} (hb : 0 < b) {n : Nat} (h : b.natAbs < 2 ^ n) (h0 : 0 < n) (h9 : n ≤ 9000) (z : Int) : CDivW z ((Nat.gcd t.natAbs b.natAbs : Nat) : Int) := by
  have h1 : 0 < Nat.gcd t.natAbs b.natAbs := Nat.gcd_pos_of_pos_right _ (by omega)
  have h2 : Nat.gcd t.natAbs b.natAbs ≤ b.natAbs := Nat.gcd_le_right _ (by omega)
  exact wide_div (b := n) (by omega) (by rw [Int.natAbs_natCast]; omega) h0 h9
theorem small_r {i j : Int} (h1 : -(2 ^ 64) < j) (h2 : j < 2 ^ 64) : CMulW i j ∨ CMul i j := .inr (.inr ⟨h1, h2⟩)
theorem small_l {i j : Int} (h1 : -(2 ^ 64) < i) (h2 : i < 2 ^ 64) : CMulW i j ∨ CMul i j := .inr (.inl ⟨h1, h2⟩)
theorem div_s {i j : Int} (h : 0 < j) (hb : j < 2 ^ 8000) : CDivW i j := wide_div (b := 8000) h (by omega) (by decide) (by decide)
end DL
set_option Elab.async false
set_option linter.all false
set_option maxRecDepth 100000
set_option maxHeartbeats 4000000
namespace DL
open PySem PySem.Spec PyProof.Rows L2
/-! ### loops -/
theorem for_rg {lo : Int} {n : Nat} {g : RG} {tb : RS} {E : DEnds} {ρ : Ro} {S : Sto} (W : Nat → Ro → Sto → Prop) (h0 : W 0 ρ S)
    (hs : ∀ (i : Nat) ρ' S', i < n → W i ρ' S' → g (.int (lo + (i : Int))) ρ' S' fun ρ2 S2 => tb { E with nx := W (i + 1), ct := W (i + 1), bk := E.nx } ρ2 S2) (hd : ∀ ρ' S', W n ρ' S' → E.nx ρ' S') :
    ∃ W : Nat → Ro → Sto → Prop, W 0 ρ S ∧ ∀ i ρ' S', W i ρ' S' → (fun (_ : Sto) => True) S' ∧
      (∀ x, (rgI lo n)[i]? = some x → g x ρ' S' fun ρ2 S2 => tb { E with nx := W (i + 1), ct := W (i + 1), bk := E.nx } ρ2 S2) ∧ (i = (rgI lo n).length → E.nx ρ' S') := by
  refine ⟨W, h0, fun i ρ' S' h => ⟨trivial, fun x hx => ?_, fun e => ?_⟩⟩
  · obtain ⟨hi, rfl⟩ := rgI_inv hx
    exact hs i ρ' S' hi h
  · rw [rgI_len] at e
    subst e
    exact hd ρ' S' h
theorem for_xs {xs : List D} {src : Sto → Prop} {g : RG} {tb : RS} {E : DEnds} {ρ : Ro} {S : Sto} (W : Nat → Ro → Sto → Prop) (h0 : W 0 ρ S) (hq : ∀ i ρ' S', W i ρ' S' → src S')
    (hs : ∀ (i : Nat) x ρ' S', xs[i]? = some x → W i ρ' S' → g x ρ' S' fun ρ2 S2 => tb { E with nx := W (i + 1), ct := W (i + 1), bk := E.nx } ρ2 S2) (hd : ∀ ρ' S', W xs.length ρ' S' → E.nx ρ' S') :
    ∃ W : Nat → Ro → Sto → Prop, W 0 ρ S ∧ ∀ i ρ' S', W i ρ' S' → src S' ∧
      (∀ x, xs[i]? = some x → g x ρ' S' fun ρ2 S2 => tb { E with nx := W (i + 1), ct := W (i + 1), bk := E.nx } ρ2 S2) ∧ (i = xs.length → E.nx ρ' S') :=
  ⟨W, h0, fun i ρ' S' h => ⟨hq i ρ' S' h, fun x hx => hs i x ρ' S' hx h, fun e => by subst e; exact hd ρ' S' h⟩⟩
/-- a comprehension whose elements are values f i x, the store but growing -/
def Ext (S S' : Sto) : Prop := ∀ a c, S a = some c → S' a = some c
theorem Ext.refl (S : Sto) : Ext S S := fun _ _ h => h
theorem Ext.trans {S S1 S2 : Sto} (a : Ext S S1) (b : Ext S1 S2) : Ext S S2 := fun c o h => b c o (a c o h)
theorem Ext.new {S : Sto} {p : Addr} (h : S p = none) (c : Cell) : Ext S (sup S p c) := fun a o e => by
  rw [sup_ne (fun z => ?_)]
  · exact e
  · subst z; rw [h] at e; cases e
theorem Ext.free {S S' : Sto} (e : Ext S S') {p : Addr} (h : S' p = none) : S p = none := by
  cases q : S p with
  | none => rfl
  | some o => rw [e p o q] at h; cases h
theorem Ext.rd {S S' : Sto} (e : Ext S S') {d : D} {xs : List D} (h : RdL S d xs) : RdL S' d xs := by
  rcases h with ⟨a, rfl, h⟩ | rfl
  · exact .inl ⟨a, rfl, e _ _ h⟩
  · exact .inr rfl
mutual
theorem Pat.imp : ∀ (p : Pat) (d : D) (ρ : Ro) (k k' : Ro → Prop), (∀ ρ', k ρ' → k' ρ') → Pat.put p d ρ k → Pat.put p d ρ k'
  | .n i, d, ρ, k, k', m, h => m _ h
  | .t ps, d, ρ, k, k', m, h => by
    cases d with
    | tup xs => exact Pat.imps ps xs ρ k k' m h
    | _ => exact False.elim h
theorem Pat.imps : ∀ (ps : List Pat) (ds : List D) (ρ : Ro) (k k' : Ro → Prop), (∀ ρ', k ρ' → k' ρ') → Pat.puts ps ds ρ k → Pat.puts ps ds ρ k'
  | [], ds, ρ, k, k', m, h => by
    cases ds with
    | nil => exact m _ h
    | cons _ _ => exact False.elim h
  | p :: ps, ds, ρ, k, k', m, h => by
    cases ds with
    | nil => exact False.elim h
    | cons d ds => exact Pat.imp p d ρ _ _ (fun ρ' h => Pat.imps ps ds ρ' k k' m h) h
end
def WM (n : Nat) (f : Nat → D) (S : Sto) : Nat → List D → Sto → Prop := fun i acc S' => i ≤ n ∧ acc = (List.range i).map f ∧ Ext S S'
theorem lc_rgm {lo : Int} {n : Nat} {p : Pat} {tt : RT} {te : RE} {vs : List Nat} {ρ : Ro} {S : Sto} {G : Addr → Sto → List D → Prop} (f : Nat → D)
    (hs : ∀ (i : Nat) acc S', i < n → WM n f S i acc S' → Pat.put p (.int (lo + (i : Int))) (dwipe ρ vs) fun ρ2 => tt ρ2 S' fun b S3 => IFB b (te ρ2 S3 fun d S4 => acc.length < sizeLine ∧ WM n f S (i + 1) (acc ++ [d]) S4) (WM n f S (i + 1) acc S3))
    (hd : ∀ S' q, Ext S S' → S' q = none → G q S' ((List.range n).map f)) :
    ∃ W : Nat → List D → Sto → Prop, W 0 [] S ∧ ∀ i acc S', W i acc S' → (fun (_ : Sto) => True) S' ∧
      (∀ x, (rgI lo n)[i]? = some x → Pat.put p x (dwipe ρ vs) fun ρ2 => tt ρ2 S' fun b S3 => IFB b (te ρ2 S3 fun d S4 => acc.length < sizeLine ∧ W (i + 1) (acc ++ [d]) S4) (W (i + 1) acc S3)) ∧
      (i = (rgI lo n).length → ∀ p, S' p = none → G p S' acc) := by
  refine ⟨WM n f S, ⟨Nat.zero_le _, by simp, Ext.refl S⟩, fun i acc S' w => ⟨trivial, fun x hx => ?_, fun h q hq => ?_⟩⟩
  · obtain ⟨hi, rfl⟩ := rgI_inv hx
    exact hs i acc S' hi w
  · rw [rgI_len] at h
    subst h
    obtain ⟨_, rfl, e⟩ := w
    exact hd S' q e hq
theorem lc_leaf {n i : Nat} {f : Nat → D} {S S' S4 : Sto} {acc : List D} {d : D} (hi : i < n) (w : WM n f S i acc S') (hn : n ≤ sizeLine) (hd : d = f i) (he : Ext S' S4) : acc.length < sizeLine ∧ WM n f S (i + 1) (acc ++ [d]) S4 := by
  obtain ⟨_, rfl, e⟩ := w
  refine ⟨by simp; omega, hi, ?_, e.trans he⟩
  rw [List.range_succ, List.map_append, hd]
  rfl
/-- over the items of a list -/
def WL (xs : List D) (f : D → D) (S : Sto) : Nat → List D → Sto → Prop := fun i acc S' => i ≤ xs.length ∧ acc = (xs.take i).map f ∧ Ext S S'
theorem lc_xsm {xs : List D} {src : Sto → Prop} {p : Pat} {tt : RT} {te : RE} {vs : List Nat} {ρ : Ro} {S : Sto} {G : Addr → Sto → List D → Prop} (f : D → D) (hq : ∀ S', Ext S S' → src S')
    (hs : ∀ (i : Nat) x acc S', xs[i]? = some x → WL xs f S i acc S' → Pat.put p x (dwipe ρ vs) fun ρ2 => tt ρ2 S' fun b S3 => IFB b (te ρ2 S3 fun d S4 => acc.length < sizeLine ∧ WL xs f S (i + 1) (acc ++ [d]) S4) (WL xs f S (i + 1) acc S3))
    (hd : ∀ S' q, Ext S S' → S' q = none → G q S' (xs.map f)) :
    ∃ W : Nat → List D → Sto → Prop, W 0 [] S ∧ ∀ i acc S', W i acc S' → src S' ∧
      (∀ x, xs[i]? = some x → Pat.put p x (dwipe ρ vs) fun ρ2 => tt ρ2 S' fun b S3 => IFB b (te ρ2 S3 fun d S4 => acc.length < sizeLine ∧ W (i + 1) (acc ++ [d]) S4) (W (i + 1) acc S3)) ∧
      (i = xs.length → ∀ p, S' p = none → G p S' acc) := by
  refine ⟨WL xs f S, ⟨Nat.zero_le _, by simp, Ext.refl S⟩, fun i acc S' w => ⟨hq S' w.2.2, fun x hx => hs i x acc S' hx w, fun h q hq => ?_⟩⟩
  subst h
  obtain ⟨_, rfl, e⟩ := w
  rw [List.take_length]
  exact hd S' q e hq
theorem lc_leafL {xs : List D} {i : Nat} {f : D → D} {S S' S4 : Sto} {acc : List D} {d x : D} (hx : xs[i]? = some x) (w : WL xs f S i acc S') (hn : xs.length ≤ sizeLine) (hd : d = f x) (he : Ext S' S4) : acc.length < sizeLine ∧ WL xs f S (i + 1) (acc ++ [d]) S4 := by
  obtain ⟨_, rfl, e⟩ := w
  have hi : i < xs.length := (List.getElem?_eq_some_iff.mp hx).1
  refine ⟨by simp; omega, hi, ?_, e.trans he⟩
  rw [List.take_succ, hx, List.map_append, hd]
  rfl
end DL
set_option Elab.async false
set_option linter.all false
set_option maxRecDepth 100000
set_option maxHeartbeats 4000000
namespace DL
open PySem PySem.Spec PyProof.Rows L2
section
variable {X : Cx} {y : DXw} {st : Stmt} {rest : List Stmt} {t u : RS} {e : Expr} {te : RE} {pos : Pos}
/-- a, b, c = x, y, z with plain local names -/
def rPar3 (i j l : Nat) (ta : RA) : RS := fun E ρ S => ta ρ S fun ds S1 => match ds with
  | [d, e, f] => E.nx (((ρ.set i (some d)).set j (some e)).set l (some f)) S1
  | _ => False
theorem pd_par3 (i j l : Nat) {x z w : Str} {a b c : Expr} {ta : RA} {px py pz pt pos : Pos} {kt k2 pt2} (hc : X.calm = true) (hN : X.N.Nodup) (ha : PDA X y [a, b, c] ta)
    (hw : swappedStores [.Tuple [.Name x px, .Name z py, .Name w pz] kt pt] (.Tuple [a, b, c] k2 pt2) X.env = pure (some [x, z, w]))
    (hi : X.N[i]? = some x := by rfl) (hj : X.N[j]? = some z := by rfl) (hl : X.N[l]? = some w := by rfl) (hij : i ≠ j := by decide) (hil : i ≠ l := by decide) (hjl : j ≠ l := by decide)
    (hx : X.env.scope.names.lookup x = some .local := by rfl) (hy : X.env.scope.names.lookup z = some .local := by rfl) (hz : X.env.scope.names.lookup w = some .local := by rfl)
    (hs : swapsWithSole [.Tuple [.Name x px, .Name z py, .Name w pz] kt pt] (.Tuple [a, b, c] k2 pt2) pos.line X.env = pure false := by rfl) :
    PDS X y (.Assign [.Tuple [.Name x px, .Name z py, .Name w pz] kt pt] (.Tuple [a, b, c] k2 pt2) pos) (rPar3 i j l ta) := PDS.of (ps_par3 hc hN hi hj hl hij hil hjl hx hy hz ha hw hs) fun D σ H h => by
  obtain ⟨ρ, S, E, sr, so, h, eo⟩ := h
  refine ⟨ρ, S, _, sr, so, h, fun ds S1 vs H1 g1 dvs hn h1 => ?_⟩
  match ds, dvs, h1 with
  | [d, e, f], dvs, h1 =>
    obtain ⟨v, ws, rfl, dv1, v2, ws2, rfl, dv2, v3, ws3, rfl, dv3, q⟩ := dvs
    cases (show ws3 = [] from q)
    exact ⟨v, v2, v3, rfl, eo.nx _ S1 _ H1 g1 ((((sr.go g1).set dv1 i).set dv2 j).set dv3 l) h1⟩
  | [], _, h1 => exact h1.elim
  | [_], _, h1 => exact h1.elim
  | [_, _], _, h1 => exact h1.elim
  | _ :: _ :: _ :: _ :: _, _, h1 => exact h1.elim
end

/-! ### a def whose garbage is dropped -/
theorem Go.less {K : PySem.W.Frag} {H H' : Hp} {S S' S2 : Sto} (g : Go K H S H' S') (e : Ext S2 S') : Go K H S H' S2 :=
  ⟨g.ok0, fun a c h => g.ok a c (e a c h), g.frame, fun a o h1 h2 => by
    cases q : S2 a with
    | none => rfl
    | some c => exact absurd (e a c q) (by rw [g.ex a o h1 h2]; exact fun z => by cases z)⟩
theorem fnE {P : Program} {w : World} {K : PySem.W.Frag} {mg : Str → Option Value} {base : Heap} {x qual : Str} {st : Stmt} {f : Addr} {fd : FuncData} {N ps : List Str} {k : Nat} {sp : DSp} (F : Fun K x qual st f fd) (S : FnScope N ps (defScope st))
    (len : ∀ ds S Q E, sp ds S Q E → ds.length = ps.length)
    (hbody : ∀ (cdv : Value) (A : Around) (outer : List Env) (s : Shared) (H : Hp) (E : XK) (RX : Addr → D → Sto → Prop), Room k (A.deeper (envOfC qual (defScope st) s.heap.objs.size f cdv)) →
      ∃ t, PDSs (cxOf (L2.CX P w) P w K mg base N qual (defScope st) f cdv A outer s H E) (yOf E RX) (defBody st) t ∧ ∀ ds S Q, sp ds S Q RX → t { nx := fun _ S' => ∃ S2, Ext S2 S' ∧ Q .non S2, rt := fun d S' => ∃ S2, Ext S2 S' ∧ Q d S2 } (startD N ds) S) :
    FnOk P w K mg base (L2.CX P w) (k + 1) f fd ps (toSp K sp) := by
  refine F.okX S (fun vs H Q E h => ?_) (fun cdv A outer s H vs Q E hr h => ?_)
  · obtain ⟨ds, S, R, RX, dvs, _, h, _⟩ := h
    rw [← dvs.length]
    exact len _ _ _ _ h
  · obtain ⟨ds, S, R, RX, dvs, so, h, k1, k2⟩ := h
    obtain ⟨t, ht, hq⟩ := hbody cdv A outer s H E RX hr
    refine ⟨_, ht, startD N ds, S, _, start_srv dvs, ⟨so, fun C d ρ S' dx w' σ H' g _ e dv q => k2 C d S' dx w' H' g e dv q⟩, hq ds S R h, ?_⟩
    exact ⟨fun ρ S' σ H' g _ ⟨S2, e, q⟩ => k1 .non S2 .non H' (g.less e) rfl q, fun d S' v H' g dv ⟨S2, e, q⟩ => k1 d S2 v H' (g.less e) dv q, fun _ _ _ _ _ _ z => z, fun _ _ _ _ _ _ z => z⟩
theorem fnok0 {P : Program} {w : World} {K : PySem.W.Frag} {mg : Str → Option Value} {base : Heap} {f : Addr} {fd : FuncData} {ps : List Str} {k : Nat} : FnOk P w K mg base (L2.CX P w) k f fd ps (toSp K fun _ _ _ _ => False) :=
  ⟨fun _ _ _ _ ⟨_, _, _, _, _, _, h, _⟩ => h.elim, fun _ _ _ _ _ _ _ _ _ _ _ _ _ ⟨_, _, _, _, _, _, h, _⟩ => h.elim⟩
/-! ### told and due -/
def cellsD (S : Sto) : D → Option (List D)
  | .ref a => match S a with
    | some (.lst xs) => some xs
    | _ => none
  | .fro xs => some xs
  | _ => none
def sameD (S : Sto) : Nat → D → D → Prop
  | 0, _, _ => False
  | _ + 1, told, .non => told = .non
  | _ + 1, told, .bl b => told = .bl b
  | _ + 1, told, .int i => told = .int i
  | _ + 1, told, .str x => told = .str x
  | n + 1, told, .tup xs => ∃ ys, told = .tup ys ∧ ys.length = xs.length ∧ xs.length < 1000000 ∧ ∀ (i : Nat) y x, ys[i]? = some y → xs[i]? = some x → sameD S n y x
  | n + 1, told, due => ∃ xs ys, RdL S due xs ∧ RdL S told ys ∧ ys.length = xs.length ∧ xs.length < 1000000 ∧ ∀ (i : Nat) y x, ys[i]? = some y → xs[i]? = some x → sameD S n y x
def sp_same (n : Nat) : DSp := fun ds S Q _ => ∃ told due, ds = [told, due] ∧ sameD S n told due ∧ Q (.bl true) S
theorem cut_to {xs : List D} {r : Nat} (h : r ≤ xs.length) : cutD xs none (some (r : Int)) = xs.take r := by
  unfold cutD
  rw [HT.sIx_none, HT.sIx_nat, Nat.min_eq_left h]
  rfl
theorem cut_from {xs : List D} {r : Nat} (h : r ≤ xs.length) : cutD xs (some (r : Int)) none = xs.drop r := by
  unfold cutD
  rw [HT.sIx_none, HT.sIx_nat, Nat.min_eq_left h, List.take_of_length_le (by simp)]
theorem take_get {xs : List D} {r j : Nat} {x : D} (h : (xs.take r)[j]? = some x) : xs[j]? = some x := by
  rw [List.getElem?_take] at h
  split at h
  · exact h
  · cases h
theorem drop_get {xs : List D} {r j : Nat} {x : D} (h : (xs.drop r)[j]? = some x) : xs[r + j]? = some x := by
  rw [List.getElem?_drop] at h
  exact h
theorem Ext.wr {S S' : Sto} {p : Addr} {c : Cell} (e : Ext S S') (h : S p = none) : Ext S (sup S' p c) := fun a o q => by
  rw [sup_ne (fun z => ?_)]
  · exact e a o q
  · subst z; rw [h] at q; cases q

/-! ### calls with keywords: what goes where -/
def gk {α : Type} (n m : Nat) (pm : List Nat) (us ws : List α) : List α := if us.length = n ∧ ws.length = m then pm.filterMap fun i => (us ++ ws)[i]? else []
theorem gk_rel {K : PySem.W.Frag} {n m : Nat} {pm : List Nat} {H : Hp} {ds zs : List D} {vs ws : List V} {us xs : List Value} (h1 : DVs K H ds vs) (h2 : DVs K H zs ws) (r1 : Vals vs us) (r2 : Vals ws xs) :
    ∃ qs, DVs K H (gk n m pm ds zs) qs ∧ Vals qs (gk n m pm us xs) := by
  have l1 := h1.length
  have l2 := h2.length
  have l3 := r1.length
  have l4 := r2.length
  by_cases c : ds.length = n ∧ zs.length = m
  · refine ⟨pm.filterMap fun i => (vs ++ ws)[i]?, ?_, ?_⟩
    · rw [show gk n m pm ds zs = pm.filterMap fun i => (ds ++ zs)[i]? from if_pos c]
      have hA := h1.append h2
      clear c
      induction pm with
      | nil => exact rfl
      | cons i pm ih =>
        rw [List.filterMap_cons, List.filterMap_cons]
        cases e : (ds ++ zs)[i]? with
        | none =>
          have : (vs ++ ws)[i]? = none := by
            rw [List.getElem?_eq_none_iff] at e ⊢
            rw [← hA.length]; exact e
          rw [this]
          exact ih
        | some d =>
          obtain ⟨v, e2, dv⟩ := hA.get e
          rw [e2]
          exact ⟨v, _, rfl, dv, ih⟩
    · rw [show gk n m pm us xs = pm.filterMap fun i => (us ++ xs)[i]? from if_pos (by omega)]
      have hA := r1.append r2
      clear c
      induction pm with
      | nil => exact .nil
      | cons i pm ih =>
        rw [List.filterMap_cons, List.filterMap_cons]
        cases e : (vs ++ ws)[i]? with
        | none =>
          have : (us ++ xs)[i]? = none := by
            rw [List.getElem?_eq_none_iff] at e ⊢
            rw [← hA.length]; exact e
          rw [this]
          exact ih
        | some d =>
          obtain ⟨v, e2, dv⟩ := hA.get e
          rw [e2]
          exact .cons dv ih
  · rw [show gk n m pm ds zs = [] from if_neg c, show gk n m pm us xs = [] from if_neg (by omega)]
    exact ⟨[], rfl, .nil⟩
theorem KBD.of {K : PySem.W.Frag} {x qual : Str} {st : Stmt} {f : Addr} {fd : FuncData} {ps ks : List Str} (n m : Nat) (pm : List Nat) (F : Fun K x qual st f fd) (hp : 0 < ps.length)
    (h : ∀ (kV doc pq : Value) (an : Option Addr) (cdv ct : Value) (us ws : List Value), us.length = n → ws.length = m → bindArgs (PySem.W.fnOf x qual (defArgs st) (defBody st) (defScope st) .none kV doc pq an cdv ct) ⟨us, ks.zip ws⟩ = pure (ps.zip (gk n m pm us ws))) :
    KBD K fd ps ks (gk n m pm) (gk n m pm) := by
  obtain ⟨oc, od, kV, doc, pq, an, cdv, ct, osl, rfl, lk, hcd⟩ := F.ex
  refine ⟨fun s us ws _ hl => ?_, fun h1 h2 r1 r2 => gk_rel h1 h2 r1 r2⟩
  by_cases c : us.length = n ∧ ws.length = m
  · exact .of_eq (h kV doc pq an cdv ct us ws c.1 c.2)
  · rw [show gk n m pm us ws = [] from if_neg c] at hl
    exact absurd hl (by simp; omega)

/-! ### the end -/
theorem law_end {K : PySem.W.Frag} {H : Hp} {a : Addr} {ns : List Int} (hO : Only H) (hS : SqL K H a (ns.map V.int)) {sp : DSp} (h : ∀ S, sp [.fro (ns.map D.int)] S (fun d _ => d = .bl true) (fun _ _ _ => False)) :
    toSp K sp [.ref a] H (fun v _ => v = .bl true) (fun _ _ _ => False) := by
  refine ⟨[.fro (ns.map D.int)], fun _ => none, _, _, ⟨_, _, rfl, ⟨a, ns.map V.int, rfl, ?_, DVs.of_ints⟩, rfl⟩, (fun _ _ z => by cases z), h _, (fun d S v H' _ dv e => by subst e; exact dv), fun _ _ _ _ _ _ _ _ _ z => z⟩
  rcases hS with hS | hS
  · rcases hS with hS | ⟨o, hS⟩
    · rcases hO a with e | ⟨o, xs, e⟩
      · rw [e] at hS; cases hS
      · rw [e] at hS; cases hS
    · exact .inl ⟨o, hS⟩
  · exact .inr hS
theorem cx_end (P : Program) (w : World) (H : Hp) (s : Shared) (e : Value) (s' : Shared) : L2.CX P w [] H s (fun _ _ _ => False) e s' → False := fun ⟨_, _, _, _, _, _, _, _, _, _, _, _, h⟩ => h
theorem law_binds {K : PySem.W.Frag} {x qual : Str} {st : Stmt} {f : Addr} {fd : FuncData} {p : Str} (F : Fun K x qual st f fd) (h : ∀ (kV doc pm : Value) (an : Option Addr) (cdv ct : Value) (u : Value), bindArgs (PySem.W.fnOf x qual (defArgs st) (defBody st) (defScope st) .none kV doc pm an cdv ct) ⟨[u], []⟩ = pure [(p, u)]) :
    ∀ (s : Shared) (u : Value), BindsTo s fd ⟨[u], []⟩ [(p, u)] := fun s u => by
  obtain ⟨oc, od, kV, doc, pm, an, cdv, ct, osl, rfl, _⟩ := F.ex
  exact .of_eq (h kV doc pm an cdv ct u)
end DL
set_option Elab.async false
set_option linter.all false
set_option maxRecDepth 100000
set_option maxHeartbeats 4000000
namespace DL
open PySem PySem.Spec PyProof.Rows L2
open PySem.AutoSeq1 (wpAny_loadPart')
/-! ### enumerate(tuple) -/
theorem meets_enumerate_newT (l : Addr) (items : Array Value) (n : Nat) (dct : Option Addr) (sl : Array (Option Value)) :
    Meets (Builtin.«enumerate.__new__» ⟨[.type "enumerate", .ref l], []⟩) (fun _ R s => s.heap.get? l = some { cls := .type "tuple", dict := dct, data := .seq items n, slots := sl } ∧
      R (.ok (.ret (.ref (s.heap.push { cls := .type "tuple_iterator", data := .fields #[.ref l, .int 0 0] }).objs.size)))
        { s with heap := (s.heap.push { cls := .type "tuple_iterator", data := .fields #[.ref l, .int 0 0] }).push { cls := .type "enumerate", data := .fields #[.none, .bool false, .ref s.heap.objs.size, rawInt 0, .none, .none] } }) :=
  .of_wp fun prog w A R s h => by
    obtain ⟨hp, g, d, tk, os⟩ := s; obtain ⟨hl, h⟩ := h
    have hsub := sub_enumerate
    have hL : Heap.IsTuple (Shared.heap ⟨hp, g, d, tk, os⟩) l items := ⟨_, hl, rfl, n, rfl⟩
    wp_walk using wpAny_loadPart' hl
    refine wpAny_stack_any fun st => wpAny_pure ?_
    split
    · rename_i c _ _ _ _ _
      cases (c == Value.type "enumerate")
      · wp_walk using wpAny_loadPart' hl, wpAny_pyIter_tuple hL
        exact ⟨_, rfl, h⟩
      · wp_walk using wpAny_loadPart' hl, wpAny_pyIter_tuple hL
        exact ⟨_, rfl, h⟩
    · wp_walk using wpAny_loadPart' hl, wpAny_pyIter_tuple hL
      exact ⟨_, rfl, h⟩
theorem call_enumerateT {prog : Program} {w : World} {A : Around} {E : Value → Shared → Prop} {s : Shared} {l : Addr} {items : Array Value} {Q : Value → Shared → Prop} (hL : s.heap.IsTuple l items)
    (h : ∀ h', IsEnum h' (s.heap.objs.size + 1) s.heap.objs.size 0 .none → h'.get? s.heap.objs.size = some { cls := .type "tuple_iterator", data := .fields #[.ref l, .int 0 0] } → h'.objs.size = s.heap.objs.size + 2 →
      (∀ b o, s.heap.get? b = some o → h'.get? b = some o) → Q (.ref (s.heap.objs.size + 1)) { s with heap := h' }) :
    wpAny (model prog w) A (call (.type "enumerate") [.ref l]) Q E s := by
  obtain ⟨⟨c, dct, dt, sl⟩, hl, hc, n, hd⟩ := hL
  replace hc : c = .type "tuple" := hc
  replace hd : dt = .seq items n := hd
  subst hc hd
  refine callType_new F.called_enumerate (by decide) (F.typeCall_enumerate_1 _) (F.newCall_enumerate_1 _) (fun obj => F.args_object_init_2 obj _) F.entry_enumerate_new
    (meets_enumerate_newT l items n dct sl) ⟨hl, ?_⟩
  have hz : (s.heap.push { cls := .type "tuple_iterator", data := .fields #[.ref l, .int 0 0] }).objs.size = s.heap.objs.size + 1 := Heap.size_push ..
  show _ ∧ _
  rw [hz]
  have he : IsEnum ((s.heap.push { cls := .type "tuple_iterator", data := .fields #[.ref l, .int 0 0] }).push
      { cls := .type "enumerate", data := .fields #[.none, .bool false, .ref s.heap.objs.size, rawInt 0, .none, .none] }) (s.heap.objs.size + 1) s.heap.objs.size 0 .none := by
    have := Heap.get?_push_size (s.heap.push { cls := .type "tuple_iterator", data := .fields #[.ref l, .int 0 0] })
      (o := { cls := .type "enumerate", data := .fields #[.none, .bool false, .ref s.heap.objs.size, rawInt 0, .none, .none] }) rfl
    rw [hz] at this; exact this
  refine ⟨⟨_, he, rfl⟩, h _ he (Heap.get?_push_of_some _ (Heap.get?_push_size _ rfl)) (by rw [Heap.size_push, hz]) fun b o x => Heap.get?_push_of_some _ (Heap.get?_push_of_some _ x)⟩
def IteT (K : PySem.W.Frag) (a : Addr) : It :=
  ⟨fun i H => ∃ (xs : List V) (x : V), SqT K H a xs ∧ xs[i]? = some x, fun i H v H' => ∃ T x, v = .ref T ∧ H T = none ∧ H' = upd H T (.tup [.int (i : Nat), x]) ∧ ∀ xs, SqT K H a xs → xs[i]? = some x, fun i H => ∃ xs : List V, SqT K H a xs ∧ xs.length ≤ i⟩
theorem turn_enumT {P : Program} {w : World} {K : PySem.W.Frag} {elts : List Expr} {kk : Nat} {tpos : Pos} (a e it : Addr) :
    Turn P w K (.Tuple elts kk tpos) (IteT K a) [e, it] e (fun i h => (∃ old, IsEnum h e it ((i : Nat) : Int) old) ∧ h.IsTupleIter it a i ∧ e ≠ it ∧ e ≠ a ∧ a ≠ it) where
  mem := by simp
  obj := fun i h st b hb => by
    obtain ⟨⟨old, he⟩, ⟨o, ho, hc, hd⟩, _⟩ := st
    have e' : b = e ∨ b = it := by simpa using hb
    rcases e' with z | z
    · rw [z]; exact ⟨_, he, fun v q => nomatch q⟩
    · rw [z]; exact ⟨o, ho, fun v q => by rw [hd] at q; cases q⟩
  keep := fun i h h' st k => let ⟨⟨old, he⟩, hi, hne⟩ := st; ⟨⟨old, k e (by simp) _ he⟩, hi.at fun o q => k it (by simp) o q, hne⟩
  item := by
    intro X hP hw hK hc i pins s σ H E I hf st hg
    subst hP hw hK
    obtain ⟨⟨old, he⟩, hit, hne, hea, hai⟩ := st
    obtain ⟨xs, x, hq, hx⟩ := hg
    obtain ⟨its, rv, p, hz⟩ := I.tuple hq
    obtain ⟨u, hu, ru⟩ := rv.get hx
    have hl := rv.length
    have hi : i < xs.length := by
      cases Nat.lt_or_ge i xs.length with
      | inl h => exact h
      | inr h2 => rw [List.getElem?_eq_none h2] at hx; cases hx
    have hel : e < s.heap.objs.size := Heap.lt_size he
    have hil : it < s.heap.objs.size := by obtain ⟨_, q, _⟩ := hit; exact Heap.lt_size q
    have pt : s.heap.IsTuple a its.toArray := p
    refine wpAny_pyNext_enum_itemD (Draws.tuple (A := X.A.in1) (show X.A.in1.handled = none from I.ok.hd hc) it a hai its.toArray) he ⟨hit, pt⟩ (by simp; omega) hne (by simp [hne, hea]) fun y h' tk hP ho st' hT hsz hk => ?_
    have ey : y = u := by
      have : its[i]? = some y := by simpa using hP
      rw [hu] at this
      exact (Option.some.inj this).symm
    subst ey
    refine ⟨_, rfl, wpAny_letOwnedTupleGo_enum (s := { s with heap := h', toks := tk + 1 }) ho fun h'' he' sb => ?_⟩
    have hT2 : h''.get? s.heap.objs.size = some { cls := .type "tuple", data := .seq #[.int i tk, y] } := (sb.2 _ (Nat.ne_of_gt hel)).trans hT
    have new : ObjOk X.prog X.w (upd H s.heap.objs.size (.tup [.int (i : Nat), x])) h'' s.heap.objs.size (.tup [.int (i : Nat), x]) :=
      ⟨by show 2 ≤ sizeLine; decide, [.int i tk, y], .cons ⟨_, rfl⟩ (.cons ru .nil), ⟨_, hT2, rfl, _, rfl⟩⟩
    have I1 : Inv X pins σ (upd H s.heap.objs.size (.tup [.int (i : Nat), x])) { s with heap := h'', toks := tk + 1 } :=
      I.turnedNew (ch := [e, it]) (fun b ob hb q => (sb.2 b (fun z => hb (by simp [z]))).trans (hk b ob (fun z => hb (by simp [z])) (fun z => hb (by simp [z])) q)) hf (Nat.le_refl _) new
    refine ⟨.ref s.heap.objs.size, _, I1, rfl, ⟨_, x, rfl, I.hok.fresh (Nat.le_refl _), rfl, fun ys hy => by rw [I.tuple_inj hy hq]; exact hx⟩, ⟨⟨y, ?_⟩, st'.1.at fun o q => (sb.2 it (Ne.symm hne)).trans q, hne, hea, hai⟩, fun b hb => ?_⟩
    · have e1 : ((i + 1 : Nat) : Int) = (i : Int) + 1 := by omega
      rw [e1]; exact he'
    · have hb' : b < s.heap.objs.size := by
        have e' : b = e ∨ b = it := by simpa using hb
        rcases e' with z | z
        · rw [z]; exact hel
        · rw [z]; exact hil
      rw [upd_ne (Nat.ne_of_lt hb')]
      exact (hf b hb).1
  done := by
    intro X hP hw hK hc i pins s σ H E I hf st hg
    subst hP hw hK
    obtain ⟨⟨old, he⟩, hit, hne, hea, hai⟩ := st
    obtain ⟨xs, hq, hx⟩ := hg
    obtain ⟨its, rv, p, hz⟩ := I.tuple hq
    obtain ⟨f0, f1, f2, f3, f4, f5⟩ := hf it (by simp)
    have hl := rv.length
    have hT : s.TypeIs (.ref e) "enumerate" := ⟨_, he, rfl⟩
    unfold pyNext
    refine wpAny_bind (wpAny_attempt (wpAny_callSpecial?_slot (name := Str.ofString "__next__") hT F.slot_enumerate_next
      (wpAny_call_entry F.slot_enumerate_next hT F.entry_enumerate_next ?_ (F.args_enumerate_next_1 _))))
    show wpAny _ _ (field (.ref e) 2 >>= _) _ _ _
    refine wpAny_bind (wpAny_field he rfl (x := .ref it) rfl ?_)
    refine wpAny_bind (wpAny_nextOf_tuple_end (items := its.toArray) (I.ok.hd hc) hit p (by simp; omega) fun h' x he' hx' => ?_)
    obtain ⟨o, ho, hc'⟩ := hx'
    refine wpAny_bind (wpAny_isInstance (T := "StopIteration") (b := true) ⟨o, ho, hc'⟩ isSubtype_stop ?_)
    exact wpAny_pure ⟨rfl, I.turned (t' := s.toks) (fun b o hb q => he' b o hb q) f0 f1 f3 f4 f5⟩
  self := fun A i s Q E st h => let ⟨⟨_, he⟩, _⟩ := st; wpAny_pyIter_enum he h
def iEnumT (K : PySem.W.Frag) (ta : TA) : TI := fun σ H R => ta σ H fun vs H1 => ∃ a xs, vs = [.ref a] ∧ SqT K H1 a xs ∧ R (IteT K a) H1
theorem pi_enumT {X : Cx} {e : Expr} {ta : TA} {p pos tpos : Pos} {elts : List Expr} {kk : Nat} (hg : Gl X "enumerate") (hm : X.mg "enumerate" = none) (ha : PA X [e] ta) (hs : starEach [e] X.env = [(false, eval e X.env)] := by rfl) :
    PI X (.Tuple elts kk tpos) (.Call (.Name "enumerate" p) [e] [] pos) (iEnumT X.K ta) := by
  refine ⟨fun pins s σ H R I h => ?_⟩
  refine Call_ (ld_blt I hg hm boot_enumerate (PyProof.Rows.callWith_type1 (thn (ha.run pos pins s σ H _ I h) fun us s1 ⟨vs, H1, I1, r1, q1⟩ => ?_) hs rfl))
  obtain ⟨a, xs, ex, hq, q⟩ := q1
  subst ex
  cases r1 with
  | cons r rr =>
    cases rr
    cases r
    obtain ⟨its, rv, p', hz⟩ := I1.tuple hq
    have pt : s1.heap.IsTuple a its.toArray := p'
    have hal : a < s1.heap.objs.size := by obtain ⟨_, q, _⟩ := pt; exact Heap.lt_size q
    refine call_enumerateT pt fun h' he hit hsz hk => wpAny_pyIter_enum he ?_
    have I2 : Inv X pins σ H1 { s1 with heap := h' } := I1.kept (t' := s1.toks) hk
    refine ⟨s1.heap.objs.size + 1, [s1.heap.objs.size + 1, s1.heap.objs.size], _, _, H1, rfl, I2, turn_enumT a (s1.heap.objs.size + 1) s1.heap.objs.size, ⟨⟨.none, he⟩, ⟨_, hit, rfl, rfl⟩, Nat.succ_ne_self _, Nat.ne_of_gt (Nat.lt_succ_of_lt hal), Nat.ne_of_lt hal⟩, fun b hb => ?_, q⟩
    have e' : b = s1.heap.objs.size + 1 ∨ b = s1.heap.objs.size := by simpa using hb
    have hle : s1.heap.objs.size ≤ b := by
      rcases e' with z | z
      · rw [z]; exact Nat.le_add_right _ _
      · rw [z]; exact Nat.le_refl _
    exact I1.fpOk hle (I1.hok.fresh hle)

section
variable {X : Cx} {y : DXw}
/-- (i, x) for each item of a tuple -/
def enD (xs : List D) : List D := xs.mapIdx fun i x => D.tup [.int (i : Int), x]
theorem enD_get {xs : List D} {i : Nat} : (enD xs)[i]? = xs[i]?.map fun x => D.tup [.int (i : Int), x] := by unfold enD; rw [List.getElem?_mapIdx]
theorem enD_len {xs : List D} : (enD xs).length = xs.length := by unfold enD; simp
def rEnum (t : RA) : RI := fun ρ S R => t ρ S fun ds S1 => match ds with
  | [.tup xs] => R (enD xs) (fun _ => True) S1
  | _ => False
theorem jok_enumT {K : PySem.W.Frag} {H1 : Hp} {S1 : Sto} {a : Addr} {xs : List D} {vs : List V} (h : StT K H1 a vs) (r : DVs K H1 xs vs) : JOk K H1 S1 (IteT K a) (enD xs) (fun _ => True) := by
  intro i H S g _
  have h2 := g.tup h
  have r2 := DVs.go g _ _ r
  refine ⟨fun x hx => ?_, fun hn => ⟨vs, h2.sq, ?_⟩⟩
  · rw [enD_get] at hx
    cases e : xs[i]? with
    | none => rw [e] at hx; cases hx
    | some d =>
      rw [e] at hx
      cases (Option.some.inj hx)
      obtain ⟨v, e2, dv⟩ := r2.get e
      refine ⟨⟨vs, v, h2.sq, e2⟩, fun w H' ⟨T, x, ew, hT, eH, hall⟩ => ?_⟩
      have := hall vs h2.sq
      rw [e2] at this
      cases (Option.some.inj this)
      subst ew eH
      have g2 := Go.new (K := K) (o := .tup [.int (i : Nat), v]) g.ok hT
      exact ⟨g2, T, _, rfl, .inl upd_same, DVs.cons rfl (DVs.cons (DV.go g2 _ _ dv) DVs.nil)⟩
  · rw [enD_get] at hn
    rw [← r.length]
    cases e : xs[i]? with
    | none => rw [List.getElem?_eq_none_iff] at e; exact e
    | some d => rw [e] at hn; cases hn
theorem pdi_enum {e : Expr} {ta : RA} {p pos tpos : Pos} {elts : List Expr} {kk : Nat} (hm : X.mg "enumerate" = none) (ha : PDA X y [e] ta) (hg : Gl X "enumerate" := by rfl) (hs : starEach [e] X.env = [(false, eval e X.env)] := by rfl) :
    PDI X y (.Tuple elts kk tpos) (.Call (.Name "enumerate" p) [e] [] pos) (rEnum ta) := by
  refine PDI.of (pi_enumT hg hm ha hs) fun σ H R h => ?_
  obtain ⟨ρ, S, Rd, sr, so, h, k⟩ := h
  refine ⟨ρ, S, _, sr, so, h, fun ds S1 vs H1 g dvs hn h1 => ?_⟩
  split at h1
  · rename_i xs
    obtain ⟨v, ws, rfl, dv, q⟩ := dvs
    cases (show ws = [] from q)
    obtain ⟨a, us, rfl, hT, r⟩ := dv
    exact ⟨a, us, rfl, hT.sq, k _ _ _ _ _ g (jok_enumT hT r) h1⟩
  · exact h1.elim
/-! ### comprehensions with two clauses: the new list stands in the store -/
theorem wipe_wipe (σ : L2.St) (l : List Nat) : L2.wipe (L2.wipe σ l) l = L2.wipe σ l := by
  have gen : ∀ (l l' : List Nat), (∀ i ∈ l, i ∈ l') → L2.wipe (L2.wipe σ l') l = L2.wipe σ l' := by
    intro l
    induction l with
    | nil => intro l' _; rfl
    | cons a l ih =>
      intro l' hl
      show (L2.wipe (L2.wipe σ l') l).set a none = L2.wipe σ l'
      rw [ih l' fun i hi => hl i (List.mem_cons_of_mem _ hi)]
      have ha' := hl a List.mem_cons_self
      apply List.ext_getElem?
      intro j
      by_cases hj : a = j
      · subst hj
        by_cases hb : a < (L2.wipe σ l').length
        · rw [List.getElem?_set_self hb]
          cases q : (L2.wipe σ l')[a]? with
          | none => rw [List.getElem?_eq_none_iff] at q; omega
          | some o =>
            cases o with
            | none => rfl
            | some x => exact absurd ha' (wipe_some q).2
        · rw [List.getElem?_eq_none (by simpa using hb), List.getElem?_eq_none (by simpa using hb)]
      · rw [List.getElem?_set_ne hj]
  exact gen l l fun _ h => h
def rLc2 (wi : RI) (p : Pat) (tt : RT) (wi1 : RI) (p1 : Pat) (tt1 : RT) (te : RE) (vs vs1 : List Nat) : RE := fun ρ S Q => wi ρ S fun xs src S1 => ∀ D0, S1 D0 = none → ∃ W : Nat → Sto → Prop, W 0 (sup S1 D0 (.lst [])) ∧ ∀ i S', W i S' → src S' ∧
  (∀ x, xs[i]? = some x → Pat.put p x (dwipe ρ vs) fun ρ2 => tt ρ2 S' fun b S3 => IFB b (wi1 ρ2 S3 fun ys src1 S4 => ∃ W1 : Nat → Sto → Prop, W1 0 S4 ∧ ∀ j S5, W1 j S5 → src1 S5 ∧
      (∀ z, ys[j]? = some z → Pat.put p1 z (dwipe ρ2 vs1) fun ρ3 => tt1 ρ3 S5 fun b S6 => IFB b (te ρ3 S6 fun d S7 => ∃ acc, S7 D0 = some (.lst acc) ∧ acc.length < sizeLine ∧ W1 (j + 1) (sup S7 D0 (.lst (acc ++ [d])))) (W1 (j + 1) S6)) ∧
      (j = ys.length → W (i + 1) S5)) (W (i + 1) S3)) ∧
  (i = xs.length → Q (.ref D0) S')
theorem lc2_of {wi wi1 : RI} {p p1 : Pat} {tt tt1 : RT} {te : RE} {vs vs1 : List Nat} {σ : L2.St} {H : Hp} {Q : VK} (ha : Pat.all vs p = true) (ha1 : Pat.all vs1 p1 = true) (h : lE X.K y (rLc2 wi p tt wi1 p1 tt1 te vs vs1) σ H Q) :
    tLc2 (lI X.K y wi) (Pat.g X.K p) (lT X.K y0 tt) (lI X.K y0 wi1) (Pat.g X.K p1) (lT X.K y0 tt1) (lE X.K y0 te) vs vs1 σ H Q := by
  obtain ⟨ρ, S, R, sr, so, h, k⟩ := h
  refine ⟨ρ, S, _, sr, so, h, fun xs src S1 J H1 g1 jo hD D0 hDn => ?_⟩
  obtain ⟨W, w0, hs⟩ := hD D0 (g1.ok.free hDn)
  have g0 := Go.newLst g1.ok hDn DVs.nil
  refine ⟨fun i m H2 => ∃ S2, m = xs.length - i ∧ i ≤ xs.length ∧ Go X.K H1 S1 H2 S2 ∧ W i S2, ⟨_, _, rfl, Nat.zero_le _, g0, w0⟩, ?_⟩
  rintro i m H2 ⟨S2, rfl, hi, g2, w2⟩
  obtain ⟨hsrc, hturn, hend⟩ := hs i S2 w2
  obtain ⟨j1, j2⟩ := jo i H2 S2 g2 hsrc
  by_cases hlt : i < xs.length
  · have hx : xs[i]? = some xs[i] := List.getElem?_eq_getElem hlt
    obtain ⟨jg, jy⟩ := j1 _ hx
    refine .inr ⟨jg, fun H3 => ∃ S3, Go X.K H1 S1 H3 S3 ∧ W (i + 1) S3, fun H3 ⟨S3, g3, a4⟩ => ⟨xs.length - (i + 1), by omega, S3, rfl, hlt, g3, a4⟩, fun v H3 hy => ?_⟩
    obtain ⟨g3, dv⟩ := jy v H3 hy
    have gA := g2.trans g3
    refine Pat.ok p _ v _ _ _ ha dv (((sr.go g1).go gA).wipe vs) (hturn _ hx) fun ρ3 σ3 sr3 hw h3 => ⟨by rw [hw, wipe_wipe], ?_⟩
    refine ⟨ρ3, S2, _, sr3, sx0 gA.ok, h3, fun b S4 H4 g4 h4 => ?_⟩
    refine ite_of_IFB h4 (fun z => ⟨ρ3, S4, _, sr3.go g4, sx0 g4.ok, z, fun ys src1 S5 J1 H5 g5 jo1 ⟨W1, w10, hs1⟩ => ?_⟩) fun z => ⟨S4, gA.trans g4, z⟩
    have gB := (gA.trans g4).trans g5
    refine ⟨fun j k H6 => ∃ S6, k = ys.length - j ∧ j ≤ ys.length ∧ Go X.K H5 S5 H6 S6 ∧ W1 j S6, ⟨_, S5, rfl, Nat.zero_le _, Go.refl g5.ok, w10⟩, ?_⟩
    rintro j k H6 ⟨S6, rfl, hj, g6, w6⟩
    obtain ⟨hsrc1, hturn1, hend1⟩ := hs1 j S6 w6
    obtain ⟨i1, i2⟩ := jo1 j H6 S6 g6 hsrc1
    by_cases hlt1 : j < ys.length
    · have hz : ys[j]? = some ys[j] := List.getElem?_eq_getElem hlt1
      obtain ⟨jg1, jy1⟩ := i1 _ hz
      refine .inr ⟨jg1, fun H7 => ∃ S7, Go X.K H5 S5 H7 S7 ∧ W1 (j + 1) S7, fun H7 ⟨S7, g7, a4⟩ => ⟨ys.length - (j + 1), by omega, S7, rfl, hlt1, g7, a4⟩, fun v H7 hy1 => ?_⟩
      obtain ⟨g7, dv7⟩ := jy1 v H7 hy1
      have gC := g6.trans g7
      refine Pat.ok p1 _ v _ _ _ ha1 dv7 ((((sr3.go g4).go g5).go gC).wipe vs1) (hturn1 _ hz) fun ρ4 σ4 sr4 hw4 h5 => ⟨by rw [hw4, wipe_wipe], ?_⟩
      refine ⟨ρ4, S6, _, sr4, sx0 gC.ok, h5, fun b S8 H8 g8 h8 => ?_⟩
      refine ite_of_IFB h8 (fun z => ⟨ρ4, S8, _, sr4.go g8, sx0 g8.ok, z, fun d S9 w H9 g9 dv9 ⟨acc, eD, hl, w9⟩ => ?_⟩) fun z => ⟨S8, gC.trans g8, z⟩
      obtain ⟨ws, hD9, r9⟩ := g9.ok D0 _ eD
      exact ⟨ws, hD9, by rw [← r9.length]; exact hl, _, ((gC.trans g8).trans g9).trans (Go.setLst g9.ok eD (r9.append (DVs.cons dv9 DVs.nil))), w9⟩
    · have e : j = ys.length := by omega
      subst e
      exact .inl ⟨i2 (by simp), S6, gB.trans g6, hend1 rfl⟩
  · have e : i = xs.length := by omega
    subst e
    exact .inl ⟨j2 (by simp), k (.ref D0) _ _ _ (g1.trans g2) rfl (hend rfl)⟩
theorem pd_lc2 {elt tg iter tg1 iter1 : Expr} {ifs ifs1 : List Expr} {scope : Scope} {own : List (Str × Nat)} {vs1 : List Nat} {pos : Pos} {wi wi1 : RI} {p p1 : Pat} {tt tt1 : RT} {te : RE} (hc : X.calm = true) (hN : X.N.Nodup) (hi : PDI X y tg iter wi) (ok : BlkOk X.N X.env.scope scope own)
    (hg : ∀ (s : Shared) (H : Hp) (C : Addr) (cl : List (Str × Addr)) (fp : List Addr), PG (X.blk s H scope (compEnvC scope cl C X.env) fp) tg (Pat.g X.K p)) (ht : ∀ (s : Shared) (H : Hp) (C : Addr) (cl : List (Str × Addr)) (fp : List Addr), PDTs (X.blk s H scope (compEnvC scope cl C X.env) fp) y0 ifs tt)
    (hi1 : ∀ (s : Shared) (H : Hp) (C : Addr) (cl : List (Str × Addr)) (fp : List Addr), PDI (X.blk s H scope (compEnvC scope cl C X.env) fp) y0 tg1 iter1 wi1)
    (hg1 : ∀ (s : Shared) (H : Hp) (C : Addr) (cl : List (Str × Addr)) (fp : List Addr), PG (X.blk s H scope (compEnvC scope cl C X.env) fp) tg1 (Pat.g X.K p1)) (ht1 : ∀ (s : Shared) (H : Hp) (C : Addr) (cl : List (Str × Addr)) (fp : List Addr), PDTs (X.blk s H scope (compEnvC scope cl C X.env) fp) y0 ifs1 tt1)
    (he : ∀ (s : Shared) (H : Hp) (C : Addr) (cl : List (Str × Addr)) (fp : List Addr), PD (X.blk s H scope (compEnvC scope cl C X.env) fp) y0 elt te) (hv1 : ∀ i ∈ vs1, i ∈ own.map (·.2) := by decide) (hv : Pat.all (own.map (·.2)) p = true := by rfl) (hv2 : Pat.all vs1 p1 = true := by rfl) (hs : ∀ x, foldedSetIterable iter X.env x = pure x := by intro _; rfl) (hs1 : ∀ env x, foldedSetIterable iter1 env x = pure x := by intro _ _; rfl) :
    PD X y (.ListComp elt [⟨tg, iter, ifs, 0⟩, ⟨tg1, iter1, ifs1, 0⟩] scope pos) (rLc2 wi p tt wi1 p1 tt1 te (own.map (·.2)) vs1) :=
  PD.of (pe_lc2 (wi1 := lI X.K y0 wi1) (tt := lT X.K y0 tt) (tt1 := lT X.K y0 tt1) (te := lE X.K y0 te) hc hN hi ok hv1 hg ht hi1 hg1 ht1 he hs hs1) fun σ H Q h => lc2_of hv hv2 h
end
end DL
set_option Elab.async false
set_option linter.all false
set_option maxRecDepth 100000
set_option maxHeartbeats 4000000
namespace DL
open PySem PySem.Spec PyProof.Rows L2
/-! ### sizes of fractions -/
def RB (n : Nat) (q : Rat) : Prop := q.num.natAbs < 2 ^ n ∧ q.den < 2 ^ n
theorem lt_up {x a b : Nat} (h : x < 2 ^ a) (hab : a ≤ b) : x < 2 ^ b := Nat.lt_of_lt_of_le h (Nat.pow_le_pow_right (by decide) hab)
theorem RB.mono {n m : Nat} {q : Rat} (h : RB n q) (l : n ≤ m) : RB m q := ⟨lt_up h.1 l, lt_up h.2 l⟩
theorem rb_div {t b : Int} {n : Nat} (hb : 0 < b) (h1 : t.natAbs < 2 ^ n) (h2 : b.natAbs < 2 ^ n) : RB n ((t : Rat) / (b : Rat)) := by
  constructor
  · rw [← low_num hb]
    exact Nat.lt_of_le_of_lt (by rw [Int.natAbs_ediv_of_dvd (Int.natAbs_dvd_natAbs.mp (by rw [Int.natAbs_natCast]; exact Nat.gcd_dvd_left _ _))]; exact Nat.div_le_self _ _) h1
  · have e := low_den (t := t) hb
    have : ((((t : Rat) / (b : Rat)).den : Nat) : Int) ≤ b := by
      rw [← e]
      exact Int.ediv_le_self _ (by omega)
    omega
/-- q is so many N-ths -/
def Ov (N : Int) (q : Rat) : Prop := ∃ k : Int, q = (k : Rat) / (N : Rat)
theorem ratNe {N : Int} (h : 0 < N) : (N : Rat) ≠ 0 := fun z => by
  have := Rat.intCast_inj.mp (z.trans Rat.intCast_zero.symm)
  omega
theorem ratPos {N : Int} (h : 0 < N) : (0 : Rat) < (N : Rat) := by
  have := Rat.intCast_lt_intCast.mpr h
  simpa using this
theorem ov_add {N : Int} (h : 0 < N) {a b : Rat} (ha : Ov N a) (hb : Ov N b) : Ov N (a + b) := by
  obtain ⟨k, rfl⟩ := ha
  obtain ⟨l, rfl⟩ := hb
  refine ⟨k + l, ?_⟩
  rw [Rat.intCast_add]
  have := ratNe h
  grind
theorem ov_mul {N M : Int} (h : 0 < N) (h' : 0 < M) {a b : Rat} (ha : Ov N a) (hb : Ov M b) : Ov (N * M) (a * b) := by
  obtain ⟨k, rfl⟩ := ha
  obtain ⟨l, rfl⟩ := hb
  refine ⟨k * l, ?_⟩
  rw [Rat.intCast_mul, Rat.intCast_mul]
  have := ratNe h
  have := ratNe h'
  grind
theorem ov_zero (N : Int) : Ov N 0 := ⟨0, by rw [Rat.intCast_zero, Rat.div_def, Rat.zero_mul]⟩
theorem ov_one {N : Int} (h : 0 < N) : Ov N 1 := ⟨N, by have := ratNe h; grind⟩
theorem ov_rb {N : Int} (h : 0 < N) {n : Nat} (hn : N.natAbs < 2 ^ n) {q : Rat} (o : Ov N q) (h0 : 0 ≤ q) (h1 : q ≤ 1) : RB n q := by
  obtain ⟨k, rfl⟩ := o
  have hp := ratPos h
  have e : ((k : Rat) / (N : Rat)) * (N : Rat) = (k : Rat) := by
    have := ratNe h
    grind
  have k0 : 0 ≤ k := by
    have : (0 : Rat) ≤ (k : Rat) := by rw [← e]; exact Rat.mul_nonneg h0 (Rat.le_of_lt hp)
    exact Rat.intCast_le_intCast.mp (by simpa using this)
  have k1 : k ≤ N := by
    have : (k : Rat) ≤ (N : Rat) := by
      rw [← e]
      have := Rat.mul_le_mul_of_nonneg_right h1 (Rat.le_of_lt hp)
      simpa using this
    exact Rat.intCast_le_intCast.mp this
  exact rb_div h (by omega) hn
/-! ### shares -/
def shD (qs : List Rat) : D := .tup (qs.map fr)
structure Sh (N : Int) (qs : List Rat) : Prop where
  pos : 0 < N
  ne : qs ≠ []
  all : ∀ q ∈ qs, 0 < q ∧ Ov N q
  sum : qs.sum = 1
theorem sum_nonneg : ∀ {qs : List Rat}, (∀ q ∈ qs, (0 : Rat) ≤ q) → 0 ≤ qs.sum
  | [], _ => by simp
  | q :: qs, h => by
    have h1 := h q List.mem_cons_self
    have h2 := sum_nonneg (qs := qs) fun x hx => h x (List.mem_cons_of_mem _ hx)
    rw [List.sum_cons]
    grind
theorem mem_le_sum : ∀ {qs : List Rat}, (∀ q ∈ qs, (0 : Rat) ≤ q) → ∀ q ∈ qs, q ≤ qs.sum
  | x :: qs, h, q, hq => by
    have h1 := h x List.mem_cons_self
    have hs : ∀ q ∈ qs, (0 : Rat) ≤ q := fun y hy => h y (List.mem_cons_of_mem _ hy)
    have h2 := sum_nonneg hs
    rw [List.sum_cons]
    rcases List.mem_cons.mp hq with rfl | hq
    · grind
    · have := mem_le_sum hs q hq
      grind
theorem take_le_sum {qs : List Rat} (h : ∀ q ∈ qs, (0 : Rat) ≤ q) (i : Nat) : (qs.take i).sum ≤ qs.sum := by
  have e : qs.sum = (qs.take i).sum + (qs.drop i).sum := by rw [← List.sum_append, List.take_append_drop]
  have := sum_nonneg (qs := qs.drop i) fun q hq => h q (List.mem_of_mem_drop hq)
  grind
theorem ov_sum {N : Int} (hN : 0 < N) : ∀ {qs : List Rat}, (∀ q ∈ qs, Ov N q) → Ov N qs.sum
  | [], _ => by simpa using ov_zero N
  | q :: qs, h => by
    rw [List.sum_cons]
    exact ov_add hN (h q List.mem_cons_self) (ov_sum hN fun x hx => h x (List.mem_cons_of_mem _ hx))
theorem Sh.le1 {N : Int} {qs : List Rat} (s : Sh N qs) {q : Rat} (h : q ∈ qs) : q ≤ 1 := s.sum ▸ mem_le_sum (fun x hx => Rat.le_of_lt (s.all x hx).1) q h
theorem Sh.rb {N : Int} {qs : List Rat} (s : Sh N qs) {n : Nat} (hn : N.natAbs < 2 ^ n) {q : Rat} (h : q ∈ qs) : RB n q := ov_rb s.pos hn (s.all q h).2 (Rat.le_of_lt (s.all q h).1) (s.le1 h)
/-! ### equal fractions -/
theorem pyr_fr {S : Sto} (q : Rat) : PyR S (fr q) (.tuple [.int q.num, .int (q.den : Int)]) := .tup (.cons (.int _) (.cons (.int _) .nil))
theorem eq_fr {S : Sto} {R : D → Sto → Prop} (q : Rat) (h : R (.bl true) S) : dEqG false (fr q) (fr q) S R :=
  ⟨_, _, pyr_fr q, pyr_fr q, rfl, rfl, by
    have : PyData.eqv (.tuple [.int q.num, .int (q.den : Int)]) (.tuple [.int q.num, .int (q.den : Int)]) = true := SeqAt.eqv_refl _ rfl
    rw [if_neg (by decide), this]; exact h⟩
theorem fr1 : D.tup [.int 1, .int 1] = fr 1 := rfl
theorem fr0 : D.tup [.int 0, .int 1] = fr 0 := rfl
end DL
namespace DL
open PySem PySem.Spec PyProof.Rows L2
/-! ### things put together: shares with marks -/
def sel (ps : List (Rat × Bool)) : List Rat := (ps.filter (·.2)).map (·.1)
def tog (T : Rat) (ps : List (Rat × Bool)) : List Rat := match ps with
  | [] => []
  | (q, false) :: ps => q :: tog T ps
  | (_, true) :: ps => T :: (ps.filter (!·.2)).map (·.1)
def idx (k : Nat) : List (Rat × Bool) → List Nat
  | [] => []
  | (_, b) :: ps => if b then k :: idx (k + 1) ps else idx (k + 1) ps
theorem tog_push (T : Rat) (x : Rat × Bool) : ∀ ps, tog T (ps ++ [x]) = tog T ps ++ (if x.2 then (if ps.any (·.2) then [] else [T]) else [x.1])
  | [] => by
    obtain ⟨q, b⟩ := x
    cases b <;> rfl
  | (q, false) :: ps => by
    show q :: tog T (ps ++ [x]) = q :: (tog T ps ++ _)
    rw [tog_push T x ps]
    rfl
  | (q, true) :: ps => by
    show T :: ((ps ++ [x]).filter (!·.2)).map (·.1) = T :: ((ps.filter (!·.2)).map (·.1) ++ _)
    rw [List.filter_append, List.map_append]
    obtain ⟨r, b⟩ := x
    cases b <;> rfl
theorem idx_ge : ∀ (ps : List (Rat × Bool)) (k i : Nat), i ∈ idx k ps → k ≤ i
  | [], _, _, h => by cases h
  | (q, b) :: ps, k, i, h => by
    unfold idx at h
    cases b with
    | false => exact Nat.le_of_succ_le (idx_ge ps (k + 1) i (by simpa using h))
    | true =>
      rcases List.mem_cons.mp (by simpa using h) with rfl | h
      · exact Nat.le_refl _
      · exact Nat.le_of_succ_le (idx_ge ps (k + 1) i h)
theorem idx_mem : ∀ (ps : List (Rat × Bool)) (k j : Nat), (k + j ∈ idx k ps) ↔ ∃ q, ps[j]? = some (q, true)
  | [], k, j => by simp [idx]
  | (q, b) :: ps, k, 0 => by
    have : ¬ k ∈ idx (k + 1) ps := fun z => by have := idx_ge ps _ _ z; omega
    unfold idx
    cases b <;> simp [this]
  | (q, b) :: ps, k, j + 1 => by
    have := idx_mem ps (k + 1) j
    rw [show k + 1 + j = k + (j + 1) by omega] at this
    unfold idx
    cases b with
    | false => simpa using this
    | true => simpa using this
theorem idx_head : ∀ (ps : List (Rat × Bool)) (k j : Nat), (idx k ps).head? = some (k + j) ↔ (∃ q, ps[j]? = some (q, true)) ∧ (ps.take j).any (·.2) = false
  | [], k, j => by simp [idx]
  | (q, b) :: ps, k, 0 => by
    unfold idx
    cases b with
    | false =>
      have : ¬ (idx (k + 1) ps).head? = some k := fun z => by
        have := idx_ge ps _ _ (List.mem_of_mem_head? z)
        omega
      simpa using this
    | true => simp
  | (q, b) :: ps, k, j + 1 => by
    have := idx_head ps (k + 1) j
    rw [show k + 1 + j = k + (j + 1) by omega] at this
    unfold idx
    cases b with
    | false => simpa using this
    | true => simp
theorem idx_append : ∀ (as bs : List (Rat × Bool)) (k : Nat), idx k (as ++ bs) = idx k as ++ idx (k + as.length) bs
  | [], bs, k => rfl
  | (q, b) :: as, bs, k => by
    show (if b then k :: idx (k + 1) (as ++ bs) else idx (k + 1) (as ++ bs)) = (if b then k :: idx (k + 1) as else idx (k + 1) as) ++ _
    rw [idx_append as bs (k + 1), List.length_cons, show k + 1 + as.length = k + (as.length + 1) by omega]
    cases b <;> simp
theorem idx_get : ∀ (ps : List (Rat × Bool)) (k : Nat), (idx k ps).map (fun i => (ps.map (·.1))[i - k]?) = (sel ps).map some
  | [], _ => rfl
  | (q, b) :: ps, k => by
    have ih := idx_get ps (k + 1)
    have e : (idx (k + 1) ps).map (fun i => (((q, b) :: ps).map (·.1))[i - k]?) = (idx (k + 1) ps).map (fun i => (ps.map (·.1))[i - (k + 1)]?) := by
      apply List.map_congr_left
      intro i hi
      have := idx_ge ps _ _ hi
      rw [List.map_cons, show i - k = (i - (k + 1)) + 1 by omega]
      rfl
    unfold idx sel
    cases b with
    | false => simpa [sel] using e.trans ih
    | true => simpa [sel] using e.trans ih
theorem tog_sum : ∀ (ps : List (Rat × Bool)), ps.any (·.2) = true → (tog (sel ps).sum ps).sum = (ps.map (·.1)).sum := by
  have key : ∀ ps : List (Rat × Bool), ((ps.filter (!·.2)).map (·.1)).sum + (sel ps).sum = (ps.map (·.1)).sum := by
    intro ps
    induction ps with
    | nil => simp [sel]; try grind
    | cons x ps ih =>
      obtain ⟨q, b⟩ := x
      cases b <;> simp [sel] at ih ⊢ <;> grind
  have gen : ∀ (T : Rat) (ps : List (Rat × Bool)), ps.any (·.2) = true → (tog T ps).sum = T + ((ps.filter (!·.2)).map (·.1)).sum := by
    intro T ps
    induction ps with
    | nil => intro h; cases h
    | cons x ps ih =>
      intro h
      obtain ⟨q, b⟩ := x
      cases b with
      | true => simp [tog]
      | false =>
        have := ih (by simpa using h)
        simp [tog, this]
        grind
  intro ps h
  rw [gen _ _ h, ← key ps]
  grind
theorem sel_mem {ps : List (Rat × Bool)} {q : Rat} (h : q ∈ sel ps) : q ∈ ps.map (·.1) := by
  unfold sel at h
  obtain ⟨x, hx, rfl⟩ := List.mem_map.mp h
  exact List.mem_map.mpr ⟨x, (List.mem_filter.mp hx).1, rfl⟩
theorem sel_le {ps : List (Rat × Bool)} (h : ∀ q ∈ ps.map (·.1), (0 : Rat) ≤ q) : (sel ps).sum ≤ (ps.map (·.1)).sum := by
  induction ps with
  | nil => simp [sel]
  | cons x ps ih =>
    obtain ⟨q, b⟩ := x
    have h0 := h q (by simp)
    have := ih fun q hq => h q (List.mem_cons_of_mem _ hq)
    cases b <;> simp [sel] at this ⊢ <;> grind
theorem tog_mem {T : Rat} : ∀ {ps : List (Rat × Bool)} {q : Rat}, q ∈ tog T ps → q = T ∨ q ∈ ps.map (·.1)
  | [], _, h => by cases h
  | (r, false) :: ps, q, h => by
    rcases List.mem_cons.mp (show q ∈ r :: tog T ps from h) with rfl | h
    · exact .inr (by simp)
    · rcases tog_mem h with h | h
      · exact .inl h
      · exact .inr (List.mem_cons_of_mem _ h)
  | (r, true) :: ps, q, h => by
    rcases List.mem_cons.mp (show q ∈ T :: (ps.filter (!·.2)).map (·.1) from h) with rfl | h
    · exact .inl rfl
    · obtain ⟨x, hx, rfl⟩ := List.mem_map.mp h
      exact .inr (List.mem_cons_of_mem _ (List.mem_map.mpr ⟨x, (List.mem_filter.mp hx).1, rfl⟩))
theorem Sh.tog {N : Int} {ps : List (Rat × Bool)} (s : Sh N (ps.map (·.1))) (h : ps.any (·.2) = true) : Sh N (DL.tog (sel ps).sum ps) := by
  refine ⟨s.pos, fun z => ?_, fun q hq => ?_, by rw [tog_sum ps h]; exact s.sum⟩
  · have := tog_sum ps h
    rw [z, s.sum] at this
    simp at this
  · rcases tog_mem hq with rfl | hq
    · refine ⟨?_, ov_sum s.pos fun q hq => (s.all q (sel_mem hq)).2⟩
      obtain ⟨x, hx, hb⟩ := List.any_eq_true.mp h
      have hm : x.1 ∈ sel ps := List.mem_map.mpr ⟨x, List.mem_filter.mpr ⟨hx, hb⟩, rfl⟩
      have h1 := (s.all _ (sel_mem hm)).1
      have h2 := mem_le_sum (fun q hq => Rat.le_of_lt (s.all q (sel_mem hq)).1) _ hm
      grind
    · exact s.all q hq
/-! ### both -/
def prods (as bs : List Rat) : List Rat := as.flatMap fun a => bs.map fun b => a * b
theorem sum_mul (a : Rat) : ∀ bs : List Rat, (bs.map fun b => a * b).sum = a * bs.sum
  | [] => by simp
  | b :: bs => by
    rw [List.map_cons, List.sum_cons, List.sum_cons, sum_mul a bs]
    grind
theorem prods_sum (bs : List Rat) : ∀ as : List Rat, (prods as bs).sum = as.sum * bs.sum
  | [] => by simp [prods]
  | a :: as => by
    have := prods_sum bs as
    unfold prods at this ⊢
    rw [List.flatMap_cons, List.sum_append, this, sum_mul, List.sum_cons]
    grind
theorem Sh.prods {N M : Int} {as bs : List Rat} (s : Sh N as) (t : Sh M bs) : Sh (N * M) (DL.prods as bs) := by
  refine ⟨Int.mul_pos s.pos t.pos, fun z => ?_, fun q hq => ?_, by rw [prods_sum, s.sum, t.sum]; grind⟩
  · have := prods_sum bs as
    rw [z, s.sum, t.sum] at this
    simp at this
  · unfold DL.prods at hq
    obtain ⟨a, ha, hq⟩ := List.mem_flatMap.mp hq
    obtain ⟨b, hb, rfl⟩ := List.mem_map.mp hq
    exact ⟨Rat.mul_pos (s.all a ha).1 (t.all b hb).1, ov_mul s.pos t.pos (s.all a ha).2 (t.all b hb).2⟩

theorem const_tup2 {K : PySem.W.Frag} {z : Addr} {od : Option Addr} {i j : Int} {t u : Tok} {n : Nat} {sl : Array (Option Value)} (l : K.lookup z = some ⟨.type "tuple", od, .seq #[.int i t, .int j u] n, sl⟩) : ∀ H, DV K H (.tup [.int i, .int j]) (.ref z) := fun H =>
  ⟨z, [.int i, .int j], rfl, .inr ⟨_, _, _, l, rfl, rfl, (show 2 ≤ 16777216 by decide), .cons ⟨_, rfl⟩ (.cons ⟨_, rfl⟩ .nil)⟩, DVs.cons rfl (DVs.cons rfl DVs.nil)⟩
def nts (ts : List Nat) : D := .tup (ts.map fun (t : Nat) => D.int (t : Int))
theorem inD_nat (i : Nat) (ts : List Nat) : inD (.int (i : Int)) (ts.map fun (t : Nat) => D.int (t : Int)) = decide (i ∈ ts) := by
  induction ts with
  | nil => rfl
  | cons t ts ih =>
    unfold inD inV at ih ⊢
    simp only [List.map_cons, List.any_cons] at ih ⊢
    rw [ih]
    have : eqV (fl (.int (t : Int))) (fl (.int (i : Int))) = decide (i = t) := by
      show ((t : Int) == (i : Int)) = decide (i = t)
      by_cases h : i = t
      · subst h; simp
      · rw [decide_eq_false h]; simp; omega
    rw [this]
    simp
end DL
namespace DL
theorem fr_at {qs : List Rat} {i : Nat} {x : D} (h : (qs.map fr)[i]? = some x) : ∃ q, qs[i]? = some q ∧ x = fr q := by
  rw [List.getElem?_map] at h
  cases e : qs[i]? with
  | none => rw [e] at h; cases h
  | some q => rw [e] at h; exact ⟨q, rfl, (Option.some.inj h).symm⟩
theorem take_succ_sum {qs : List Rat} {i : Nat} {q : Rat} (h : qs[i]? = some q) : (qs.take (i + 1)).sum = (qs.take i).sum + q := by
  rw [List.take_succ, h, List.sum_append]
  simp only [Option.toList_some, List.sum_cons, List.sum_nil]
  grind

theorem idx_len : ∀ (ps : List (Rat × Bool)) (k : Nat), (idx k ps).length ≤ ps.length
  | [], _ => Nat.le_refl _
  | (q, b) :: ps, k => by
    have := idx_len ps (k + 1)
    unfold idx
    cases b <;> simp <;> omega
theorem idx_lt (ps : List (Rat × Bool)) (t : Nat) (h : t ∈ idx 0 ps) : t < ps.length := by
  obtain ⟨q, hq⟩ := (idx_mem ps 0 t).mp (by rw [Nat.zero_add]; exact h)
  cases Nat.lt_or_ge t ps.length with
  | inl h => exact h
  | inr h2 => rw [List.getElem?_eq_none h2] at hq; cases hq
theorem idx_asc : ∀ (ps : List (Rat × Bool)) (k : Nat), (idx k ps).Pairwise (· < ·)
  | [], _ => .nil
  | (q, b) :: ps, k => by
    have := idx_asc ps (k + 1)
    unfold idx
    cases b with
    | false => simpa using this
    | true => exact .cons (fun i hi => idx_ge ps _ _ hi) this
theorem idx_ne {ps : List (Rat × Bool)} (h : ps.any (·.2) = true) : idx 0 ps ≠ [] := fun z => by
  obtain ⟨x, hx, hb⟩ := List.any_eq_true.mp h
  obtain ⟨j, hj, rfl⟩ := List.mem_iff_getElem.mp hx
  have := (idx_mem ps 0 j).mpr ⟨ps[j].1, by rw [List.getElem?_eq_getElem hj, ← hb]⟩
  rw [z] at this
  cases this
theorem tog_len (T : Rat) : ∀ ps : List (Rat × Bool), (tog T ps).length ≤ ps.length
  | [] => Nat.le_refl _
  | (q, false) :: ps => by
    have := tog_len T ps
    show (q :: tog T ps).length ≤ _
    simp; omega
  | (q, true) :: ps => by
    have := List.length_filter_le (fun x : Rat × Bool => !x.2) ps
    show (T :: (ps.filter (!·.2)).map (·.1)).length ≤ _
    simp; omega
def pickD (qs : List Rat) : D → D
  | .int t => fr (qs[t.toNat]?.getD 0)
  | d => d
def mulD (a : Rat) : D → D
  | .tup [.int n, .int m] => fr (a * ((n : Rat) / (m : Rat)))
  | d => d
theorem mulD_fr (a q : Rat) : mulD a (fr q) = fr (a * q) := by
  show fr (a * ((q.num : Rat) / (((q.den : Nat) : Int) : Rat))) = fr (a * q)
  rw [num_div_den']
theorem sel_vals (ps : List (Rat × Bool)) : ((idx 0 ps).map fun (t : Nat) => D.int (t : Int)).map (pickD (ps.map (·.1))) = (sel ps).map fr := by
  have h := idx_get ps 0
  rw [List.map_map]
  have e : (idx 0 ps).map (fun (t : Nat) => fr ((ps.map (·.1))[t]?.getD 0)) = ((idx 0 ps).map fun i => (ps.map (·.1))[i - 0]?).map fun o => fr (o.getD 0) := by rw [List.map_map]; rfl
  have e2 : ((sel ps).map some).map (fun o => fr (o.getD 0)) = (sel ps).map fr := by rw [List.map_map]; rfl
  rw [← e2, ← h, ← e]
  rfl
theorem prods_len (as bs : List Rat) : (prods as bs).length = as.length * bs.length := by
  unfold prods
  induction as with
  | nil => simp
  | cons a as ih => rw [List.flatMap_cons, List.length_append, ih, List.length_map, List.length_cons, Nat.succ_mul]; omega

theorem trues {xs : List D} : (xs.map fun _ => D.bl true) = (xs.map fun _ => true).map D.bl := by rw [List.map_map]; rfl
theorem num_pos' {q : Rat} (h : 0 < q) : 0 < q.num := by
  have h1 := Rat.num_nonneg.mpr (Rat.le_of_lt h)
  rcases Int.lt_or_eq_of_le h1 with h2 | h2
  · exact h2
  · have := num_div_den' q
    rw [← h2, Rat.intCast_zero, Rat.div_def, Rat.zero_mul] at this
    rw [← this] at h
    exact absurd h (by decide +kernel)

theorem sameD.ext : ∀ {n : Nat} {S S' : Sto} {x y : D}, sameD S n x y → Ext S S' → sameD S' n x y
  | 0, _, _, _, _, h, _ => h.elim
  | n + 1, S, S', x, y, h, e => by
    have lst : (∃ xs ys, RdL S y xs ∧ RdL S x ys ∧ ys.length = xs.length ∧ xs.length < 1000000 ∧ ∀ (i : Nat) u v, ys[i]? = some u → xs[i]? = some v → sameD S n u v) →
        ∃ xs ys, RdL S' y xs ∧ RdL S' x ys ∧ ys.length = xs.length ∧ xs.length < 1000000 ∧ ∀ (i : Nat) u v, ys[i]? = some u → xs[i]? = some v → sameD S' n u v :=
      fun ⟨xs, ys, hx, hy, hl, hb, hq⟩ => ⟨xs, ys, e.rd hx, e.rd hy, hl, hb, fun i u v h1 h2 => (hq i u v h1 h2).ext e⟩
    cases y with
    | non => exact h
    | bl b => exact h
    | int b => exact h
    | str b => exact h
    | tup xs =>
      obtain ⟨ys, h1, hl, hb, hq⟩ := h
      exact ⟨ys, h1, hl, hb, fun i u v h1 h2 => (hq i u v h1 h2).ext e⟩
    | ty _ => exact lst h
    | ref _ => exact lst h
    | fro _ => exact lst h
    | exc _ _ => exact lst h
end DL
set_option Elab.async false
set_option linter.all false
set_option maxRecDepth 100000
set_option maxHeartbeats 4000000
namespace DL
open PySem PySem.Spec PyProof.Rows L2
section
variable {X : Cx} {y : DXw}
/-! ### list.pop(i), zip of lists, range with a step, is True -/
def dPopAt : RMt := fun o ds S R => match o, ds with
  | .ref a, [.int i] => ∃ xs k d, S a = some (.lst xs) ∧ -(2 ^ 63) ≤ i ∧ i < 2 ^ 63 ∧ seqIndex? i xs.length = some k ∧ xs[k]? = some d ∧ R d (sup S a (.lst (xs.eraseIdx k)))
  | _, _ => False
theorem DVs.eraseIdx {K : PySem.W.Frag} {H : Hp} : ∀ {ds : List D} {vs : List V} (k : Nat), DVs K H ds vs → DVs K H (ds.eraseIdx k) (vs.eraseIdx k)
  | [], vs, k, h => by cases (show vs = [] from h); exact rfl
  | d :: ds, vs, 0, h => by
    obtain ⟨v, ws, rfl, _, h2⟩ := h
    exact h2
  | d :: ds, vs, k + 1, h => by
    obtain ⟨v, ws, rfl, h1, h2⟩ := h
    exact ⟨v, _, rfl, h1, DVs.eraseIdx k h2⟩
theorem md_popAt : MtR X "list.pop" (lmt X.K dPopAt) := by
  intro pins s σ H v vs vv us Q I rv rs h
  obtain ⟨o, ds, S, R, dv, dvs, so, h, k⟩ := h
  refine mt_popAt pins s σ H v vs vv us Q I rv rs ?_
  unfold dPopAt at h
  split at h
  · rename_i a i
    obtain ⟨xs, j, d, e, h1, h2, h3, h4, h⟩ := h
    cases (show v = V.ref a from dv)
    obtain ⟨w, ws, rfl, dw, q⟩ := dvs
    cases (show ws = [] from q)
    cases (show w = V.int i from dw)
    obtain ⟨zs, e1, r⟩ := so a _ e
    obtain ⟨z, hz, dz⟩ := r.get h4
    have g := Go.setLst so e (r.eraseIdx j)
    exact ⟨a, zs, i, j, z, rfl, rfl, e1, h1, h2, by rw [← r.length]; exact h3, hz, k d _ z _ g (DV.wr e1 (.inl ⟨_, rfl⟩) _ _ dz) h⟩
  · exact h.elim
def dIsB : ROp
  | .bl a, .bl b, S, R => R (.bl (decide (a = b))) S
  | _, _, _, _ => False
def dNotB : ROp
  | .bl a, .bl b, S, R => R (.bl (!decide (a = b))) S
  | _, _, _, _ => False
theorem od_isB : OpR X (compareOp .Is) (lop X.K dIsB) := by
  intro pins s σ H v w vv ww Q I rv rw' h
  obtain ⟨x, z, S, R, dx, dy, so, h, k⟩ := h
  refine op_isBl pins s σ H v w vv ww Q I rv rw' ?_
  cases x <;> cases z <;> first | exact False.elim h | skip
  case bl.bl a b => exact ⟨a, b, dx, dy, k (.bl (decide (a = b))) S _ H (Go.refl so) rfl h⟩
theorem od_notB : OpR X (compareOp .IsNot) (lop X.K dNotB) := by
  intro pins s σ H v w vv ww Q I rv rw' h
  obtain ⟨x, z, S, R, dx, dy, so, h, k⟩ := h
  refine op_notBl pins s σ H v w vv ww Q I rv rw' ?_
  cases x <;> cases z <;> first | exact False.elim h | skip
  case bl.bl a b => exact ⟨a, b, dx, dy, k (.bl (!decide (a = b))) S _ H (Go.refl so) rfl h⟩
/-- range(i, j, c) of n items -/
def rgC (lo c : Int) (n : Nat) : List D := (List.range n).map fun (i : Nat) => D.int (lo + (i : Int) * c)
def rRng3 (ta : RA) : RI := fun ρ S R => ta ρ S fun ds S1 => match ds with
  | [.int i, .int j, .int c] => ∃ n : Nat, RgC i j c n ∧ R (rgC i c n) (fun _ => True) S1
  | _ => False
theorem jok_rangeC {K : PySem.W.Frag} {H1 : Hp} {S1 : Sto} {lo c : Int} {n : Nat} : JOk K H1 S1 (Itc lo c n) (rgC lo c n) (fun _ => True) := by
  intro i H S g _
  unfold rgC
  refine ⟨fun x hx => ?_, fun hn => ?_⟩
  · rw [List.getElem?_map] at hx
    by_cases hi : i < n
    · rw [List.getElem?_range hi] at hx
      cases (Option.some.inj hx)
      exact ⟨hi, fun v H' ⟨e1, e2⟩ => by subst e1 e2; exact ⟨Go.refl g.ok, rfl⟩⟩
    · rw [List.getElem?_eq_none (by simpa using hi)] at hx; cases hx
  · rw [List.getElem?_eq_none_iff] at hn
    have : n ≤ i := by simpa using hn
    exact this
theorem pdi_range3 {tg a b c : Expr} {ta : RA} {p pos : Pos} (hm : X.mg "range" = none) (ha : PDA X y [a, b, c] ta) (hg : Gl X "range" := by rfl) (hs : starEach [a, b, c] X.env = (false, eval a X.env) :: starEach [b, c] X.env := by rfl) (hpl : (backTo pos (starEach [b, c] X.env)).any (·.1) = false := by rfl) :
    PDI X y tg (.Call (.Name "range" p) [a, b, c] [] pos) (rRng3 ta) := by
  refine PDI.of (pi_range3 hg hm ha hs hpl) fun σ H R h => ?_
  obtain ⟨ρ, S, Rd, sr, so, h, k⟩ := h
  refine ⟨ρ, S, _, sr, so, h, fun ds S1 vs H1 g dvs hn h1 => ?_⟩
  split at h1
  · rename_i i j c
    obtain ⟨v, ws, rfl, dv, v2, ws2, rfl, dv2, v3, ws3, rfl, dv3, q⟩ := dvs
    cases (show ws3 = [] from q)
    cases (show v = V.int i from dv)
    cases (show v2 = V.int j from dv2)
    cases (show v3 = V.int c from dv3)
    obtain ⟨n, h2, h3⟩ := h1
    exact ⟨i, j, c, n, rfl, h2, k _ _ _ _ _ g jok_rangeC h3⟩
  · exact h1.elim
/-- zip of two lists: as they stand at each turn -/
def zpD (xs zs : List D) : List D := (xs.zip zs).map fun p => D.tup [p.1, p.2]
def rZip (ta : RA) : RI := fun ρ S R => ta ρ S fun ds S1 => match ds with
  | [d, e] => ∃ xs zs, RdL S1 d xs ∧ RdL S1 e zs ∧ R (zpD xs zs) (fun S' => RdL S' d xs ∧ RdL S' e zs) S1
  | _ => False
theorem jok_zip {K : PySem.W.Frag} {H1 : Hp} {S1 : Sto} {d e : D} {v w : V} {a b : Addr} {xs zs : List D} (dv : DV K H1 d v) (dw : DV K H1 e w) (ev : v = .ref a) (ew : w = .ref b) : JOk K H1 S1 (Itz K a b) (zpD xs zs) (fun S' => RdL S' d xs ∧ RdL S' e zs) := by
  intro i H S g hr
  obtain ⟨a', vs, e1, q1, r1⟩ := RdL.sq g.ok hr.1 (DV.go g _ _ dv)
  obtain ⟨b', ws, e2, q2, r2⟩ := RdL.sq g.ok hr.2 (DV.go g _ _ dw)
  rw [ev] at e1; cases e1
  rw [ew] at e2; cases e2
  unfold zpD
  refine ⟨fun x hx => ?_, fun hn => ⟨vs, ws, q1, q2, ?_⟩⟩
  · rw [List.getElem?_map] at hx
    cases ez : (xs.zip zs)[i]? with
    | none => rw [ez] at hx; cases hx
    | some p =>
      rw [ez] at hx
      cases (Option.some.inj hx)
      obtain ⟨p1, p2⟩ := p
      obtain ⟨hx1, hx2⟩ := List.getElem?_zip_eq_some.mp ez
      obtain ⟨u, hu, du⟩ := r1.get hx1
      obtain ⟨t, ht, dt⟩ := r2.get hx2
      refine ⟨⟨vs, ws, u, t, q1, q2, hu, ht⟩, fun v' H' ⟨T, x1, y1, ev', hT, eH, ha, hb⟩ => ?_⟩
      have f1 := ha vs q1
      have f2 := hb ws q2
      rw [hu] at f1
      rw [ht] at f2
      cases (Option.some.inj f1)
      cases (Option.some.inj f2)
      subst ev' eH
      have g2 := Go.new (K := K) (o := .tup [u, t]) g.ok hT
      exact ⟨g2, T, _, rfl, .inl upd_same, DVs.cons (DV.go g2 _ _ du) (DVs.cons (DV.go g2 _ _ dt) DVs.nil)⟩
  · rw [List.getElem?_eq_none_iff, List.length_map, List.length_zip] at hn
    rw [← r1.length, ← r2.length]
    omega
theorem pdi_zip {e e2 : Expr} {ta : RA} {p pos tpos : Pos} {elts : List Expr} {kk : Nat} (hm : X.mg "zip" = none) (ha : PDA X y [e, e2] ta) (hg : Gl X "zip" := by rfl)
    (hs : starEach [e, e2] X.env = (false, eval e X.env) :: starEach [e2] X.env := by rfl) (hpl : (backTo pos (starEach [e2] X.env)).any (·.1) = false := by rfl) :
    PDI X y (.Tuple elts kk tpos) (.Call (.Name "zip" p) [e, e2] [] pos) (rZip ta) := by
  refine PDI.of (pi_zip hg hm ha hs hpl) fun σ H R h => ?_
  obtain ⟨ρ, S, Rd, sr, so, h, k⟩ := h
  refine ⟨ρ, S, _, sr, so, h, fun ds S1 vs H1 g dvs hn h1 => ?_⟩
  split at h1
  · rename_i d1 d2
    obtain ⟨v, ws, rfl, dv, v2, ws2, rfl, dv2, q⟩ := dvs
    cases (show ws2 = [] from q)
    obtain ⟨xs, zs, hx, hz, h1⟩ := h1
    obtain ⟨a, us, rfl, q1, r1⟩ := hx.sq g.ok dv
    obtain ⟨b, ts, rfl, q2, r2⟩ := hz.sq g.ok dv2
    exact ⟨a, b, us, ts, rfl, q1, q2, k _ _ _ _ _ g (jok_zip dv dv2 rfl rfl) h1⟩
  · exact h1.elim

/-! ### sorted(set(list of ints)) -/
end
section
variable {P : Program} {w : World} {A : Around} {E : Value → Shared → Prop} {s : Shared}
theorem call_set_listI {l : Addr} {items : Array Value} (ns : List Int) {Q : Value → Shared → Prop} (hh : A.handled = none) (hl : s.heap.IsList l items) (hit : IntsAre items.toList ns) (hb : ns.length + 1 < scanBound)
    (h : ∀ (h' : Heap) (tk c : Nat), SetR w h' s.heap.objs.size (fun j => decide (j ∈ ns)) c → c ≤ ns.length → (∀ b o, s.heap.get? b = some o → h'.get? b = some o) → Q (.ref s.heap.objs.size) { s with heap := h', toks := tk }) :
    wpAny (model P w) A (call (.type "set") [.ref l]) Q E s := by
  have hisz : items.size = ns.length := by
    have q := IntsAre.length hit
    rw [Array.length_toList] at q
    exact q
  obtain ⟨c, tl, hmro⟩ := F.called_set.mro
  have hmade := F.called_set.made
  have hsub := F.called_set.sub
  refine wpAny_call (codeAny_of_tree ?_)
  show wpAny _ _ (callAny (.type "set") _) _ _ _
  refine wpAny_pure ⟨Code.quiet_builtin _ (by decide +kernel), codeAny_builtin F.entry_type_call ?_⟩
  rw [Around.under_plain (weight_type_call_type "set" [.ref l] []) rfl]
  have h1 := F.called_set.notType
  have h2 := F.called_set.canCreate
  have hct := F.typeCall_set_1 (.ref l)
  repeat (any_goals (first | assumption | wp_step))
  refine codeAny_mono (code_set_led1 (.ref l) (E := E) (Q₁ := fun obj s₁ => obj = .ref s.heap.objs.size ∧ s₁ = { s with heap := s.heap.push { cls := .type "set", dict := none, data := .set #[] 0 (.fresh 0 0 (!w.params.followText "set-order")) } }) ⟨rfl, rfl⟩) fun r s₁ hr => ?_
  cases r with
  | error e => exact hr
  | ok fl =>
    cases fl with
    | ret obj =>
      obtain ⟨rfl, rfl⟩ := hr
      obtain ⟨h0, eh0⟩ : ∃ h0, h0 = s.heap.push { cls := .type "set", dict := none, data := .set #[] 0 (.fresh 0 0 (!w.params.followText "set-order")) } := ⟨_, rfl⟩
      rw [← eh0]
      have hS : h0.get? s.heap.objs.size = some { cls := .type "set", dict := none, data := .set #[] 0 (.fresh 0 0 (!w.params.followText "set-order")) } := by rw [eh0]; exact Heap.get?_push_size _ rfl
      have hz0 : h0.objs.size = s.heap.objs.size + 1 := by rw [eh0]; exact Heap.size_push ..
      have keep0 : ∀ b o, s.heap.get? b = some o → h0.get? b = some o := fun b o e => by rw [eh0]; exact Heap.get?_push_of_some _ e
      have hT : Shared.TypeIs { s with heap := h0 } (.ref s.heap.objs.size) "set" := ⟨_, hS, rfl⟩
      have hli := F.called_set.init.lookup
      have hbi := F.called_set.init.bind (.ref s.heap.objs.size)
      repeat (any_goals (first | assumption | wp_step))
      refine codeAny_mono (codeAny_call_builtin (R := wants (fun r s₂ => r = .none ∧ ∃ h' tk c, s₂ = { s with heap := h', toks := tk } ∧ SetR w h' s.heap.objs.size (fun j => decide (j ∈ ns)) c ∧ c ≤ ns.length ∧
          (∀ b o, s.heap.get? b = some o → h'.get? b = some o)) E) F.called_set.init.plain F.entry_set_init (check_set_init_1 hT ?_)) fun r₂ s₂ hr₂ => ?_
      · obtain ⟨ol, hol, hcl, nl, hdl⟩ := hl
        obtain ⟨ocls, odict, odata, oslots⟩ := ol
        simp only at hcl hdl
        subst hcl; subst hdl
        have hol' := keep0 _ _ hol
        have hsls := F.sub_list_set
        have hslf := F.sub_list_frozenset
        have hne : (Value.type "list" == Value.type "dict") = false := by decide
        have hl1 : h0.IsList l items := ⟨_, hol', rfl, nl, rfl⟩
        unfold Builtin.«set.__init__» noKeywords Builtin.Frozenset.updateFrom
        generalize hPI : pyIter = PI
        wp_walk
        subst hPI
        refine wpAny_pyIter_list hl1 ?_
        refine wpAny_bind (wpAny_runValue ?_)
        have hlS : l < s.heap.objs.size := Heap.lt_size hol
        have hh3 : A.in1.in1.in1.handled = none := by simp [hh]
        have hneI : l ≠ h0.objs.size := by rw [hz0]; exact Nat.ne_of_lt (Nat.lt_succ_of_lt hlS)
        have hSf : s.heap.objs.size ∉ [h0.objs.size, l] := by
          rw [hz0]; simp only [List.mem_cons, List.mem_singleton, List.not_mem_nil, or_false, not_or]
          exact ⟨Nat.ne_of_lt (Nat.lt_succ_self _), Nat.ne_of_gt hlS⟩
        have hval : ∀ (i : Nat) (v : Value), items[i]? = some v → ∃ k t, ns[i]? = some k ∧ v = .int k t := fun i v hv => by
          have hi : i < ns.length := by rw [← hisz]; exact (Array.getElem?_eq_some_iff.mp hv).1
          obtain ⟨t, e⟩ := PyProof.Rows.IntsAre.int_at hit i v (by rw [Array.getElem?_toList]; exact hv)
          refine ⟨ns[i], t, List.getElem?_eq_getElem hi, ?_⟩
          rw [e, List.getD_eq_getElem?_getD, List.getElem?_eq_getElem hi] <;> rfl
        refine set_update_ints ((Walks.list hh3 _ l hneI items).toS) s.heap.objs.size hSf ns hisz hb hval (items.size - 0) 0 _ (by omega) (Nat.zero_le _)
          ⟨⟨_, Heap.get?_push_size _ rfl, rfl, rfl⟩, (hl1.push _)⟩ ⟨0, Nat.le_refl 0, setR_new_at (Heap.get?_push_of_some _ hS)⟩ ?_
        intro s' c' hm hc' hS'
        obtain ⟨h', g2, d', tk', os'⟩ := s'
        have eg : g2 = s.gens := hm.gens
        have ed : d' = s.drawn := hm.drawn
        have eo : os' = s.os := hm.os
        subst eg; subst ed; subst eo
        refine wpAny_pure ?_
        show wpAny _ _ (ret Value.none) _ _ _
        rw [hisz] at hc'
        refine wpAny_pure ⟨rfl, h', tk', c', rfl, hS', hc', fun b o e => ?_⟩
        have hb0 : b < s.heap.objs.size := Heap.lt_size e
        exact hm.heap b o (by rw [hz0]; simp only [List.mem_cons, List.mem_singleton, List.not_mem_nil, or_false, not_or]; exact ⟨Nat.ne_of_lt hb0, Nat.ne_of_lt (Nat.lt_succ_of_lt hb0)⟩) (Heap.get?_push_of_some _ (keep0 b o e))
      · cases r₂ with
        | error e => exact hr₂
        | ok fl₂ =>
          cases fl₂ with
          | ret r =>
            obtain ⟨rfl, h', tk, c', rfl, hS', hc', hk'⟩ := hr₂
            repeat (any_goals (first | assumption | wp_step))
            exact h _ _ _ hS' hc' hk'
          | _ => exact hr₂.elim
    | _ => exact hr.elim
end
section
variable {X : Cx} {y : DXw}
def rSetOfI (K : PySem.W.Frag) (w : World) : List V → Hp → VK → Prop := fun xs H Q => ∃ (l : Addr) (ns : List Int), xs = [V.ref l] ∧ SqL K H l (ns.map V.int) ∧ ns.length < 64 ∧
  ∀ (a : Addr) (c : Nat), H a = none → c ≤ ns.length → Q (.ref a) (upd H a (SetO w a (fun j => decide (j ∈ ns)) c))
theorem cr_setOfI (hc : X.calm = true) : CallR X (.type "set") (rSetOfI X.K X.w) := by
  intro pins s σ H xs us Q I r h
  obtain ⟨l, ns, rfl, hl, hf, q⟩ := h
  rw [Vals.ref1 r]
  obtain ⟨its, rv, pl, hz⟩ := I.list hl
  have hn : H s.heap.objs.size = none := I.hok.fresh (Nat.le_refl _)
  refine call_set_listI (P := X.prog) (w := X.w) ns (I.ok.hd hc) pl.isList (by simpa using ints_of_vals rv) (by unfold scanBound; omega) fun h' tk c R hcn k => ?_
  exact ⟨.ref s.heap.objs.size, upd H s.heap.objs.size (SetO X.w s.heap.objs.size (fun j => decide (j ∈ ns)) c), I.laid (t' := tk) k (Nat.le_refl _) (setO_new R), rfl, q _ c hn hcn⟩
def rSortSet (te : RE) : RE := fun ρ S Q => te ρ S fun d S1 => ∃ ns : List Int, RdL S1 d (ns.map D.int) ∧ ns.length < 64 ∧
  ∀ (ms : List Int) p, ms.Pairwise (· < ·) → (∀ k, k ∈ ms ↔ k ∈ ns) → S1 p = none → Q (.ref p) (sup S1 p (.lst (ms.map D.int)))
theorem pd_sortedSet {e : Expr} {te : RE} {p p2 pos pos2 : Pos} (hc : X.calm = true) (hm : X.mg "sorted" = none) (hm2 : X.mg "set" = none) (he : PD X y e te) (hg : Gl X "sorted" := by rfl) (hg2 : Gl X "set" := by rfl)
    (h1 : starEach [.Call (.Name "set" p2) [e] [] pos2] X.env = (false, eval (.Call (.Name "set" p2) [e] [] pos2) X.env) :: starEach [] X.env := by rfl) (h2 : starEach [e] X.env = (false, eval e X.env) :: starEach [] X.env := by rfl) :
    PD X y (.Call (.Name "sorted" p) [.Call (.Name "set" p2) [e] [] pos2] [] pos) (rSortSet te) := by
  refine PD.of (pe_callB (cr_sortedSet hc) hg hm (by decide +kernel) (pa_cons (pe_callTy (cr_setOfI hc) hg2 hm2 (by decide +kernel) (pa_cons he pa_nil (hs := h2)) (he := h2)) pa_nil (hs := h1)) (he := h1)) fun σ H Q h => ?_
  obtain ⟨ρ, S, R, sr, so, h, k⟩ := h
  refine ⟨ρ, S, _, sr, so, h, fun d S1 v H1 g1 dv hq => ?_⟩
  obtain ⟨ns, hx, hl, hQ⟩ := hq
  obtain ⟨a, vs, rfl, q, r⟩ := hx.sq g1.ok dv
  have ev := r.ints
  subst ev
  refine ⟨a, ns, rfl, q, hl, fun b c hb hcn => ?_⟩
  have g2 := Go.new (K := X.K) (o := SetO X.w b (fun j => decide (j ∈ ns)) c) g1.ok hb
  refine ⟨b, _, c, rfl, upd_same, by omega, fun ms p3 pw hm hlen hp => ?_⟩
  have g3 := Go.newLst g2.ok hp (DVs.of_ints (ns := ms))
  exact k (.ref p3) _ _ _ ((g1.trans g2).trans g3) rfl (hQ ms p3 pw (fun z => (hm z).trans (by simp)) (g2.ok.free hp))
end
end DL
namespace DL
open PySem PySem.Spec PyProof.Rows L2
def frP (q : Rat) : PyData := .tuple [.int q.num, .int (q.den : Int)]
theorem pyrs_frs {S : Sto} : ∀ qs : List Rat, PyRs S (qs.map fr) (qs.map frP)
  | [] => .nil
  | q :: qs => .cons (pyr_fr q) (pyrs_frs qs)
theorem lay_frs : ∀ qs : List Rat, PyData.canLayAll0 (qs.map frP) = true
  | [] => rfl
  | q :: qs => by
    show (PyData.canLay0 (frP q) && PyData.canLayAll0 (qs.map frP)) = true
    rw [lay_frs qs]
    rfl
theorem dep_frs : ∀ qs : List Rat, PyData.depthAll (qs.map frP) ≤ 3
  | [] => by simp [PyData.depthAll]
  | q :: qs => by
    have := dep_frs qs
    have h : PyData.depth (frP q) ≤ 3 := by simp [frP, PyData.depth, PyData.depthAll]
    simp only [List.map_cons, PyData.depthAll]
    omega
theorem shaped_frs (qs : List Rat) : SeqAt.shaped (.list (qs.map frP)) = true := by
  have h1 := lay_frs qs
  have h2 := dep_frs qs
  unfold SeqAt.shaped
  rw [show PyData.canLay0 (.list (qs.map frP)) = PyData.canLayAll0 (qs.map frP) from by simp [PyData.canLay0], h1, Bool.true_and]
  apply decide_eq_true
  simp only [PyData.depth]
  omega
end DL
set_option Elab.async false
set_option linter.all false
set_option maxRecDepth 100000
set_option maxHeartbeats 4000000
namespace DL
open PySem PySem.Spec PyProof.Rows L2 RZ
/-! ### tuple * int -/
theorem tuple_mul1 (l : Addr) (items : Array Value) (n : Nat) (dd : Option Addr) (sl : Array (Option Value)) (u : Tok) :
    Meets (Builtin.«tuple.__mul__» ⟨[.ref l, .int 1 u], []⟩) (fun _ R s => s.heap.get? l = some { cls := .type "tuple", dict := dd, data := .seq items n, slots := sl } ∧ R (.ok (.ret (Value.ref l))) s) :=
  .of_wp fun prog w A R s h => by
    obtain ⟨hp, g, d, tk, os⟩ := s
    obtain ⟨hl, h⟩ := h
    have f1 := AutoSeq1.idx_int
    have c1 : (items.isEmpty || (1 : Int) == 1) = true := by simp
    wp_walk using wpAny_loadPart' hl
    exact ⟨_, rfl, h⟩
section
variable {X : Cx} {y : DXw}
theorem op_repT1 : OpR X (binaryOp .Mult) (fun x y H Q => ∃ l xs, x = .ref l ∧ y = .int 1 ∧ SqT X.K H l xs ∧ Q (.ref l) H) := by
  intro pins s σ H x y v u Q I rx ry h
  obtain ⟨l, xs, rfl, rfl, hT, q⟩ := h
  cases rx
  obtain ⟨t, rfl⟩ := ry
  obtain ⟨its, r, ⟨⟨cls, dd, data, sl⟩, ho, hc, n, hd⟩, hs⟩ := I.tuple hT
  simp only at hc hd
  subst hc hd
  refine wpAny_binaryOp_repeat_ref (T := "tuple") (U := "int") (by decide) ⟨_, ho, rfl⟩ (fun s' => typeIs_int s' 1 t) noFill_tuple_mul F.fills_int_mul F.slot_int_rmul repeat_tuple F.slot_int_index.lookup
    (call_meets F.slot_int_rmul (typeIs_int s 1 t) F.entry_int_rmul (F.args_int_rmul_2 _ _) (int_rmul_tuple 1 t l its.toArray n dd sl)
      ⟨ho, rfl, ⟨_, ho, rfl⟩, call_meets F.slot_tuple_mul ⟨_, ho, rfl⟩ F.entry_tuple_mul (F.args_tuple_mul_2 _ _) (tuple_mul1 l its.toArray n dd sl t) ⟨ho, ?_⟩⟩)
  exact ⟨.ref l, H, I, rfl, q⟩
theorem DVs.rep {K : PySem.W.Frag} {H : Hp} {ds : List D} {vs : List V} (r : DVs K H ds vs) : ∀ n : Nat, DVs K H (List.replicate n ds).flatten (List.replicate n vs).flatten
  | 0 => DVs.nil
  | n + 1 => by rw [List.replicate_succ, List.replicate_succ, List.flatten_cons, List.flatten_cons]; exact r.append (DVs.rep r n)
def dMulT : ROp
  | .tup xs, .int k, S, R => xs ≠ [] ∧ 1 ≤ k ∧ k ≤ 1000 ∧ xs.length ≤ 1000 ∧ R (.tup (List.replicate k.toNat xs).flatten) S
  | _, _, _, _ => False
theorem od_mulT : OpR X (binaryOp .Mult) (lop X.K dMulT) := by
  intro pins s σ H v w vv ww Q I rv rw' h
  obtain ⟨x, y, S, R, dx, dy, so, h, k⟩ := h
  cases x <;> cases y <;> first | exact False.elim h | skip
  case tup.int xs j =>
    obtain ⟨a, vs, rfl, q, r⟩ := dx
    cases (show w = V.int j from dy)
    obtain ⟨hne, h1, h2, hl, h⟩ := h
    by_cases hj : j = 1
    · subst hj
      refine op_repT1 pins s σ H _ _ vv ww Q I rv rw' ⟨a, vs, rfl, rfl, q.sq, k (.tup _) S _ H (Go.refl so) ⟨a, vs, rfl, q, ?_⟩ h⟩
      rw [show (List.replicate (1 : Int).toNat xs).flatten = xs by simp]
      exact r
    · refine op_repT pins s σ H _ _ vv ww Q I rv rw' ⟨a, j, vs, rfl, rfl, q.sq, fun z => hne ?_, by omega, h2, by rw [← r.length]; exact hl, fun p hp => ?_⟩
      · have := r.length
        rw [z] at this
        exact List.eq_nil_of_length_eq_zero this
      · have g := Go.new (K := X.K) (o := .tup (List.replicate j.toNat vs).flatten) so hp
        exact k (.tup _) S _ _ g ⟨p, _, rfl, .inl upd_same, DVs.rep (DVs.go g _ _ r) _⟩ h
/-! ### max of a list -/
def dMax1 : RCall := fun ds S Q => match ds with
  | [d] => ∃ ns : List Int, RdL S d (ns.map D.int) ∧ 0 < ns.length ∧ ∀ m, m ∈ ns → (∀ y, y ∈ ns → y ≤ m) → Q (.int m) S
  | _ => False
theorem cd_max1 (hc : X.calm = true) : CallR X (.builtin "max") (lcl X.K dMax1) := by
  intro pins s σ H vs us Q I rv h
  obtain ⟨ds, S, R, dv, so, h, k⟩ := h
  unfold dMax1 at h
  split at h
  · rename_i d
    obtain ⟨v, rfl, r⟩ := dvs1 dv
    obtain ⟨ns, hx, hl, hq⟩ := h
    obtain ⟨a, ws, rfl, q, rr⟩ := hx.sq so r
    cases rr.ints
    exact cr_max hc pins s σ H _ us Q I rv ⟨a, ns, rfl, q, hl, fun m hm hy => k (.int m) S _ H (Go.refl so) rfl (hq m hm hy)⟩
  · exact h.elim
/-! ### zip of two tuples, or of two lists -/
def rZipA (ta : RA) : RI := fun ρ S R => ta ρ S fun ds S1 => match ds with
  | [.tup xs, .tup zs] => R (zpD xs zs) (fun _ => True) S1
  | [d, e] => ∃ xs zs, RdL S1 d xs ∧ RdL S1 e zs ∧ R (zpD xs zs) (fun S' => RdL S' d xs ∧ RdL S' e zs) S1
  | _ => False
theorem jok_zipT {K : PySem.W.Frag} {H1 : Hp} {S1 : Sto} {a b : Addr} {xs zs : List D} {vs ws : List V} (q1 : StT K H1 a vs) (r1 : DVs K H1 xs vs) (q2 : StT K H1 b ws) (r2 : DVs K H1 zs ws) : JOk K H1 S1 (ItzT K a b) (zpD xs zs) (fun _ => True) := by
  intro i H S g _
  have q1 := (g.tup q1).sq
  have q2 := (g.tup q2).sq
  have r1 := DVs.go g _ _ r1
  have r2 := DVs.go g _ _ r2
  unfold zpD
  refine ⟨fun x hx => ?_, fun hn => ⟨vs, ws, q1, q2, ?_⟩⟩
  · rw [List.getElem?_map] at hx
    cases ez : (xs.zip zs)[i]? with
    | none => rw [ez] at hx; cases hx
    | some p =>
      rw [ez] at hx
      cases (Option.some.inj hx)
      obtain ⟨p1, p2⟩ := p
      obtain ⟨hx1, hx2⟩ := List.getElem?_zip_eq_some.mp ez
      obtain ⟨u, hu, du⟩ := r1.get hx1
      obtain ⟨t, ht, dt⟩ := r2.get hx2
      refine ⟨⟨vs, ws, u, t, q1, q2, hu, ht⟩, fun v' H' ⟨T, x1, y1, ev', hT, eH, ha, hb⟩ => ?_⟩
      have f1 := ha vs q1
      have f2 := hb ws q2
      rw [hu] at f1
      rw [ht] at f2
      cases (Option.some.inj f1)
      cases (Option.some.inj f2)
      subst ev' eH
      have g2 := Go.new (K := K) (o := .tup [u, t]) g.ok hT
      exact ⟨g2, T, _, rfl, .inl upd_same, DVs.cons (DV.go g2 _ _ du) (DVs.cons (DV.go g2 _ _ dt) DVs.nil)⟩
  · rw [List.getElem?_eq_none_iff, List.length_map, List.length_zip] at hn
    rw [← r1.length, ← r2.length]
    omega
theorem pdi_zipA {e e2 : Expr} {ta : RA} {p pos tpos : Pos} {elts : List Expr} {kk : Nat} (hm : X.mg "zip" = none) (ha : PDA X y [e, e2] ta) (hg : Gl X "zip" := by rfl)
    (hs : starEach [e, e2] X.env = (false, eval e X.env) :: starEach [e2] X.env := by rfl) (hpl : (backTo pos (starEach [e2] X.env)).any (·.1) = false := by rfl) :
    PDI X y (.Tuple elts kk tpos) (.Call (.Name "zip" p) [e, e2] [] pos) (rZipA ta) := by
  refine PDI.of (pi_zipA hg hm ha hs hpl) fun σ H R h => ?_
  obtain ⟨ρ, S, Rd, sr, so, h, k⟩ := h
  refine ⟨ρ, S, _, sr, so, h, fun ds S1 vs H1 g dvs hn h1 => ?_⟩
  unfold rZipA at h1
  split at h1
  · rename_i xs zs
    obtain ⟨v, ws, rfl, dv, v2, ws2, rfl, dv2, q⟩ := dvs
    cases (show ws2 = [] from q)
    obtain ⟨a, us, rfl, q1, r1⟩ := dv
    obtain ⟨b, ts, rfl, q2, r2⟩ := dv2
    exact ⟨a, b, us, ts, rfl, .inr ⟨q1.sq, q2.sq, k _ _ _ _ _ g (jok_zipT q1 r1 q2 r2) h1⟩⟩
  · rename_i d1 d2 hne
    obtain ⟨v, ws, rfl, dv, v2, ws2, rfl, dv2, q⟩ := dvs
    cases (show ws2 = [] from q)
    obtain ⟨xs, zs, hx, hz, h1⟩ := h1
    obtain ⟨a, us, rfl, q1, r1⟩ := hx.sq g.ok dv
    obtain ⟨b, ts, rfl, q2, r2⟩ := hz.sq g.ok dv2
    exact ⟨a, b, us, ts, rfl, .inl ⟨q1, q2, k _ _ _ _ _ g (jok_zip dv dv2 rfl rfl) h1⟩⟩
  · exact h1.elim
end
end DL
set_option Elab.async false
set_option linter.all false
set_option maxRecDepth 100000
set_option maxHeartbeats 4000000
/-! DO: == and != with an empty list or tuple, [::-1] of lists and tuples, dict displays of written int keys. -/
namespace DL
open PySem PySem.Spec PyProof.Rows L2
section
variable {X : Cx} {y : DXw} {pos p p2 p3 : Pos} {e : Expr} {te : RE}
/-! ### x == [], x == () -/
def dEmp (n : Bool) : ROp := fun x y S R => (∃ xs, x = .tup xs ∧ y = .tup [] ∧ R (.bl (if n then !xs.isEmpty else xs.isEmpty)) S) ∨ ∃ xs, RdL S x xs ∧ RdL S y [] ∧ R (.bl (if n then !xs.isEmpty else xs.isEmpty)) S
theorem isEmpty_vs {α β : Type} {xs : List α} {ys : List β} (h : xs.length = ys.length) : xs.isEmpty = ys.isEmpty := by
  cases xs <;> cases ys <;> first | rfl | (simp at h)
theorem od_eqE (hu : X.A.units + 64 < cLine) : OpR X (compareOp .Eq) (lop X.K (dEmp false)) := by
  intro pins s σ H v w vv ww Q I rv rw' h
  obtain ⟨x, y, S, R, dx, dy, so, h, k⟩ := h
  have fin : ∀ (b : Bool), R (.bl b) S → EP X pins σ Q (.bool b) s := fun b q => ⟨.bl b, H, I, rfl, k (.bl b) S _ H (Go.refl so) rfl q⟩
  rcases h with ⟨xs, rfl, rfl, h⟩ | ⟨xs, hx, hy, h⟩
  · obtain ⟨a, vs, rfl, q, r⟩ := dx
    obtain ⟨b, ws, rfl, q2, r2⟩ := dy
    cases (show ws = [] from r2)
    cases rv
    cases rw'
    obtain ⟨its, rr, ht, hz⟩ := I.tuple q.sq
    obtain ⟨its2, rr2, ht2, hz2⟩ := I.tuple q2.sq
    cases rr2
    obtain ⟨o, ho, hc, n, hd⟩ := ht
    obtain ⟨o2, ho2, hc2, n2, hd2⟩ := ht2
    refine SeqAt.RcAt.tuples (items := its.toArray) (items2 := #[]) (e := fun _ => true) ⟨o, ho, hc, n, hd⟩ ⟨o2, ho2, hc2, n2, hd2⟩ (by omega) (fun j _ h2 => absurd h2 (by simp)) X.prog X.w _ _ ?_
    have e1 : ((List.range (min its.toArray.size (#[] : Array Value).size)).all (fun _ => true) && its.toArray.size == (#[] : Array Value).size) = xs.isEmpty := by
      rw [isEmpty_vs (r.length.trans rr.length)]
      cases its <;> simp
    rw [e1]
    exact fin _ h
  · obtain ⟨a, vs, rfl, q, r⟩ := hx.sq so dx
    obtain ⟨b, ws, rfl, q2, r2⟩ := hy.sq so dy
    cases (show ws = [] from r2)
    cases rv
    cases rw'
    obtain ⟨its, rr, ht, hz⟩ := I.list q
    obtain ⟨its2, rr2, ht2, hz2⟩ := I.list q2
    cases rr2
    have hl := ht.isList
    have hl2 := ht2.isList
    have e0 : xs.isEmpty = its.isEmpty := isEmpty_vs (r.length.trans rr.length)
    cases its with
    | nil =>
      refine SeqAt.RcAt.lists (e := fun _ => true) hl hl2 rfl (by omega) (fun j h1 _ => absurd h1 (by simp)) X.prog X.w _ _ ?_
      rw [show ((List.range (([] : List Value).toArray).size).all fun _ => true) = true from rfl]
      rw [e0] at h
      exact fin _ h
    | cons z its =>
      refine SeqAt.RcAt.lists_lengths hl hl2 (by simp) (by omega) X.prog X.w _ _ ?_
      rw [e0] at h
      exact fin _ h
theorem od_neE (hu : X.A.units + 64 < cLine) : OpR X (compareOp .NotEq) (lop X.K (dEmp true)) := by
  intro pins s σ H v w vv ww Q I rv rw' h
  obtain ⟨x, y, S, R, dx, dy, so, h, k⟩ := h
  have fin : ∀ (b : Bool), R (.bl b) S → EP X pins σ Q (.bool b) s := fun b q => ⟨.bl b, H, I, rfl, k (.bl b) S _ H (Go.refl so) rfl q⟩
  rcases h with ⟨xs, rfl, rfl, h⟩ | ⟨xs, hx, hy, h⟩
  · obtain ⟨a, vs, rfl, q, r⟩ := dx
    obtain ⟨b, ws, rfl, q2, r2⟩ := dy
    cases (show ws = [] from r2)
    cases rv
    cases rw'
    obtain ⟨its, rr, ht, hz⟩ := I.tuple q.sq
    obtain ⟨its2, rr2, ht2, hz2⟩ := I.tuple q2.sq
    cases rr2
    obtain ⟨o, ho, hc, n, hd⟩ := ht
    obtain ⟨o2, ho2, hc2, n2, hd2⟩ := ht2
    refine SeqAt.RcNeAt.tuples (items := its.toArray) (items2 := #[]) (e := fun _ => true) ⟨o, ho, hc, n, hd⟩ ⟨o2, ho2, hc2, n2, hd2⟩ (by omega) (fun j _ h2 => absurd h2 (by simp)) X.prog X.w _ _ ?_
    have e1 : ((List.range (min its.toArray.size (#[] : Array Value).size)).all (fun _ => true) && its.toArray.size == (#[] : Array Value).size) = xs.isEmpty := by
      rw [isEmpty_vs (r.length.trans rr.length)]
      cases its <;> simp
    rw [e1]
    exact fin _ h
  · obtain ⟨a, vs, rfl, q, r⟩ := hx.sq so dx
    obtain ⟨b, ws, rfl, q2, r2⟩ := hy.sq so dy
    cases (show ws = [] from r2)
    cases rv
    cases rw'
    obtain ⟨its, rr, ht, hz⟩ := I.list q
    obtain ⟨its2, rr2, ht2, hz2⟩ := I.list q2
    cases rr2
    have hl := ht.isList
    have hl2 := ht2.isList
    have e0 : xs.isEmpty = its.isEmpty := isEmpty_vs (r.length.trans rr.length)
    cases its with
    | nil =>
      refine SeqAt.RcNeAt.lists (e := fun _ => true) hl hl2 rfl (by omega) (fun j h1 _ => absurd h1 (by simp)) X.prog X.w _ _ ?_
      rw [show ((List.range (([] : List Value).toArray).size).all fun _ => true) = true from rfl]
      rw [e0] at h
      exact fin _ h
    | cons z its =>
      refine SeqAt.RcNeAt.lists_lengths hl hl2 (by simp) (by omega) X.prog X.w _ _ ?_
      rw [e0] at h
      exact fin _ h
end
end DL
set_option Elab.async false
set_option linter.all false
set_option maxRecDepth 100000
set_option maxHeartbeats 4000000
/-! DP: [::-1] of lists and tuples. -/
namespace DL
open PySem PySem.Spec PyProof.Rows L2
section
variable {prog : Program} {w : World} {A : Around} {E : Value → Shared → Prop} {s : Shared}
theorem rev_pick (xs : Array Value) : ((List.range xs.size).filterMap fun (k : Nat) => xs[(((xs.size : Int) - 1) + (k : Int) * (-1)).toNat]?).toArray = xs.toList.reverse.toArray := by
  congr 1
  apply List.ext_getElem?
  intro i
  have e : (List.range xs.size).filterMap (fun (k : Nat) => xs[(((xs.size : Int) - 1) + (k : Int) * (-1)).toNat]?) = (List.range xs.size).pmap (fun k (hk : k < xs.size) => xs[xs.size - 1 - k]'(by omega)) (fun k hk => List.mem_range.mp hk) := by
    have : ∀ (l : List Nat) (hl : ∀ k ∈ l, k < xs.size), l.filterMap (fun (k : Nat) => xs[(((xs.size : Int) - 1) + (k : Int) * (-1)).toNat]?) = l.pmap (fun k (hk : k < xs.size) => xs[xs.size - 1 - k]'(by omega)) hl := by
      intro l
      induction l with
      | nil => intro _; rfl
      | cons k l ih =>
        intro hl
        have hk := hl k (by simp)
        have e2 : (((xs.size : Int) - 1) + (k : Int) * (-1)).toNat = xs.size - 1 - k := by omega
        rw [List.filterMap_cons, e2, Array.getElem?_eq_getElem (by omega), List.pmap_cons, ih fun j hj => hl j (List.mem_cons_of_mem _ hj)]
    exact this _ fun k hk => List.mem_range.mp hk
  rw [e]
  by_cases hi : i < xs.size
  · rw [List.getElem?_eq_getElem (by simpa using hi), List.getElem?_eq_getElem (by simpa using hi)]
    simp
  · rw [List.getElem?_eq_none (by simpa using hi), List.getElem?_eq_none (by simpa using hi)]
theorem rev_applied {sl : Addr} {vl vu vs : Value} {n : Nat} {Q : Int × Int × Nat → Shared → Prop} (hs : s.heap.IsSliceOf sl vl vu vs) (pl : IsPart vl none) (pu : IsPart vu none) (ps : IsPart vs (some (-1)))
    (h : Q ((n : Int) - 1, -1, n) s) : wpAny (model prog w) A (Builtin.Slice.sliceApplied (.ref sl) (pure (n : Int))) Q E s := by
  obtain ⟨os, hos, hcs, hds⟩ := id hs
  unfold Builtin.Slice.sliceApplied Builtin.Slice.sliceFields
  refine wpAny_bind (wpAny_bind (wpAny_field hos hds (x := vl) rfl (wpAny_bind (wpAny_field hos hds (x := vu) rfl (wpAny_bind (wpAny_field hos hds (x := vs) rfl (wpAny_pure ?_)))))))
  refine wpAny_bind (HT.slicePart_ ps ?_)
  show wpAny _ _ (if ((-1 : Int) == 0) = true then _ else _) _ _ s
  rw [if_neg (by decide)]
  refine wpAny_bind (HT.slicePart_ pl (wpAny_bind (HT.slicePart_ pu (wpAny_bind (wpAny_pure ?_)))))
  have e : Builtin.Slice.sliceAdjust none none (-1) (n : Int) = ((n : Int) - 1, -1) := rfl
  have e2 : Builtin.Slice.slicePlaces ((n : Int) - 1) (-1) (-1) = n := by
    unfold Builtin.Slice.slicePlaces
    have h1 : ¬ ((-1 : Int) > 0) := by omega
    simp only [h1, if_false, Int.neg_neg, Int.ediv_one]
    split <;> omega
  show wpAny _ _ (match Builtin.Slice.sliceAdjust none none (-1) (n : Int) with | (lo, hi) => pure (lo, (-1 : Int), Builtin.Slice.slicePlaces lo hi (-1))) _ _ s
  rw [e]
  show wpAny _ _ (pure ((n : Int) - 1, (-1 : Int), Builtin.Slice.slicePlaces ((n : Int) - 1) (-1) (-1))) _ _ s
  rw [e2]
  exact wpAny_pure h
theorem rev_tuple {t sl : Addr} {items : Array Value} {vl vu vs : Value} {Q : Value → Shared → Prop} (ht : IsTup s.heap t items) (hs : s.heap.IsSliceOf sl vl vu vs) (pl : IsPart vl none) (pu : IsPart vu none) (ps : IsPart vs (some (-1)))
    (h : Q (.ref s.heap.objs.size) { s with heap := s.heap.push { cls := .type "tuple", data := .seq items.toList.reverse.toArray } })
    (hsz : items.size ≤ sizeLine) : wpAny (model prog w) A (getItem (.ref t) (.ref sl)) Q E s := by
  have htake : sizeOk (.seq items.toList.reverse.toArray) := by
    show items.toList.reverse.toArray.size ≤ sizeLine
    rw [List.size_toArray, List.length_reverse, Array.length_toList]
    exact hsz
  obtain ⟨os, hos, hcs, hds⟩ := id hs
  have hTs : s.TypeIs (.ref sl) "slice" := ⟨os, hos, hcs⟩
  unfold getItem
  try with_reducible refine wpAny_holding ?_
  first | refine wpAny_bind (wpAny_pure ?_) | skip
  refine wpAny_bind (wpAny_sequenceKey ht.typeIs (by decide) ?_)
  refine wpAny_bind (wpAny_callSpecial?_slot (name := Str.ofString "__getitem__") ht.typeIs PyProof.Rows.slot_tuple_getitem
    (wpAny_call_entry PyProof.Rows.slot_tuple_getitem ht.typeIs entry_tuple_getitem ?_ (args_tuple_getitem _ _)))
  show wpAny _ _ (Builtin.Tuple.tupleItemsOf (.ref t) >>= _) _ _ s
  refine wpAny_bind (tupleItemsOf_ ht ?_)
  refine wpAny_bind (wpAny_typeOf hTs ?_)
  rw [if_pos (by decide)]
  refine wpAny_bind (rev_applied hs pl pu ps ?_)
  have hno : ¬ ((((items.size : Int) - 1) == 0 && (-1 : Int) == 1 && items.size == items.size) = true) := by simp
  show wpAny _ _ (if (((items.size : Int) - 1) == 0 && (-1 : Int) == 1 && items.size == items.size) = true then _ else _) _ _ s
  rw [if_neg hno, rev_pick]
  first
    | exact wpAny_bind (m := Builtin.Tuple.tupleExact _) (wpAny_newObj_type (wpAny_pure ⟨_, rfl, wpAny_pure h⟩) htake)
    | exact wpAny_bind (m := Builtin.Tuple.tupleExact _) (wpAny_newObj_type (wpAny_bind (wpAny_pure (wpAny_pure ⟨_, rfl, wpAny_pure h⟩))) htake)
    | exact wpAny_bind (wpAny_bind (m := Builtin.Tuple.tupleExact _) (wpAny_newObj_type (wpAny_pure (wpAny_pure ⟨_, rfl, wpAny_pure h⟩)) htake))
    | exact wpAny_bind (wpAny_bind (m := Builtin.Tuple.tupleExact _) (wpAny_newObj_type (wpAny_pure ⟨_, rfl, wpAny_pure h⟩) htake))
end
section
variable {X : Cx} {y : DXw} {pos p1 p2 p3 : Pos} {e : Expr} {te : RE} {k : Nat}
def tRev2 (K : PySem.W.Frag) (te : TE) : TE := fun σ H Q => te σ H fun x H1 => ∃ a xs, x = .ref a ∧ ((SqL K H1 a xs ∧ ∀ p, H1 p = none → Q (.ref p) (upd H1 p (.lst xs.reverse))) ∨ (SqT K H1 a xs ∧ ∀ p, H1 p = none → Q (.ref p) (upd H1 p (.tup xs.reverse))))
theorem pe_rev2 {te : TE} (he : PE X e te) : PE X (.Subscript e (.Slice none none (some (.UnaryOp .USub (.Constant (.int 1) k p1) p2)) p3) pos) (tRev2 X.K te) := by
  refine ⟨fun pins s σ H Q I h => ?_⟩
  refine Subscript_ (thn (he.run pins s σ H _ I h) fun v s1 ⟨x, H1, I1, r1, q1⟩ => ?_)
  obtain ⟨a, xs, ex, hx⟩ := q1
  subst ex
  cases r1
  have hst : PO X (some (.UnaryOp .USub (.Constant (.int 1) k p1) p2)) (tPart (tUn (rU fun i => .int (-i)) (tC (.int 1)))) := po_some (pe_un un_neg pe_int)
  refine wpAny_Slice (thn (po_none.run pins s1 σ H1 (fun o H2 => o = none ∧ H2 = H1) I1 ⟨rfl, rfl⟩) fun vl s2 ⟨l, H2, I2, pl, el, e2⟩ => ?_)
  subst el e2
  refine thn (po_none.run pins s2 σ H2 (fun o H3 => o = none ∧ H3 = H2) I2 ⟨rfl, rfl⟩) fun vu s3 ⟨u, H3, I3, pu, eu, e3⟩ => ?_
  subst eu e3
  refine thn (hst.run pins s3 σ H3 (fun o H4 => o = some (-1) ∧ H4 = H3) I3 ⟨1, rfl, -1, rfl, rfl, rfl⟩) fun vs s4 ⟨o, H4, I4, ps, eo, e4⟩ => ?_
  subst eo e4
  have I5 : Inv X pins σ H4 { s4 with heap := s4.heap.push { cls := .type "slice", data := .fields #[vl, vu, vs] } } := I4.kept (t' := s4.toks) fun b ob q => Heap.get?_push_of_some _ q
  show wpAny (model X.prog X.w) X.A (subscriptTail e (.Slice none none (some (.UnaryOp .USub (.Constant (.int 1) k p1) p2)) p3) (.ref a) (.ref s4.heap.objs.size)) (EP X pins σ Q) X.xe { s4 with heap := s4.heap.push { cls := .type "slice", data := .fields #[vl, vu, vs] } }
  rcases hx with ⟨hx, q⟩ | ⟨hx, q⟩
  · obtain ⟨its, r, ht, hz⟩ := I5.list hx
    refine tail_any (ops := [.ref a, .ref s4.heap.objs.size]) ht.isList.typeIs (PySem.slot_list_getitem.lookup) ?_ (by with_unfolding_all rfl)
    refine wpAny_getItem_list_slice ht.isList (Heap.IsSliceOf.new _ vl vu vs) pl pu ps (by decide) ?_ (by rw [List.size_toArray]; have := r.length; omega)
    rw [PySem.W.krv_pick]
    refine ⟨.ref _, _, I5.laid (t' := s4.toks) (o := .lst xs.reverse) (fun b ob q => Heap.get?_push_of_some _ q) (Nat.le_refl _) ?_, rfl, q _ (I5.hok.fresh (Nat.le_refl _))⟩
    exact ⟨by rw [List.length_reverse]; exact hz, _, 0, r.reverse, Heap.get?_push_size _ rfl⟩
  · obtain ⟨its, r, ht, hz⟩ := I5.tuple hx
    have hti : IsTup { s4 with heap := s4.heap.push { cls := .type "slice", data := .fields #[vl, vu, vs] } }.heap a its.toArray := ht
    refine tail_any (ops := [.ref a, .ref s4.heap.objs.size]) hti.typeIs (PyProof.Rows.slot_tuple_getitem.lookup) ?_ (by with_unfolding_all rfl)
    refine rev_tuple hti (Heap.IsSliceOf.new _ vl vu vs) pl pu ps ?_ (by rw [List.size_toArray]; have := r.length; omega)
    refine ⟨.ref _, _, I5.laid (t' := s4.toks) (o := .tup xs.reverse) (fun b ob q => Heap.get?_push_of_some _ q) (Nat.le_refl _) ?_, rfl, q _ (I5.hok.fresh (Nat.le_refl _))⟩
    exact ⟨by rw [List.length_reverse]; exact hz, _, r.reverse, ⟨_, Heap.get?_push_size _ rfl, rfl, _, rfl⟩⟩
def dRev (d : D) (S : Sto) (Q : D → Sto → Prop) : Prop := match d with
  | .tup xs => Q (.tup xs.reverse) S
  | d => ∃ xs, RdL S d xs ∧ ∀ p, S p = none → Q (.ref p) (sup S p (.lst xs.reverse))
def rRev (te : RE) : RE := fun ρ S Q => te ρ S fun d S1 => dRev d S1 Q
theorem DVs.reverse {K : PySem.W.Frag} {H : Hp} {xs : List D} {vs : List V} (r : DVs K H xs vs) : DVs K H xs.reverse vs.reverse := by
  induction xs generalizing vs with
  | nil => cases (show vs = [] from r); exact rfl
  | cons x xs ih =>
    obtain ⟨v, ws, rfl, h1, h2⟩ := r
    rw [List.reverse_cons, List.reverse_cons]
    exact (ih h2).append ⟨v, [], rfl, h1, rfl⟩
theorem pd_rev (he : PD X y e te) : PD X y (.Subscript e (.Slice none none (some (.UnaryOp .USub (.Constant (.int 1) k p1) p2)) p3) pos) (rRev te) := by
  refine PD.of (pe_rev2 he) fun σ H Q h => ?_
  obtain ⟨ρ, S, R, sr, so, h, kk⟩ := h
  refine ⟨ρ, S, _, sr, so, h, fun d S1 v H1 g dv hd => ?_⟩
  have lst : (∃ xs, RdL S1 d xs ∧ ∀ p, S1 p = none → R (.ref p) (sup S1 p (.lst xs.reverse))) → ∃ a xs, v = .ref a ∧ ((SqL X.K H1 a xs ∧ ∀ p, H1 p = none → Q (.ref p) (upd H1 p (.lst xs.reverse))) ∨ (SqT X.K H1 a xs ∧ ∀ p, H1 p = none → Q (.ref p) (upd H1 p (.tup xs.reverse)))) := fun ⟨xs, hx, h⟩ => by
    obtain ⟨a, vs, rfl, q, r⟩ := hx.sq g.ok dv
    exact ⟨a, vs, rfl, .inl ⟨q, fun p hp => kk (.ref p) _ _ _ (g.trans (Go.newLst g.ok hp r.reverse)) rfl (h p (g.ok.free hp))⟩⟩
  cases d with
  | tup xs =>
    obtain ⟨a, vs, rfl, q, r⟩ := dv
    have hd : R (.tup xs.reverse) S1 := hd
    refine ⟨a, vs, rfl, .inr ⟨q.sq, fun p hp => ?_⟩⟩
    have g2 := Go.new (K := X.K) (o := .tup vs.reverse) g.ok hp
    exact kk (.tup xs.reverse) S1 _ _ (g.trans g2) ⟨p, _, rfl, .inl upd_same, DVs.go g2 _ _ r.reverse⟩ hd
  | _ => exact lst hd
end
end DL
set_option Elab.async false
set_option linter.all false
set_option maxRecDepth 100000
set_option maxHeartbeats 4000000
/-! DQ: dict displays of written int keys; what is under way, and repr of lists of ints. -/
namespace DL
open PySem PySem.Spec PyProof.Rows L2
section
variable {X : Cx} {y : DXw} {pos p1 p2 p3 : Pos} {a b v e : Expr} {ta tb te : RE} {k k2 : Nat}
def rDisp1 (i : Int) (te : RE) : RE := fun ρ S Q => ∀ p, S p = none → te ρ (sup S p (.dK [])) fun d S2 => S2 p = some (.dK []) ∧ Q (.ref p) (sup S2 p (.dK [(.inl i, d)]))
theorem pd_disp1 {i : Int} (hv : PD X y v te) : PD X y (.Dict [some (.Constant (.int i) k p1)] [v] pos) (rDisp1 i te) :=
  PD.of (pe_disp (pps_cons pe_int hv pps_nil) rfl rfl (by simp) (by simp)) fun σ H Q h => by
    obtain ⟨ρ, S, R, sr, so, h, kk⟩ := h
    intro p hp
    have g0 := Go.newDK (K := X.K) so.so hp .nil
    refine ⟨ρ, sup S p (.dK []), _, sr.go g0, so.go g0, h p (so.so.free hp), fun d S2 w H2 g2 dv h2 => ?_⟩
    obtain ⟨e2, q⟩ := h2
    obtain ⟨vs, e3, r⟩ := g2.ok p _ e2
    cases r
    exact ⟨e3, [(.inl i, w)], rfl, by simp, kk (.ref p) _ _ _ ((g0.trans g2).trans (Go.setDK g2.ok e2 (DKs.cons (k := .inl i) dv .nil))) rfl q⟩
def rDisp2 (i j : Int) (ta tb : RE) : RE := fun ρ S Q => ∀ p, S p = none → ta ρ (sup S p (.dK [])) fun d S2 => tb ρ S2 fun d2 S3 => S3 p = some (.dK []) ∧ Q (.ref p) (sup S3 p (.dK [(.inl i, d), (.inl j, d2)]))
theorem pd_disp2 {i j : Int} (hij : i ≠ j) (ha : PD X y a ta) (hb : PD X y b tb) : PD X y (.Dict [some (.Constant (.int i) k p1), some (.Constant (.int j) k2 p2)] [a, b] pos) (rDisp2 i j ta tb) :=
  PD.of (pe_disp (pps_cons pe_int ha (pps_cons pe_int hb pps_nil)) rfl rfl (by simp) (by simp)) fun σ H Q h => by
    obtain ⟨ρ, S, R, sr, so, h, kk⟩ := h
    intro p hp
    have g0 := Go.newDK (K := X.K) so.so hp .nil
    refine ⟨ρ, sup S p (.dK []), _, sr.go g0, so.go g0, h p (so.so.free hp), fun d S2 w H2 g2 dv h2 => ⟨ρ, S2, _, (sr.go g0).go g2, (so.go g0).go g2, h2, fun d2 S3 w2 H3 g3 dv2 h3 => ?_⟩⟩
    obtain ⟨e2, q⟩ := h3
    obtain ⟨vs, e3, r⟩ := g3.ok p _ e2
    cases r
    have em : mergeK [] [((.inl i : Key), w), (.inl j, w2)] = [(.inl i, w), (.inl j, w2)] := by
      simp [mergeK, putK, hij]
    refine ⟨e3, [(.inl i, w), (.inl j, w2)], rfl, by simp, ?_⟩
    rw [em]
    exact kk (.ref p) _ _ _ (((g0.trans g2).trans g3).trans (Go.setDK g3.ok e2 (DKs.cons (k := .inl i) (DV.go g3 _ _ dv) (DKs.cons (k := .inl j) dv2 .nil)))) rfl q
end
/-! ### what is under way -/
def wG (X : Cx) (g : List Code) : Cx := { X with A := { X.A with guards := some g }, xe := fun _ _ => False }
theorem wpAny_G {α : Type} {M : Model} {A : Around} {t : Sem α} {Q : α → Shared → Prop} {E : Value → Shared → Prop} {s : Shared} (h : ∀ g, wpAny M { A with guards := some g } t Q E s) : wpAny M A t Q E s := fun Γ p hΓ =>
  h (Γ.code.guards ++ guardsOf Γ.below) Γ p ⟨hΓ.1, hΓ.2.1, hΓ.2.2.1, fun g hg => by cases hg; rfl, hΓ.2.2.2.2⟩
section
variable {X : Cx} {y : DXw} {pins : List (Addr × Obj)} {σ : L2.St} {H : Hp} {s : Shared} {g : List Code}
theorem inv_toG (I : Inv X pins σ H s) : Inv (wG X g) pins σ H s :=
  ⟨⟨I.ok.mod, I.ok.kind, I.ok.glob, I.ok.blt, I.ok.above, I.ok.inj, I.ok.has, I.ok.cab, I.ok.hd, I.ok.frames, I.ok.stk, I.ok.exf, I.ok.bs, I.ok.bsz, I.ok.noex, I.ok.exfs, I.ok.funs, I.ok.frf⟩, I.os, I.bare, I.base, I.loc, I.cell, I.free, I.freeC, I.pin, I.hok, I.len⟩
theorem inv_ofG (I : Inv (wG X g) pins σ H s) : Inv X pins σ H s :=
  ⟨⟨I.ok.mod, I.ok.kind, I.ok.glob, I.ok.blt, I.ok.above, I.ok.inj, I.ok.has, I.ok.cab, I.ok.hd, I.ok.frames, I.ok.stk, I.ok.exf, I.ok.bs, I.ok.bsz, I.ok.noex, I.ok.exfs, I.ok.funs, I.ok.frf⟩, I.os, I.bare, I.base, I.loc, I.cell, I.free, I.freeC, I.pin, I.hok, I.len⟩
theorem sp_ofG {D : Ends} {f : Flow} (h : SP (wG X g) pins D f s) : SP X pins D f s := by
  cases f with
  | next => obtain ⟨σ', H', I, q⟩ := h; exact ⟨σ', H', inv_ofG I, q⟩
  | brk => obtain ⟨σ', H', I, q⟩ := h; exact ⟨σ', H', inv_ofG I, q⟩
  | cont => obtain ⟨σ', H', I, q⟩ := h; exact ⟨σ', H', inv_ofG I, q⟩
  | ret u => obtain ⟨v, σ', H', I, r, q⟩ := h; exact ⟨v, σ', H', inv_ofG I, r, q⟩
theorem pdss_G {sts : List Stmt} {t : List Code → RS} (h : ∀ g, PDSs (wG X g) y0 sts (t g)) : PDSs X y sts (fun E ρ S => ∀ g, t g E ρ S) := ⟨fun pins s σ H D I q => wpAny_G fun g => by
  obtain ⟨ρ, S, E, sr, so, q, eo⟩ := q
  exact wpAny_mono ((h g).run pins s σ H D (inv_toG I) ⟨ρ, S, E, sr, ⟨so.so, fun _ _ _ _ _ _ _ _ _ _ _ _ z => z.elim⟩, q g, eo⟩) (fun f s' hf => sp_ofG hf) fun _ _ z => z.elim⟩
theorem room_G {k : Nat} {A : Around} (r : Room k A) : Room k { A with guards := some g } := ⟨r.hd, r.dp, r.un⟩
end
/-! ### repr of a list of ints -/
def runL (a : Addr) : Code × Pos → Bool := fun
  | (.builtin "list.__repr__.loop" ⟨v :: _, _⟩, _) => Builtin.List.listSameRef v (.ref a)
  | _ => false
theorem runL_off (a : Addr) (c : Code) (p : Pos) (h : c.isGuard = false) : runL a (c, p) = false := by
  unfold runL
  split
  · next v rest kw _ heq => cases heq; simp [Code.isGuard, guardIds] at h
  · rfl
theorem runL_pos (a : Addr) (c : Code) (p : Pos) : runL a (c, p) = runL a (c, default) := by
  unfold runL
  split
  · next v rest kw _ heq => cases heq; rfl
  · next h =>
    split
    · next v rest kw _ heq => cases heq; exact (h _ _ _ _ rfl).elim
    · rfl
def txI (is : List Int) : List Str := is.map fun i => (Str.ofString (toString i))
/-- repr of the list at a, where g is under way -/
def repL (g : List Code) (a : Addr) (is : List Int) : Str := if (g.any fun c => runL a (c, default)) = true then "[...]" else listText (txI is)
theorem rep_items {prog : Program} {w : World} : ∀ {is : List Int} {its : List Value}, Vals (is.map V.int) its → (∀ i ∈ is, i.natAbs.log2 < 1920) → ∀ (j : Nat) (z : Value), its[j]? = some z → ∃ t, (txI is)[j]? = some t ∧ ReprIs prog w z t
  | [], _, r, _, j, z, e => by cases r; simp at e
  | i :: is, _, r, h, 0, z, e => by
    cases r with
    | cons r1 r2 =>
      obtain ⟨t, rfl⟩ := r1
      cases (Option.some.inj e)
      exact ⟨_, rfl, ReprIs.int t (h i (by simp))⟩
  | i :: is, _, r, h, j + 1, z, e => by
    cases r with
    | cons r1 r2 => exact rep_items r2 (fun i hi => h i (List.mem_cons_of_mem _ hi)) j z e
section
variable {X : Cx} {y : DXw} {g : List Code}
theorem call_repL (hg : X.A.guards = some g) (hu : X.A.units + 64 < cLine) : CallR X (.builtin "repr") (fun xs H Q => ∃ a is, xs = [.ref a] ∧ SqL X.K H a (is.map V.int) ∧ is ≠ [] ∧ (∀ i ∈ is, i.natAbs.log2 < 1920) ∧ (listText (txI is)).length ≤ sizeLine ∧ Q (.str (repL g a is)) H) := by
  intro pins s σ H xs us Q I r h
  obtain ⟨a, is, rfl, hs, hne, hz, hsz, q⟩ := h
  obtain ⟨u, rfl, t⟩ := vals1 r
  cases t
  obtain ⟨its, rr, ht, hzz⟩ := I.list hs
  obtain ⟨o, ho, hc, ne, hd⟩ := ht.isList
  cases its with
  | nil => exact absurd (List.map_eq_nil_iff.mp (List.eq_nil_of_length_eq_zero rr.length)) hne
  | cons z its =>
    refine call_repr_slot (by omega) ⟨o, ho, hc⟩ F.slot_list_repr.toG ?_
    by_cases hb : (g.any fun c => runL a (c, default)) = true
    · have q2 : Q (.str "[...]") H := by
        unfold repL at q
        rw [if_pos hb] at q
        exact q
      refine wpAny_call (codeAny_call_builtin_own (Code.quiet_builtin _ (by decide +kernel)) F.entry_list_repr (F.slot_list_repr.check _ _ _ _ _ _ _ _ ⟨o, ho, hc⟩ (F.args_list_repr_1 _) ?_))
      show wpOwn _ _ _ (Builtin.listReprAt 0 ⟨[.ref a], []⟩) _ _ s
      intro Γ p hcc hΓ
      have hrun : Γ.below.any (runL a) = true := by
        rw [any_eq_guards (runL_off a) (runL_pos a), hΓ.2.2.2.1 g hg]
        exact hb
      unfold Builtin.listReprAt
      simp [slotArgs, Builtin.List.listItems, seqItems?, Sem.wp_load_of (h := ho), hd, stack]
      show Sem.wp _ Γ (if (Γ.below.any (runL a)) = true then _ else _) _ _ p s
      rw [if_pos hrun]
      refine wpOwn_of_wpAny ?_ Γ p hcc hΓ
      refine wpAny_bind (wpAny_rule ?_)
      refine wpAny_bind (wpAny_mkStr (wpAny_pure ?_) (by decide +kernel))
      exact ⟨⟨_, _, rfl⟩, .str "[...]", H, I.tok _, ⟨_, rfl⟩, q2⟩
    · have q2 : Q (.str (listText (txI is))) H := by
        unfold repL at q
        rw [if_neg hb] at q
        exact q
      refine call_list_repr (g := g) ⟨o, ho, hc⟩ hg (fun v rest kw hm => ?_) ho hd (by unfold txI; rw [List.length_map, List.size_toArray]; have := rr.length; rw [List.length_map] at this; exact this) (fun j z' hj => rep_items rr hz j z' (by simpa using hj)) (fun h' u tk hk => ⟨_, _, rfl, .str _, H, I.kept (h' := h') (t' := tk) hk, ⟨_, rfl⟩, q2⟩) hsz
      cases hv : Builtin.List.listSameRef v (.ref a) with
      | false => rfl
      | true => exact absurd (List.any_eq_true.mpr ⟨_, hm, hv⟩) hb
def dRepr (g : List Code) : RCall := fun ds S Q => match ds with
  | [.ref a] => ∃ is : List Int, S a = some (.lst (is.map D.int)) ∧ is ≠ [] ∧ (∀ i ∈ is, i.natAbs.log2 < 1920) ∧ (listText (txI is)).length ≤ sizeLine ∧ Q (.str (repL g a is)) S
  | _ => False
theorem cd_repr (hg : X.A.guards = some g) (hu : X.A.units + 64 < cLine) : CallR X (.builtin "repr") (lcl X.K (dRepr g)) := by
  intro pins s σ H vs us Q I rv h
  obtain ⟨ds, S, R, dv, so, h, k⟩ := h
  refine call_repL hg hu pins s σ H vs us Q I rv ?_
  unfold dRepr at h
  split at h
  · rename_i a
    obtain ⟨v, rfl, r⟩ := dvs1 dv
    cases (show v = V.ref a from r)
    obtain ⟨is, e, h1, h2, h3, h4⟩ := h
    obtain ⟨ws, e2, r2⟩ := so a _ e
    cases r2.ints
    exact ⟨a, is, rfl, SqL.of e2, h1, h2, h3, k (.str (repL g a is)) S _ H (Go.refl so) rfl h4⟩
  · exact h.elim
/-- sum of a list or a tuple of ints -/
theorem sum_tup {prog : Program} {w : World} {A : Around} {E : Value → Shared → Prop} {s : Shared} {l : Addr} {its : List Value} {ns : List Int} {Q : Value → Shared → Prop} (hh : A.handled = none) (hl : s.heap.IsTuple l its.toArray) (hi : IntsAre its ns)
    (h : ∀ h' tk t', (∀ b o, s.heap.get? b = some o → h'.get? b = some o) → Q (.int ns.sum t') { s with heap := h', toks := tk }) : wpAny (model prog w) A (call (.builtin "sum") [.ref l]) Q E s := by
  obtain ⟨xs, e⟩ := hi.allInts.items
  have hn : numsOf (intItems xs).toList = ns := by rw [← e]; exact hi.numsOf
  rw [nums_intItems] at hn
  rw [e] at hl
  refine PySem.W.ktm_sumG hh hl fun h' tk t' hk => ?_
  have := h h' tk t' hk
  rw [preSum_eq, List.take_of_length_le (by simp), hn]; exact this
def dSumA : RCall := fun ds S Q => match ds with
  | [.tup xs] => ∃ ns : List Int, xs = ns.map D.int ∧ Q (.int ns.sum) S
  | [d] => ∃ ns : List Int, RdL S d (ns.map D.int) ∧ Q (.int ns.sum) S
  | _ => False
theorem cd_sumA (hc : X.calm = true) : CallR X (.builtin "sum") (lcl X.K dSumA) := by
  intro pins s σ H vs us Q I rv h
  obtain ⟨ds, S, R, dv, so, h, k⟩ := h
  unfold dSumA at h
  split at h
  · rename_i xs
    obtain ⟨v, rfl, a, ws, rfl, q, r⟩ := dvs1 dv
    obtain ⟨ns, rfl, h⟩ := h
    cases r.ints
    obtain ⟨its, rr, ht, hz⟩ := I.tuple q.sq
    obtain ⟨o, ho, hcl, n, hd⟩ := ht
    rw [Vals.ref1 rv]
    exact sum_tup (I.ok.hd hc) ⟨o, ho, hcl, n, hd⟩ rr.ints fun h' tk t' hk => ⟨.int _, H, I.kept hk, ⟨_, rfl⟩, k (.int ns.sum) S _ H (Go.refl so) rfl h⟩
  · rename_i d _
    obtain ⟨v, rfl, r⟩ := dvs1 dv
    obtain ⟨ns, hx, h⟩ := h
    obtain ⟨a, ws, rfl, q, r⟩ := hx.sq so r
    cases r.ints
    exact cr_sum hc pins s σ H _ us Q I rv ⟨a, ns, rfl, q, k (.int ns.sum) S _ H (Go.refl so) rfl h⟩
  · exact h.elim
end
end DL
set_option Elab.async false
set_option linter.all false
set_option maxRecDepth 100000
set_option maxHeartbeats 4000000
/-! DT: sorted of a list of ints. -/
namespace DL
open PySem PySem.Spec PyProof.Rows L2
section
variable {X : Cx}
def dSorted : RCall := fun ds S Q => match ds with
  | [d] => ∃ ns : List Int, RdL S d (ns.map D.int) ∧ ∀ (ms : List Int) (p : Addr), ms.Perm ns → ms.Pairwise (· ≤ ·) → S p = none → Q (.ref p) (sup S p (.lst (ms.map D.int)))
  | _ => False
theorem cd_sorted : CallR X (.builtin "sorted") (lcl X.K dSorted) := by
  intro pins s σ H vs us Q I rv h
  obtain ⟨ds, S, R, dv, so, h, k⟩ := h
  unfold dSorted at h
  split at h
  · rename_i d
    obtain ⟨v, rfl, r⟩ := dvs1 dv
    obtain ⟨ns, hx, h⟩ := h
    obtain ⟨a, ws, rfl, q, r⟩ := hx.sq so r
    cases r.ints
    exact cr_sortedI pins s σ H _ us Q I rv ⟨a, ns, rfl, q, fun ms p hm hp hn => k (.ref p) _ _ _ (Go.newLst so hn (DVs.of_ints (ns := ms))) rfl (h ms p hm hp (so.free hn))⟩
  · exact h.elim
end
end DL
set_option Elab.async false
set_option linter.all false
set_option maxRecDepth 100000
set_option maxHeartbeats 4000000
/-! DU: defs that are entered with no repr or comparison under way (guards = some []): repr of nested values is then a function of the value alone. -/
namespace DL
open PySem PySem.Spec PyProof.Rows L2
/-- the promise of a def that is entered with nothing under way -/
structure FnOkG (P : Program) (w : World) (K : PySem.W.Frag) (mg : Str → Option Value) (base : Heap) (CX : CXT) (k : Nat) (f : Addr) (fd : FuncData) (ps : List Str) (sp : Sp) : Prop where
  size : ∀ vs H Q E, sp vs H Q E → vs.length = ps.length
  go : ∀ (A : Around) (outs : List Env) (t : Shared) (H : Hp) (given : Args) (us : List Value) (vs : List V) (Q : VK) (E : XK), A.guards = some [] → Room k A → Env0 P w K mg base A outs t H → BindsTo t fd given (ps.zip us) →
    Vals vs us → sp vs H Q E → codeAny (model P w) A (.call (.ref f) given) (CR CX outs P w H t Q E) t
section
variable {P : Program} {w : World} {K : PySem.W.Frag} {mg : Str → Option Value} {base : Heap} {CX : CXT} {k : Nat} {f : Addr} {fd : FuncData} {ps : List Str} {sp : Sp}
theorem FnOkG.imp {sp' : Sp} (F : FnOkG P w K mg base CX k f fd ps sp) (h : ∀ vs H Q E, sp' vs H Q E → sp vs H Q E) : FnOkG P w K mg base CX k f fd ps sp' :=
  ⟨fun vs H Q E q => F.size vs H Q E (h _ _ _ _ q), fun A outs t H given us vs Q E hz hr he hb hv hs => F.go A outs t H given us vs Q E hz hr he hb hv (h _ _ _ _ hs)⟩
end
section
variable {P : Program} {w : World} {K : PySem.W.Frag} {mg : Str → Option Value} {base : Heap}
theorem okXG {x qual : Str} {st : Stmt} {f : Addr} {fd : FuncData} {N ps : List Str} {k : Nat} {sp : Sp} (F : Fun K x qual st f fd) (S : FnScope N ps (defScope st)) (hlen : ∀ vs H Q E, sp vs H Q E → vs.length = ps.length)
    (body : ∀ (cdv : Value) (A : Around) (outs : List Env) (t : Shared) (H : Hp) (vs : List V) (Q : VK) (E : XK), A.guards = some [] → Room k (A.deeper (envOfC qual (defScope st) t.heap.objs.size f cdv)) → sp vs H Q E →
      ∃ r, PSs (cxOf (L2.CX P w) P w K mg base N qual (defScope st) f cdv A outs t H E) (defBody st) r ∧ r { nx := fun _ H' => Q .non H', rt := Q } (start N vs) H) :
    FnOkG P w K mg base (L2.CX P w) (k + 1) f fd ps sp := by
  obtain ⟨c1, c2, c3, c4, c5, c6, cdv, c8, c9, rfl, look, code⟩ := F.ex
  constructor
  · exact hlen
  · intro A outs t H given us vs Q E hz room env bound vals promise
    have inK := env.mod.kin.keeps fun b o e => (env.bs b o e).1
    have free := env.mod.nolimit.keeps fun b o e => (env.bs b o e).1
    have kinds : ∀ y ∈ ps.zip us, (defScope st).names.lookup y.1 = some .local ∨ ((defScope st).names.lookup y.1 = some .cell ∧ ((cellsFrom (t.heap.objs.size + 1) (defScope st).names []).lookup y.1).isSome = true) := by
      rintro ⟨nm, val⟩ hy
      have := S.par nm (List.of_mem_zip hy).1
      rcases this with z | z
      · left; exact z
      · right; exact ⟨z, PySem.W.cellsFrom_some _ _ _ (.inl z)⟩
    refine codeAny_call_function room.depth (inK _ _ look) rfl S.co S.gen rfl (PySem.W.codeRec_of inK code) (bound _ _ _ _ (wpAny_newFunctionEnv_cells S.kind kinds fun env' ee t1 ic => ?_))
    subst ee
    refine ⟨free.keeps ic.toInCall.keep, codeAny_func ?_⟩
    obtain ⟨r, hr, hq⟩ := body cdv A outs t H vs Q E hz (room.deeper _) promise
    have J := inv_start (CX := L2.CX P w) (qual := qual) (f := f) (cd := cdv) (E := E) S room.hd env (hlen _ _ _ _ promise) vals ic
    refine wpAny_mono (hr.run [] t1 (start N vs) H _ J hq) (fun fl t2 out => ?_) fun e t2 out => out
    cases fl with
    | ret u =>
      obtain ⟨v, σ2, H2, J2, rel, q2⟩ := out
      exact ⟨v, H2, J2.os, J2.bare, J2.base, J2.hok, rel, q2⟩
    | next =>
      obtain ⟨σ2, H2, J2, q2⟩ := out
      exact ⟨V.non, H2, J2.os, J2.bare, J2.base, J2.hok, rfl, q2⟩
    | brk => obtain ⟨_, _, _, z⟩ := out; exact z.elim
    | cont => obtain ⟨_, _, _, z⟩ := out; exact z.elim
theorem fnEG {x qual : Str} {st : Stmt} {f : Addr} {fd : FuncData} {N ps : List Str} {k : Nat} {sp : DSp} (F : Fun K x qual st f fd) (S : FnScope N ps (defScope st))
    (len : ∀ ds S Q E, sp ds S Q E → ds.length = ps.length)
    (hbody : ∀ (cdv : Value) (A : Around) (outer : List Env) (s : Shared) (H : Hp) (E : XK) (RX : Addr → D → Sto → Prop), A.guards = some [] → Room k (A.deeper (envOfC qual (defScope st) s.heap.objs.size f cdv)) →
      ∃ t, PDSs (cxOf (L2.CX P w) P w K mg base N qual (defScope st) f cdv A outer s H E) (yOf E RX) (defBody st) t ∧ ∀ ds S Q, sp ds S Q RX → t { nx := fun _ S' => ∃ S2, Ext S2 S' ∧ Q .non S2, rt := fun d S' => ∃ S2, Ext S2 S' ∧ Q d S2 } (startD N ds) S) :
    FnOkG P w K mg base (L2.CX P w) (k + 1) f fd ps (toSp K sp) := by
  refine okXG F S (fun vs H Q E h => ?_) (fun cdv A outer s H vs Q E hz hr h => ?_)
  · obtain ⟨ds, S, R, RX, dvs, _, h, _⟩ := h
    rw [← dvs.length]
    exact len _ _ _ _ h
  · obtain ⟨ds, S, R, RX, dvs, so, h, k1, k2⟩ := h
    obtain ⟨t, ht, hq⟩ := hbody cdv A outer s H E RX hz hr
    refine ⟨_, ht, startD N ds, S, _, start_srv dvs, ⟨so, fun C d ρ S' dx w' σ H' g _ e dv q => k2 C d S' dx w' H' g e dv q⟩, hq ds S R h, ?_⟩
    exact ⟨fun ρ S' σ H' g _ ⟨S2, e, q⟩ => k1 .non S2 .non H' (g.less e) rfl q, fun d S' v H' g dv ⟨S2, e, q⟩ => k1 d S2 v H' (g.less e) dv q, fun _ _ _ _ _ _ z => z, fun _ _ _ _ _ _ z => z⟩
end
/-! ### repr -/
section
variable {X : Cx}
def GoodP (p : PyData) : Prop := p.showable = true ∧ p.hasDict = false ∧ p.depth ≤ 30 ∧ p.shown.length ≤ sizeLine
def dShow : RCall := fun ds S Q => match ds with
  | [d] => ∃ p, PyR S d p ∧ GoodP p ∧ Q (.str p.shown) S
  | _ => False
theorem cd_show (hz : X.A.guards = some []) (hu : X.A.units + 64 < cLine) : CallR X (.builtin "repr") (lcl X.K dShow) := by
  intro pins s σ H vs us Q I rv h
  obtain ⟨ds, S, R, dv, so, h, k⟩ := h
  unfold dShow at h
  split at h
  · rename_i d
    obtain ⟨v, rfl, r⟩ := dvs1 dv
    obtain ⟨p, hp, ⟨g1, g2, g3, g4⟩, h⟩ := h
    have dp := PyR.dp so p d v hp r
    obtain ⟨u, rfl, ru⟩ := vals1 rv
    have fin : ∀ (tk : Tok) (H' : Hp) (s' : Shared), Inv X pins σ H s' → EP X pins σ Q (.str p.shown tk) s' := fun tk H' s' J => ⟨.str p.shown, H, J, ⟨tk, rfl⟩, k (.str p.shown) S _ H (Go.refl so) rfl h⟩
    obtain ⟨as, rd⟩ := Dp.reads I p v u dp ru
    cases rd with
    | none => exact PySem.P.repr_of_none (fin _ H _ (I.tok _))
    | bool b => exact PySem.P.repr_of_bool (fin _ H _ (I.tok _))
    | int i t => exact PySem.P.repr_of_int (by simpa [PyData.showable] using g1) (fin _ H _ (I.tok _))
    | str x t => exact PySem.P.repr_of_str (fin _ H _ (I.tok _)) g4
    | list a1 a2 a3 a4 => exact repr_of_reads' (.list a1 a2 a3 a4) g1 (PyData.noDict_hsm g2) hz (by omega) (fun _ _ e => e) (fun h' u tk hk => fin u H _ (I.kept (h' := h') (t' := tk) hk)) g4
    | tuple a1 a2 a3 a4 => exact repr_of_reads' (.tuple a1 a2 a3 a4) g1 (PyData.noDict_hsm g2) hz (by omega) (fun _ _ e => e) (fun h' u tk hk => fin u H _ (I.kept (h' := h') (t' := tk) hk)) g4
    | dict a1 a2 a3 a4 a5 => cases g2
  · exact h.elim
end
mutual
theorem PyR.ext {S S' : Sto} (x : Ext S S') : ∀ (p : PyData) (d : D), PyR S d p → PyR S' d p
  | .none, _, h => by cases h; exact .non
  | .bool b, _, h => by cases h; exact .bl b
  | .int i, _, h => by cases h; exact .int i
  | .str t, _, h => by cases h; exact .str t
  | .tuple ps, _, h => by cases h with | tup hs => exact .tup (PyRs.ext x ps _ hs)
  | .list ps, _, h => by
    cases h with
    | fro hs => exact .fro (PyRs.ext x ps _ hs)
    | lst e hs => exact .lst (x _ _ e) (PyRs.ext x ps _ hs)
  | .dict _, _, h => by cases h
theorem PyRs.ext {S S' : Sto} (x : Ext S S') : ∀ (ps : List PyData) (ds : List D), PyRs S ds ps → PyRs S' ds ps
  | [], _, h => by cases h; exact .nil
  | p :: ps, _, h => by cases h with | cons h1 h2 => exact .cons (PyR.ext x p _ h1) (PyRs.ext x ps _ h2)
end
end DL
namespace DL
open PySem PySem.Spec PyProof.Rows L2
/-! ### the law's own call: nothing is under way there -/
theorem top_callG {P : Program} {w : World} {K : PySem.W.Frag} {mg mb : Str → Option Value} {CX : CXT} {k : Nat} {fn a : Addr} {fd : FuncData} {x : Str} {sp : Sp} {t : Shared} {vs : List Value} {ns : List Int}
    (inK : K.In t.heap) (g1 : t.heap.Ns mainGlobals mg) (g2 : t.heap.Ns builtinsNs mb) (g3 : ∀ x : Str, x ≠ "__name__" → mb x = bootBuiltins x) (g4 : t.heap.NoLimit) (g5 : t.gens = #[])
    (obj : t.heap.get? a = some { cls := .type "list", data := .seq vs.toArray }) (areInts : IntsAre vs ns) (hshort : ns.length ≤ sizeLine) (room : Room k callerA)
    (F : ∀ base : Heap, K.In base → base.Ns mainGlobals mg → FnOkG P w K mg base CX k fn fd [x] sp) (bind : ∀ (s : Shared) (u : Value), BindsTo s fd ⟨[u], []⟩ [(x, u)])
    (promise : ∀ H : Hp, Only H → SqL K H a (ns.map V.int) → sp [.ref a] H (fun v _ => v = .bl true) fun _ _ _ => False)
    (noX : ∀ H e s', CX [] H t (fun _ _ _ => False) e s' → False) :
    codeAny (model P w) callerA (.call (.ref fn) ⟨[.ref a], []⟩) (fun r s' => r = .ok (.ret (.bool true)) ∧ OldK t.heap s'.heap ∧ s'.os = t.os ∧ AllBare s'.gens) t := by
  have vals := vals_ints areInts
  have vl := areInts.length
  suffices key : ∀ H : Hp, Only H → SqL K H a (ns.map V.int) → HOk P w H t.heap → (∀ b, H b ≠ none → b = a) → (H a ≠ none → K.lookup a = none) →
      codeAny (model P w) callerA (.call (.ref fn) ⟨[.ref a], []⟩) (fun r s' => r = .ok (.ret (.bool true)) ∧ OldK t.heap s'.heap ∧ s'.os = t.os ∧ AllBare s'.gens) t by
    cases look : K.lookup a with
    | some o =>
      have same := (inK a o look).symm.trans obj
      cases same
      exact key (fun _ => none) (fun _ => .inl rfl) (.inr ⟨_, vs.toArray, _, look, rfl, rfl, rfl, by rw [List.size_toArray, vl]; exact hshort, by simpa using vals⟩) (fun b u z => nomatch (show (none : Option HO) = some u from z)) (fun b z => absurd rfl z) (fun z => absurd rfl z)
    | none =>
      have at_a : ∀ b, b ≠ a → (if b = a then some (HO.frz { cls := .type "list", data := .seq vs.toArray } (.lst (ns.map V.int))) else none) = none := fun b z => if_neg z
      refine key (fun b => if b = a then some (.frz { cls := .type "list", data := .seq vs.toArray } (.lst (ns.map V.int))) else none) (fun b => ?_) (.inl (.inr ⟨_, if_pos rfl⟩)) (fun b u z => ?_) (fun b z => ?_) (fun _ => look)
      · rcases Classical.em (b = a) with y | y
        · exact .inr ⟨_, _, if_pos y⟩
        · exact .inl (at_a b y)
      · rcases Classical.em (b = a) with y | y
        · subst y
          cases (if_pos rfl).symm.trans z
          exact ⟨obj, by rw [List.length_map]; exact hshort, vs, _, vals, obj⟩
        · cases (at_a b y).symm.trans z
      · exact Classical.byContradiction fun y => z (at_a b y)
  intro H only sq hok onlyA freeA
  have under : ∀ {b : Addr} {o : Obj}, t.heap.get? b = some o → H b = none → (hidT t.heap H).get? b = some o := fun e n => hidT_get e n
  have noDict : ∀ {b : Addr} {o : Obj} {es : Array DictEntry} {ep : Nat}, t.heap.get? b = some o → o.data = .dict es ep → H b = none := by
    intro b o es ep e d
    refine Classical.byContradiction fun z => ?_
    have := onlyA b z
    subst this
    cases obj.symm.trans e
    cases d
  have nsU : ∀ {b : Addr} {m : Str → Option Value}, t.heap.Ns b m → (hidT t.heap H).Ns b m := by
    rintro b m ⟨o, es, ep, e, d, r⟩
    exact ⟨o, es, ep, under e (noDict e d), d, r⟩
  have inU : K.In (hidT t.heap H) := fun b o e => under (inK b o e) (Classical.byContradiction fun z => by
    have := onlyA b z
    subst this
    rw [freeA z] at e
    cases e)
  obtain ⟨mc, l1, l2⟩ := g4
  have md : Mod K mg (hidT t.heap H) := ⟨inU, nsU g1, ⟨mb, nsU g2, g3⟩, ⟨mc, nsU l1, l2⟩⟩
  have env : Env0 P w K mg (hidT t.heap H) callerA [] t H := ⟨rfl, md, fun b o e => of_hidT e, Nat.le_of_eq (hidT_size _ _), trivial, (fun b hb => absurd (List.mem_nil_iff b |>.mp hb) id), hok, .of_eq g5⟩
  refine codeAny_mono ((F _ inU (nsU g1)).go callerA [] t H ⟨[.ref a], []⟩ [.ref a] [.ref a] _ _ rfl room env (bind t (.ref a)) (.cons rfl .nil) (promise H only sq)) fun r s' out => ?_
  cases r with
  | error e => exact (noX H e s' out).elim
  | ok fl =>
    cases fl with
    | ret u =>
      obtain ⟨v, H2, os, bare, un, hok2, rel, q⟩ := out
      cases (show v = .bl true from q)
      cases (show u = Value.bool true from rel)
      refine ⟨rfl, OldK.of_keep fun b o e => ?_, os, bare⟩
      cases hb : H b with
      | none => exact un.keep b o e hb (fun z => by cases z) (by simp)
      | some c =>
        rcases only b with z | ⟨ob, xs, z⟩
        · rw [hb] at z; cases z
        · have e1 := (hok b _ z).1
          have e2 := (hok2 b _ (un.frzs b ob _ z)).1
          cases e1.symm.trans e
          exact e2
    | next => exact False.elim out
    | brk => exact False.elim out
    | cont => exact False.elim out
theorem walk_ofG {l : PySem.W.OpenLaw} {n k : Nat} {q : Program} {loose : List Str} {XP : (Str → Option Value) → Heap → Prop} {YP : World → Heap → Prop} {d : DefRec} {K : Params → PySem.W.Frag} {CX : World → CXT} {sp : World → Sp} {x : Str}
    (hn : l.most = some n) (hn2 : n ≤ sizeLine) (hdf : d.params.defaults = []) (room : Room k callerA) (hY : ∀ (w : World) (h : Heap), YP w h → (K w.params).In h)
    (F : ∀ (w : World) (mg : Str → Option Value) (fn : Addr) (h : Heap), (K w.params).In h → h.Ns mainGlobals mg → mg d.name = some (.ref fn) →
      ∃ fd : FuncData, (∀ (s : Shared) (u : Value), BindsTo s fd ⟨[u], []⟩ [(x, u)]) ∧ ∀ base : Heap, (K w.params).In base → base.Ns mainGlobals mg → FnOkG l.prog w (K w.params) mg base (CX w) k fn fd [x] (sp w))
    (promise : ∀ (w : World) (H : Hp) (a : Addr) (ns : List Int), ns.length ≤ n → Only H → SqL (K w.params) H a (ns.map V.int) → sp w [.ref a] H (fun v _ => v = .bl true) fun _ _ _ => False)
    (noX : ∀ (w : World) (H : Hp) (s : Shared) (e : Value) (s' : Shared), CX w [] H s (fun _ _ _ => False) e s' → False) :
    PySem.W.WalkO q loose XP YP l.row.toRowW d [] (fun f vs => PySem.call f vs) :=
  Att.attach_call hn hdf fun w _ t mg mb fn _ _ _ _ a vs ns G Y _ _ _ named obj areInts hshort gens => by
    have inK := hY w _ Y
    obtain ⟨fd, b, FF⟩ := F w mg fn _ inK G.T.g named
    exact top_callG inK G.T.g G.T.b G.T.builtins G.T.nolimit gens obj areInts (Nat.le_trans hshort hn2) room FF b (fun H only sq => promise w H a ns hshort only sq) fun H e s' => noX w H t e s'
end DL
set_option Elab.async false
set_option linter.all false
set_option maxRecDepth 100000
set_option maxHeartbeats 4000000
namespace DL
open PySem PySem.Spec PyProof.Rows L2

/-! ### held exceptions -/
theorem xo_ok {P : Program} {w : World} {H : Hp} {h : Heap} {a C dx : Addr} {oe : Obj} {vs : Array Value} (e : h.get? a = some oe) (z : Zc (.ref C) (some dx) oe) (d : oe.data = .fields vs) : ObjOk P w H h a (XO a C dx) :=
  ⟨⟨oe, vs, e, z, d⟩, ⟨oe, e⟩, fun _ _ ⟨o, v, q, r⟩ k => ⟨o, v, k o q, r⟩⟩
theorem xo_at {P : Program} {w : World} {H : Hp} {h : Heap} {a C dx : Addr} (hok : HOk P w H h) (he : H a = some (XO a C dx)) : ∃ oe vs, h.get? a = some oe ∧ Zc (.ref C) (some dx) oe ∧ oe.data = .fields vs := by
  have x : ObjOk P w H h a (.ext fun h => ∃ oe vs, h.get? a = some oe ∧ Zc (.ref C) (some dx) oe ∧ oe.data = .fields vs) := hok a _ he
  exact x.1
section
variable {X : Cx} {pins : List (Addr × Obj)} {σ : L2.St} {H : Hp} {s : Shared}
/-- an exception object that lies beside what is tracked is tracked from now on -/
theorem inv_track {a C dx : Addr} {oe : Obj} {vs : Array Value} (I : Inv X pins σ H s) (h0 : X.s_0.heap.get? a = none) (hn : H a = none) (he : s.heap.get? a = some oe) (hz : Zc (.ref C) (some dx) oe) (hd : oe.data = .fields vs)
    (nL : a ≠ X.env.locals) (nP : ∀ p ∈ X.pn ++ pins, p.1 ≠ a) : Inv X pins σ (upd H a (XO a C dx)) s := by
  refine ⟨I.ok, I.os, I.bare, ⟨I.base.keep, I.base.slot, fun b o e n hx => ?_, I.base.there, fun b xs e => ?_, fun b o u e => ?_, fun b ps e => ?_⟩, I.loc, I.cell, ?_, fun x c e => ?_, fun p hp => ?_, fun b u e => ?_, I.len⟩
  · rw [upd_ne (fun z => by rw [z, h0] at e; cases e)]
    exact I.base.free b o e n hx
  · have q := I.base.tups b xs e
    rw [upd_ne (ne_of_none q hn)]
    exact q
  · have q := I.base.frzs b o u e
    rw [upd_ne (ne_of_none q hn)]
    exact q
  · obtain ⟨m, q⟩ := I.base.tbls b ps e
    exact ⟨m, by rw [upd_ne (ne_of_none q hn)]; exact q⟩
  · rw [upd_ne nL.symm]
    exact I.free
  · have nc : c ≠ a := fun z => by
      obtain ⟨v, o, ho, hd'⟩ := I.cell x c e
      rw [z, he] at ho
      cases ho
      rw [hd] at hd'
      cases hd'
    rw [upd_ne nc]
    exact I.freeC x c e
  · obtain ⟨e, n, ne, nf, d⟩ := I.pin p hp
    exact ⟨e, by rw [upd_ne (nP p hp)]; exact n, ne, nf, d⟩
  · by_cases hb : b = a
    · subst hb
      rw [upd_same] at e
      cases e
      exact xo_ok he hz hd
    · rw [upd_ne hb] at e
      exact (I.hok b u e).stay (fun c v _ q => q) (fun c q => by rw [upd_ne (ne_of_none q hn)]; exact q) fun c xs q => by rw [upd_ne (ne_of_none q hn)]; exact q
theorem inv_suiteT (I : Inv X pins σ H s) (a : Addr) : Inv (X.suite a (X.pn ++ pins)) [] σ H s :=
  ⟨I.ok.suite _ _, I.os, I.bare, I.base, I.loc, I.cell, I.free, I.freeC, fun p hp => I.pin p (by rw [List.append_nil] at hp; exact hp), I.hok, I.len⟩
theorem inv_unsuiteT {a : Addr} {pn' : List (Addr × Obj)} (I : Inv (X.suite a (X.pn ++ pins)) pn' σ H s) (ok : X.Ok) : Inv X pins σ H s :=
  ⟨ok, I.os, I.bare, I.base, I.loc, I.cell, I.free, I.freeC, fun p hp => I.pin p (List.mem_append_left _ hp), I.hok, I.len⟩
end

/-- what the clause 'except x as n' wishes of an exception of the body, when the exception is held from then on -/
def wAsT (K : PySem.W.Frag) (c : Value) (i : Nat) (ts : TS) (Wout : WX) (D : Ends) : WX := fun cls d σ H =>
  ∃ b, PySem.W.exmOne K cls c = some b ∧ (b = true → ∃ C dx, cls = .ref C ∧ d = some dx ∧ ∀ a, H a = none → ts { nx := fun σ' H' => D.nx (σ'.set i none) H', rt := D.rt, bk := fun σ' H' => D.bk (σ'.set i none) H', ct := fun σ' H' => D.ct (σ'.set i none) H' } (σ.set i (some (.ref a))) (upd H a (XO a C dx))) ∧
    (b = false → Wout cls d σ H)
section
variable {X : Cx} {pins : List (Addr × Obj)} {σ : L2.St} {H : Hp} {s : Shared}
variable {x n : Str} {c : Value} {i : Nat} {body suite : List Stmt} {b₀ : Stmt} {np pos pos' : Pos} {tb : WX → TS} {ts : TS} {Wout : WX}
theorem ps_try_asT (hs : X.stack = X.env :: X.outer) (hf : X.env.frame = some X.env.locals) (hex : X.ex = []) (hN : X.N.Nodup) (hi : X.N[i]? = some n) (hln : X.env.kindOf n = some .local) (hc : Names X x c) (tk : Takes X Wout)
    (hb : ∀ (W : WX) (pn : List (Addr × Obj)) (xe : Value → Shared → Prop), Takes (X.tr pn xe) W → PassesOwn (model X.prog X.w) X.A X.env xe → PSs (X.tr pn xe) body (tb W))
    (hsu : ∀ (a : Addr) (pn : List (Addr × Obj)), PSs (X.suite a pn) (b₀ :: suite) ts) :
    PS X (.Try body [.ExceptHandler (some (.Name x np)) (some n) (b₀ :: suite) pos'] [] [] pos) (fun D σ H => tb (wAsT X.K c i ts Wout D) D σ H) := by
  refine ⟨fun pins s σ H D I h => ?_⟩
  have ok := I.ok
  have hfr : X.A.frames = some (X.env :: X.outer) := by rw [ok.frames, hs]
  have hloc : Loc X.env.scope n := .inl hln
  refine wpAny_Try_except ?_
  refine wpAny_mono ((hb (wAsT X.K c i ts Wout D) (X.pn ++ pins) (fun e s₁ => wpAny (model X.prog X.w) X.A (noteFrame e X.env) (fun _ s₂ => wpAny (model X.prog X.w) X.A (setFlight e none) (fun _ s₃ =>
    wpAny (model X.prog X.w) X.A (handleBy e X.env [.ExceptHandler (some (.Name x np)) (some n) (b₀ :: suite) pos']) (SP X pins D) X.xe s₃) X.xe s₂) X.xe s₁) (fun u s' xx => ?_) PassesOwn.looking).run [] s σ H D (I.toTry _) h) (fun f s1 hsp => ?_) (fun e s1 he => he)
  · -- the catch
    obtain ⟨a, B, sI, pins', σ', H', cls, d, rfl, J', nb, up, sky, na, os, ag, b, hb1, hyes, hno⟩ := xx
    have J : Inv X pins σ' H' sI := J'.ofTry ok
    have sky' : Sky B (X.env :: X.outer) a (Zc cls d) X.env.locals s'.heap := by rw [← hs]; exact sky
    show wpAny (model X.prog X.w) X.A (noteFrame (.ref a) X.env) _ _ _
    refine Sky.land Zc.steady hfr hf sky' fun h3 fl3 up3 => ?_
    have J3 : Inv X pins σ' H' { s' with heap := h3 } := J.landed nb fl3.1 (up.trans up3) os ag
    obtain ⟨oe3, vs3, he3, hz3, hd3⟩ := fl3.there
    have notFr : ∀ {h : Heap} {o : Obj} {vs : Array Value}, h.FunFrames B (X.env :: X.outer) → h.get? a = some o → o.data = .fields vs → a ∉ frs (X.env :: X.outer) := fun {h o vs} ff e dd hm => by
      obtain ⟨_, o', e', hnf⟩ := ff.mem hm
      rw [e] at e'; cases e'
      exact hnf _ dd
    have nfr := notFr fl3.2.2.1 he3 hd3
    have nL : a ≠ X.env.locals := fun z => nfr (List.mem_filterMap.mpr ⟨X.env, List.mem_cons_self, by rw [hf, z]⟩)
    have nF : a ∉ X.fs := fun hm => by
      obtain ⟨e, he, q⟩ := List.mem_filterMap.mp hm
      exact nfr (List.mem_filterMap.mpr ⟨e, List.mem_cons_of_mem _ he, q⟩)
    have nI : sI.heap.get? a = none := by
      cases e : sI.heap.get? a with
      | none => rfl
      | some o =>
        have q := nb a o e (by rw [hs]; exact nfr)
        rw [fl3.2.1] at q
        cases q
    have n0 : X.s_0.heap.get? a = none := by
      cases e : X.s_0.heap.get? a with
      | none => rfl
      | some o =>
        obtain ⟨o', q⟩ := J.base.there a o e (by rw [hex]; exact fun z => nomatch z)
        rw [nI] at q
        cases q
    have nP : ∀ p ∈ X.pn ++ pins, p.1 ≠ a := fun p hp z => by
      have q := (J.pin p hp).1
      rw [z, nI] at q
      cases q
    have S3 := J3.suite he3 hd3 na nL nF
    refine wpAny_handleBy_cons (codeAny_handlers_test ?_) (by intro q; cases q)
    have LT : PySem.W.Looks (model X.prog X.w) h3 (typeOf (.ref a)) cls := fun A Q E s k q => wpAny_typeOf_ref (k _ _ he3) (by rw [hz3.1]; exact q)
    have LM := PySem.W.exm_one (M := model X.prog X.w) (J3.kIn) LT hb1
    have test : ∀ {Q : Value → Shared → Prop} {E : Value → Shared → Prop}, Q c { s' with heap := h3 } → wpAny (model X.prog X.w) (X.A.mark (some (.ref a))) (eval (.Name x np) X.env) Q E { s' with heap := h3 } := fun {Q E} q => by
      obtain ⟨hg, hdbg, hm | ⟨hm, hv, hnn⟩⟩ := hc
      · exact ld_glob (X := X.suite a ((a, oe3) :: (X.pn ++ pins))) S3 hg hm q hdbg
      · exact ld_blt (X := X.suite a ((a, oe3) :: (X.pn ++ pins))) S3 hg hm hv q hnn hdbg
    refine test (LM.here ?_)
    cases b with
    | true =>
      refine codeAny_handlers_suite_as ?_
      refine HandSPX.lands_againZ fl3 fun h4 fl4 up4 => ?_
      have J4 : Inv X pins σ' H' { s' with heap := h4 } := J.landed nb fl4.1 ((up.trans up3).trans up4) os ag
      obtain ⟨oe4, vs4, he4, hz4, hd4⟩ := fl4.there
      obtain ⟨C, dx, rfl, rfl, hts⟩ := hyes rfl
      have S4 := inv_suiteT (inv_track J4 n0 na he4 hz4 hd4 nL nP) a
      refine store_ok (X := X.suite a (X.pn ++ pins)) (v := .ref a) S4 hN hi hloc rfl (fun s5 S5 => ?_) (.inr hln)
      refine wpAny_mono ((hsu a (X.pn ++ pins)).run [] s5 _ _ _ S5 (hts a na)) (fun f s6 hsp => ?_) (fun _ _ z => False.elim z)
      have end_ : ∀ {σ6 : L2.St} {H6 : Hp} {Q : Shared → Prop}, Inv (X.suite a (X.pn ++ pins)) [] σ6 H6 s6 → (∀ s7, Inv X pins (σ6.set i none) H6 s7 → Q s7) →
          wpAny (model X.prog X.w) X.A (do bindName X.env n .none; unbindBehindTheSuite X.env n pos') (fun _ s7 => Q s7) X.xe s6 := fun {σ6 H6 Q} S6 hq => gone_ok (inv_unsuiteT S6 ok) hN hi hln hq
      cases f with
      | next =>
        obtain ⟨σ6, H6, S6, q6⟩ := hsp
        exact end_ S6 fun s7 J7 => ⟨_, _, J7, q6⟩
      | brk =>
        obtain ⟨σ6, H6, S6, q6⟩ := hsp
        exact end_ S6 fun s7 J7 => ⟨_, _, J7, q6⟩
      | cont =>
        obtain ⟨σ6, H6, S6, q6⟩ := hsp
        exact end_ S6 fun s7 J7 => ⟨_, _, J7, q6⟩
      | ret u =>
        obtain ⟨v6, σ6, H6, S6, r6, q6⟩ := hsp
        exact end_ S6 fun s7 J7 => ⟨_, _, _, J7, r6, q6⟩
    | false =>
      show wpAny _ X.A (handleBy (.ref a) X.env []) _ _ _
      refine wpAny_handleBy_nil ?_
      obtain ⟨k1, k2, k3, oe, vs, T, oT, ts', he, hz, hd, h1, hr⟩ := id fl3
      unfold PySem.passOn
      refine wpAny_bind (wpAny_field he hd h1 ?_)
      rw [if_neg (show ¬ ((Value.ref T == Value.none) = true) from by simp)]
      have fin : wpAny (model X.prog X.w) X.A (setFlight (.ref a) X.env.frame) (fun _ s4 => wpAny (model X.prog X.w) X.A (throw (.ref a) : Sem Flow) (SP X pins D) X.xe s4) X.xe { s' with heap := h3 } := by
        rw [hf]
        refine HandSPX.setFlight_upZ fl3 fun h4 hh4 up4 => wpAny_throw (tk _ _ ?_)
        exact ⟨a, B, sI, pins, σ', H', cls, d, rfl, J, nb, (up.trans up3).trans up4, .inr (.inr (by rw [hs]; exact hh4)), na, os, ag, hno rfl⟩
      first
        | exact wpAny_bind (wpAny_pure (wpAny_bind fin))
        | exact wpAny_bind fin
  · cases f with
    | next =>
      obtain ⟨σ', H', J', q⟩ := hsp
      exact wpAny_execs_nil ⟨σ', H', J'.ofTry ok, q⟩
    | brk =>
      obtain ⟨σ', H', J', q⟩ := hsp
      exact ⟨σ', H', J'.ofTry ok, q⟩
    | cont =>
      obtain ⟨σ', H', J', q⟩ := hsp
      exact ⟨σ', H', J'.ofTry ok, q⟩
    | ret u =>
      obtain ⟨v, σ', H', J', r, q⟩ := hsp
      exact ⟨v, σ', H', J'.ofTry ok, r, q⟩
end

/-! ### try, over plain values -/
theorem dv_exc {K : PySem.W.Frag} {H : Hp} {C a dx : Addr} {w : V} {d : D} (h1 : H a = some (XO a C dx)) (h2 : H dx = some (.xd [(("value" : Str), w)])) (h3 : DV K H d w) : DV K H (.exc C d) (.ref a) := ⟨a, dx, w, rfl, h1, h2, h3⟩
theorem SRv.gone {K : PySem.W.Frag} {σ : L2.St} {H : Hp} {ρ : List (Option D)} (r : SRv K σ H ρ) (i : Nat) : SRv K (σ.set i none) H (ρ.set i none) := by
  refine ⟨by rw [List.length_set, List.length_set]; exact r.1, fun j e h => ?_⟩
  by_cases hj : i = j
  · subst hj
    have hl : i < ρ.length := by
      have := (List.getElem?_eq_some_iff.mp h).1
      rwa [List.length_set] at this
    rw [List.getElem?_set_self hl] at h
    cases h
  · rw [List.getElem?_set_ne hj] at h
    obtain ⟨u, e1, q1⟩ := r.2 j e h
    exact ⟨u, by rw [List.getElem?_set_ne hj]; exact e1, q1⟩
def goneE (i : Nat) (E : DEnds) : DEnds := { nx := fun ρ' S' => E.nx (ρ'.set i none) S', rt := E.rt, bk := fun ρ' S' => E.bk (ρ'.set i none) S', ct := fun ρ' S' => E.ct (ρ'.set i none) S' }
def dAs (K : PySem.W.Frag) (c : Value) (i : Nat) (ts : RS) (yo : DWX) (E : DEnds) : DWX := fun C d ρ S => ∃ b, PySem.W.exmOne K (.ref C) c = some b ∧ IFB b (ts (goneE i E) (ρ.set i (some (.exc C d))) S) (yo C d ρ S)
def rTry (K : PySem.W.Frag) (c : Value) (i : Nat) (yo : DWX) (tb : WX → DWX → RS) (ts : RS) : RS := fun E ρ S => ∀ W, tb W (dAs K c i ts yo E) E ρ S
section
variable {X : Cx} {y : DXw} {x n : Str} {c : Value} {i : Nat} {body suite : List Stmt} {b₀ : Stmt} {np pos pos' : Pos} {tb : WX → DWX → RS} {ts : RS}
theorem pd_try (i : Nat) (hs : X.stack = X.env :: X.outer) (hf : X.env.frame = some X.env.locals) (hex : X.ex = []) (hN : X.N.Nodup) (hi : X.N[i]? = some n) (hln : X.env.kindOf n = some .local) (hc : Names X x c) (tk : Takes X y.W)
    (hb : ∀ (W : WX) (d : DWX) (pn : List (Addr × Obj)) (xe : Value → Shared → Prop), Takes (X.tr pn xe) W → PDSs (X.tr pn xe) ⟨W, d⟩ body (tb W d))
    (hsu : ∀ (a : Addr) (pn : List (Addr × Obj)), PDSs (X.suite a pn) y0 (b₀ :: suite) ts) :
    PDS X y (.Try body [.ExceptHandler (some (.Name x np)) (some n) (b₀ :: suite) pos'] [] [] pos) (rTry X.K c i y.d tb ts) := by
  refine PDS.of (ps_try_asT (tb := fun W D σ H => ∃ d, lS X.K ⟨W, d⟩ (tb W d) D σ H) (ts := lS X.K y0 ts) hs hf hex hN hi hln hc tk (fun W pn xe tk' _ => ⟨fun pins s σ H D I ⟨d, q⟩ => (hb W d pn xe tk').run pins s σ H D I q⟩) hsu) fun D σ H h => ?_
  obtain ⟨ρ, S, E, sr, so, h, eo⟩ := h
  refine ⟨dAs X.K c i ts y.d E, ρ, S, E, sr, ⟨so.so, fun C d ρ' S' dx w σ' H' g sr' e dv hd => ?_⟩, h _, eo⟩
  obtain ⟨b, hb1, hi1⟩ := hd
  obtain ⟨h1, h2⟩ := hi1.of
  refine ⟨b, hb1, fun z => ⟨C, dx, rfl, rfl, fun a ha => ?_⟩, fun z => so.xo C d ρ' S' dx w σ' H' g sr' e dv (h2 z)⟩
  have gN := Go.new (K := X.K) (o := XO a C dx) g.ok ha
  refine ⟨ρ'.set i (some (.exc C d)), S', goneE i E, (sr'.go gN).set (dv_exc upd_same (by rw [upd_ne (ne_of_none e ha)]; exact e) (DV.go gN _ _ dv)) i, sx0 gN.ok, h1 z, ?_⟩
  have gA := g.trans gN
  exact ⟨fun ρ2 S2 σ2 H2 g2 sr2 q => eo.nx _ _ _ _ (gA.trans g2) (sr2.gone i) q, fun d2 S2 v2 H2 g2 dv2 q => eo.rt _ _ _ _ (gA.trans g2) dv2 q, fun ρ2 S2 σ2 H2 g2 sr2 q => eo.bk _ _ _ _ (gA.trans g2) (sr2.gone i) q, fun ρ2 S2 σ2 H2 g2 sr2 q => eo.ct _ _ _ _ (gA.trans g2) (sr2.gone i) q⟩
end
end DL
set_option Elab.async false
set_option linter.all false
set_option maxRecDepth 100000
set_option maxHeartbeats 4000000
namespace PySem
namespace HandSPX
open PySem.W PySem.Calls PyProof.Rows
section
variable {M : Model} {A : Around} {E : Value → Shared → Prop} {h : Heap} {g : Array GenState} {d : Drawn} {t : Nat} {os : OsState}
variable {nm q : Str} {C N : Addr} {bs bm bmB : List Value} {hdct : Bool} {sn : List Str} {sub : List Value} {ab : Bool} {col : Option Bool} {dd : Option Addr} {k0 k1 k2 k3 k5 : Option Value} {B newId initId : String}
theorem check_new_kw (F : ExcBaseFacts B newId initId bmB) (hT : ∀ X : String, bm.contains (.type X) = bmB.contains (.type X)) {rest : List Value} {kn : Str} {kv : Value} {Q : Unit → Shared → Prop}
    (hC : h.get? C = some (excClassObj nm q C N bs bm hdct sn sub ab col dd k0 k1 k2 k3 k5 newId)) (hq : Q () ⟨h, g, d, t, os⟩) : wpAny M A (checkBuiltinCall newId ⟨.ref C :: rest, [(kn, kv)]⟩) Q E ⟨h, g, d, t, os⟩ := by
  have hcont : (Value.ref C :: bm).contains (.type B) = true := by rw [List.contains_cons, hT, F.hasB, Bool.or_true]
  have hstar := F.noStar
  simp only [checkBuiltinCall, F.newKind, F.newSplit, F.newRow]
  repeat (first | refine wpAny_loadPart_at hC ?_ | (refine wpAny_isSubtype_exc hC ?_; rw [hcont]) | refine wpAny_staticBase_exc hC ?_ | refine wpAny_madeBy_exc hC ?_ | simp only [bne_self_eq_false, Bool.false_eq_true, if_false] | wp_step)
  exact hq
end
section
variable {prog : Program} {w : World} {A : Around} {E : Value → Shared → Prop} {R : Result → Shared → Prop} {h : Heap} {g : Array GenState} {d : Drawn} {t : Nat} {os : OsState}
variable {nm q : Str} {C N : Addr} {bs bm bmB : List Value} {hdct : Bool} {sn : List Str} {sub : List Value} {ab : Bool} {col : Option Bool} {dd : Option Addr} {k0 k1 k2 k3 k5 : Option Value} {B newId initId : String} {kn : Str} {kv : Value}
theorem new_kw (F : ExcBaseFacts B newId initId bmB) (hT : ∀ X : String, bm.contains (.type X) = bmB.contains (.type X)) {rest : List Value}
    (hC : h.get? C = some (excClassObj nm q C N bs bm hdct sn sub ab col dd k0 k1 k2 k3 k5 newId))
    (hq : R (.ok (.ret (.ref (h.objs.size + 1)))) ⟨(h.push { cls := .type "tuple", data := .seq rest.toArray }).push
      { cls := .ref C, data := .fields #[.ref h.objs.size, .none, .none, .none, .bool false, .none] }, g, d, t, os⟩) (hrest : rest.length ≤ sizeLine) :
    codeAny (model prog w) A (.builtin newId ⟨.ref C :: rest, [(kn, kv)]⟩) R ⟨h, g, d, t, os⟩ := by
  have hends := F.ends
  have hcB : (Value.ref C :: bm).contains (.type B) = true := by rw [List.contains_cons, hT, F.hasB, Bool.or_true]
  have hcA : (Value.ref C :: bm).contains (.type "AttributeError") = false := by rw [List.contains_cons, hT, F.noAttr]; rfl
  have hcN : (Value.ref C :: bm).contains (.type "NameError") = false := by rw [List.contains_cons, hT, F.noName]; rfl
  refine codeAny_builtinAt F.entry ?_
  unfold Builtin.«BaseException.__new__»
  refine wpAt_bind ?_
  show wpAt _ _ _ (stack >>= _) _ _ _
  refine wpAt_bind (wpAt_stack fun p below => wpAt_of_wpAny ?_)
  wp_walk
  refine wpAt_of_wpAny ?_
  rw [F.owner]
  repeat (first | with_reducible refine wpAny_madeHere_exc F.canon hC ?_ | with_reducible refine wpAny_loadPart_at hC ?_ | (with_reducible refine wpAny_isSubtype_exc hC ?_; first | rw [hcB] | rw [hcA] | rw [hcN]) | wp_step)
  show R _ _
  rw [Heap.size_push]
  exact hq
theorem type_call_kw (F : ExcBaseFacts B newId initId bmB) (hT : ∀ X : String, bm.contains (.type X) = bmB.contains (.type X)) {rest : List Value} {fI : Addr} {Q : Fin → Shared → Prop}
    (hC : h.get? C = some (excClassObj nm q C N bs bm hdct sn sub ab col dd k0 k1 k2 k3 k5 newId))
    (hi : W.Looks (model prog w) h (typeLookup (.ref C) "__init__") (some (.ref fI))) (hb : ∀ self, W.Looks (model prog w) h (bindSpecial (.ref fI) self) (.ref fI, [self])) (hrest : rest.length ≤ sizeLine)
    (hq : codeAny (model prog w) A (.call (.ref fI) ⟨.ref (h.objs.size + 1) :: rest, [(kn, kv)]⟩)
      (fun r s' => match r with | .ok (.ret v) => v = .none ∧ Q (.done (.ret (.ref (h.objs.size + 1)))) s' | .ok _ => False | .error e => E e s')
      ⟨(h.push (W.kdv_tup rest)).push (excO C h.objs.size), g, d, t, os⟩) :
    wpAny (model prog w) A (Builtin.«type.__call__» ⟨.ref C :: rest, [(kn, kv)]⟩) Q E ⟨h, g, d, t, os⟩ := by
  repeat (first | with_reducible refine wpAny_loadPart_at hC ?_ | with_reducible refine wpAny_madeBy_exc hC ?_ | wp_step)
  refine codeAny_call_builtin_code (Code.quiet_builtin _ F.quiet) (check_new_kw F hT hC ?_)
  refine new_kw F hT hC ?_ hrest
  show wpAny _ _ _ _ _ _
  have k : ∀ b o, h.get? b = some o → ((h.push (W.kdv_tup rest)).push (excO C h.objs.size)).get? b = some o := fun b o e => Heap.get?_push_of_some _ (Heap.get?_push_of_some _ e)
  have hC₁ := k _ _ hC
  have hget : ((h.push (W.kdv_tup rest)).push (excO C h.objs.size)).get? (h.objs.size + 1) = some (excO C h.objs.size) := by heap_get
  have hcC : (Value.ref C :: bm).contains (.ref C) = true := by simp
  have i1 := hi.keeps k
  have b1 := (hb (.ref (h.objs.size + 1))).keeps k
  unfold isInstance
  repeat (first | with_reducible refine wpAny_loadPart_at hget ?_ | (with_reducible refine wpAny_isSubtype_exc hC₁ ?_; rw [hcC]) | wp_step)
  show wpAny _ _ (typeLookup (.ref C) _) _ _ _
  refine i1.at ?_
  refine wpAny_holding (wpAny_bind (b1.at ?_))
  refine wpAny_bind (wpAny_call (codeAny_mono hq fun r s' z => ?_))
  rcases r with e | (v | _ | _ | _) <;> first | exact z | exact z.elim | skip
  obtain ⟨rfl, z⟩ := z
  first
    | exact wpAny_pure (wpAny_pure z)
    | (wp_walk; exact z)
theorem check_type_call_kw {M : Model} {rest : List Value} {Q : Unit → Shared → Prop} (hC : h.get? C = some (excClassObj nm q C N bs bm hdct sn sub ab col dd k0 k1 k2 k3 k5 newId))
    (hq : Q () ⟨h, g, d, t, os⟩) : wpAny M A (checkBuiltinCall "type.__call__" ⟨.ref C :: rest, [(kn, kv)]⟩) Q E ⟨h, g, d, t, os⟩ := by
  have f3 := tc_sub
  have hT : (⟨h, g, d, t, os⟩ : Shared).TypeIs (.ref C) "type" := ⟨_, hC, rfl⟩
  simp only [checkBuiltinCall, tc_kind, tc_split]
  repeat (any_goals (first | assumption | with_reducible refine wpAny_loadPart_at hC ?_ | with_reducible refine wpAny_onRaise ?_ | with_reducible refine wpAny_map ?_ | wp_step))
theorem call_own_kw (F : ExcBaseFacts B newId initId bmB) (hT : ∀ X : String, bm.contains (.type X) = bmB.contains (.type X)) {rest : List Value} {fI : Addr}
    (hC : h.get? C = some (excClassObj nm q C N bs bm hdct sn sub ab col dd k0 k1 k2 k3 k5 newId))
    (hi : W.Looks (model prog w) h (typeLookup (.ref C) "__init__") (some (.ref fI))) (hb : ∀ self, W.Looks (model prog w) h (bindSpecial (.ref fI) self) (.ref fI, [self])) (hrest : rest.length ≤ sizeLine)
    (hq : codeAny (model prog w) (A.under (.builtin "type.__call__" ⟨.ref C :: rest, [(kn, kv)]⟩)) (.call (.ref fI) ⟨.ref (h.objs.size + 1) :: rest, [(kn, kv)]⟩) (W.InitBack (h.objs.size + 1) R)
      ⟨(h.push (W.kdv_tup rest)).push (excO C h.objs.size), g, d, t, os⟩) :
    codeAny (model prog w) A (.call (.ref C) ⟨rest, [(kn, kv)]⟩) R ⟨h, g, d, t, os⟩ := by
  have f1 := tc_lookup
  have f2 := tc_bind (.ref C)
  have hTy : (⟨h, g, d, t, os⟩ : Shared).TypeIs (.ref C) "type" := ⟨_, hC, rfl⟩
  refine codeAny_of_tree ?_
  show wpAny _ _ (callAny (.ref C) _) _ _ _
  repeat (any_goals (first | assumption | with_reducible refine wpAny_loadPart_at hC ?_ | wp_step))
  refine ⟨rfl, ?_⟩
  refine codeAny_call_builtin_at (Code.quiet_builtin _ (by decide +kernel)) entry_typeCall (check_type_call_kw hC (type_call_kw F hT hC hi hb hrest ?_))
  refine codeAny_mono hq fun r s' z => ?_
  rcases r with e | (v | _ | _ | _) <;> exact z
end
end HandSPX
end PySem
set_option Elab.async false
set_option linter.all false
set_option maxRecDepth 100000
set_option maxHeartbeats 4000000
namespace DL
open PySem PySem.Spec PyProof.Rows L2
/-! ### an own class over TossError: made, raised -/
/-- the __init__ that stores its one argument as value -/
def spI (K : PySem.W.Frag) : Sp := fun vs H Q _ => ∃ a C v, vs = [.ref a, v] ∧ OexC K C ∧ PySem.W.findIn K (.ref C) "value" = some none ∧ H a = some (exo a C none) ∧ ∀ dx, H dx = none → dx ≠ a → Q .non (upd (upd H dx (exd dx [(("value" : Str), v)])) a (exo a C (some dx)))
/-- what the written part says of such a class -/
structure Own (K : PySem.W.Frag) (C fI : Addr) : Prop where
  ox : OexC K C
  ii : PySem.W.findIn K (.ref C) "__init__" = some (some (.ref fI))
  nv : PySem.W.findIn K (.ref C) "value" = some none
def rRaise (C : Addr) (yo : DWX) (te : RE) : RS := fun E ρ S => te ρ S fun d S1 => yo C d ρ S1
theorem made_eq {H : Hp} {a C dx : Addr} {v : V} (ha : H a = none) (hd : dx ≠ a) : upd (L2.del (upd (upd H dx (exd dx [(("value" : Str), v)])) a (exo a C (some dx))) a) dx (.xd [(("value" : Str), v)]) = upd H dx (.xd [(("value" : Str), v)]) := by
  funext b
  by_cases h1 : b = dx
  · rw [h1, upd_same, upd_same]
  · rw [upd_ne h1, upd_ne h1]
    by_cases h2 : b = a
    · rw [h2, L2.del_same, ha]
    · rw [L2.del_ne h2, upd_ne h2, upd_ne h1]
section
variable {X : Cx} {y : DXw} {x : Str} {C fI : Addr} {k : Nat} {fd : FuncData} {e : Expr} {te : RE} {p pos pos2 : Pos}
theorem passes_false (tk : Takes X y.W) : Passes (L2.CX X.prog X.w) X (fun _ _ _ => False) := fun pins σ H s e s' I c => tk e s' (XE.of_call I (fun _ _ _ (h : False) => h.elim) c)
theorem pd_raise (hc : X.calm = true) (tk : Takes X y.W) (O : Own X.K C fI) (tI : PySem.W.typeIn X.K (.ref fI) = some (.type "function")) (F1 : FnOk X.prog X.w X.K X.mg X.base (L2.CX X.prog X.w) k fI fd ["self", "value"] (spI X.K)) (hr : Room (k + 1) X.A)
    (hb : Binds X.K fd ["self", "value"] []) (hm : X.mg x = some (.ref C)) (he : PD X y e te) (hg : Gl X x := by rfl) (hdb : (x == ("__debug__" : Str)) = false := by decide) (hs : starEach [e] X.env = (false, eval e X.env) :: starEach [] X.env := by rfl) :
    PDS X y (.Raise (some (.Call (.Name x p) [e] [] pos)) none pos2) (rRaise C y.d te) := by
  refine PDS.of (ps_raise hc tk (pmk_oex O.ox O.ii tI F1 hr hb .nil (passes_false tk) hg hm (pa_cons he pa_nil (hs := hs)) hdb (he := hs))) fun D σ H h => ?_
  obtain ⟨ρ, S, E, sr, so, h, eo⟩ := h
  refine ⟨ρ, S, _, sr, so, h, fun d S1 v H1 g1 dv h1 => ?_⟩
  refine ⟨by show 1 ≤ 1000; decide, fun a ha => ⟨a, C, v, rfl, O.ox, O.nv, upd_same, fun dx hdx ne => ⟨rfl, dx, _, upd_same, by rw [upd_ne ne]; exact upd_same, ?_, ?_⟩⟩⟩
  · rw [upd_ne ne] at hdx
    exact hdx
  · rw [upd_ne ne] at hdx
    have eH : upd (upd (upd H1 a (exo a C none)) dx (exd dx [(("value" : Str), v)])) a (exo a C (some dx)) = upd (upd H1 dx (exd dx [(("value" : Str), v)])) a (exo a C (some dx)) := by
      funext b
      by_cases h1 : b = a
      · rw [h1, upd_same, upd_same]
      · rw [upd_ne h1, upd_ne h1]
        by_cases h2 : b = dx
        · rw [h2, upd_same, upd_same]
        · rw [upd_ne h2, upd_ne h2, upd_ne h1]
    rw [eH, made_eq ha ne]
    have g2 := Go.new (K := X.K) (o := .xd [(("value" : Str), v)]) g1.ok hdx
    exact so.xo C d ρ S1 dx v σ _ (g1.trans g2) ((sr.go g1).go g2) upd_same (DV.go g2 _ _ dv) h1
def oneV (f : V → Prop) : List V → Prop
  | [v] => f v
  | _ => False
theorem pmk_oexK {CX : CXT} {kn : Str} {kpos : Pos} {g : List Value → List Value → List Value} {gD : List D → List D → List D} {te : TE} {sp : Sp} (T : OexC X.K C) (iC : PySem.W.findIn X.K (.ref C) "__init__" = some (some (.ref fI))) (tI : PySem.W.typeIn X.K (.ref fI) = some (.type "function"))
    (F1 : FnOk X.prog X.w X.K X.mg X.base CX k fI fd ["self", "value"] sp) (hr : Room (k + 1) X.A) (hb : KBD X.K fd ["self", "value"] [kn] g gD) (hx : Passes CX X (fun _ _ _ => False)) (hg : Gl X x) (hm : X.mg x = some (.ref C)) (he : PE X e te)
    (hall : (backToKw pos (keywordEach [⟨some kn, e, kpos⟩] X.env)).all (·.1.isSome) = true := by rfl) (hks : (backToKw pos (keywordEach [⟨some kn, e, kpos⟩] X.env)).filterMap (·.1) = [kn] := by rfl)
    (hpl : ((backTo pos (starEach [] X.env)).any (·.1) || (backToKw pos (keywordEach [⟨some kn, e, kpos⟩] X.env)).any (·.1.isNone)) = false := by rfl)
    (hdb : (x == ("__debug__" : Str)) = false := by decide) (hgk : ∀ a b : Value, g [a] [b] = [a, b] := by intro _ _; rfl) :
    PMk X (.Call (.Name x p) [] [⟨some kn, e, kpos⟩] pos) (fun σ H Q => te σ H fun v H1 => ∀ a, H1 a = none → sp [.ref a, v] (upd H1 a (exo a C none))
  (fun v H2 => v = .non ∧ ∃ (d : Addr) (fs : List (Str × V)), H2 a = some (exo a C (some d)) ∧ H2 d = some (exd d fs) ∧ H1 d = none ∧ Q (.ref C) (some d) (upd (L2.del H2 a) d (.xd fs))) (fun _ _ _ => False)) := by
  intro pins s σ H Q I h
  obtain ⟨nm, q, N, bs, bm, sn, sub, ab, col, dd, k0, k1, k2, k3, k5, hC, hbm⟩ := T.cls
  refine wpAny_Call_Name_kw (ld_glob I hg hm ?_ hdb)
  refine PySem.W.callWith_KW0 (h₀ := X.base) I.ok.mod.kin T.kC hall ?_ hpl
  have hkr := (pk_cons (nm := some kn) (kpos := kpos) he pk_nil).run pos pins s σ H (fun vs H1 => oneV (fun v => ∀ a, H1 a = none → sp [.ref a, v] (upd H1 a (exo a C none))
    (fun v H2 => v = .non ∧ ∃ (d : Addr) (fs : List (Str × V)), H2 a = some (exo a C (some d)) ∧ H2 d = some (exd d fs) ∧ H1 d = none ∧ Q (.ref C) (some d) (upd (L2.del H2 a) d (.xd fs))) (fun _ _ _ => False)) vs) I h
  refine thn hkr fun ws s1 ⟨vs, H1, I1, r1, q1⟩ => ⟨I1.kIn, ?_⟩
  rw [hks]
  have hv : ∃ v, vs = [v] := by
    cases vs with
    | nil => exact False.elim q1
    | cons v r =>
      cases r with
      | nil => exact ⟨v, rfl⟩
      | cons _ _ => exact False.elim q1
  obtain ⟨v, rfl⟩ := hv
  replace q1 : ∀ a, H1 a = none → _ := q1
  cases r1 with
  | @cons _ u _ ur ru rr =>
  cases rr
  show wpAny _ _ (call (.ref C) [] [(kn, u)]) _ _ _
  obtain ⟨hp, gg, dr, tk, os⟩ := s1
  have hsz : hp.objs.size ≤ hp.objs.size + 1 := Nat.le_succ _
  have hn : H1 (hp.objs.size + 1) = none := I1.hok.fresh hsz
  have hq := q1 (hp.objs.size + 1) hn
  have kk : ∀ b o, hp.get? b = some o → ((hp.push (PySem.W.kdv_tup [])).push (PySem.HandSPX.excO C hp.objs.size)).get? b = some o := fun b o e => Heap.get?_push_of_some _ (Heap.get?_push_of_some _ e)
  have hget : ((hp.push (PySem.W.kdv_tup [])).push (PySem.HandSPX.excO C hp.objs.size)).get? (hp.objs.size + 1) = some (PySem.HandSPX.excO C hp.objs.size) := by heap_get
  have I2 : Inv X pins σ (upd H1 (hp.objs.size + 1) (exo (hp.objs.size + 1) C none)) ⟨(hp.push (PySem.W.kdv_tup [])).push (PySem.HandSPX.excO C hp.objs.size), gg, dr, tk, os⟩ :=
    I1.laid (t' := tk) (a := hp.objs.size + 1) (o := exo (hp.objs.size + 1) C none) (h' := (hp.push (PySem.W.kdv_tup [])).push (PySem.HandSPX.excO C hp.objs.size)) kk hsz (exo_ok hget)
  have r2 : Vals [V.ref (hp.objs.size + 1), v] [Value.ref (hp.objs.size + 1), u] := .cons rfl (.cons ru .nil)
  have hbt := hb.to ⟨(hp.push (PySem.W.kdv_tup [])).push (PySem.HandSPX.excO C hp.objs.size), gg, dr, tk, os⟩ [Value.ref (hp.objs.size + 1)] [u] I2.kIn (by rw [hgk]; rfl)
  rw [hgk] at hbt
  refine wpAny_call (PySem.HandSPX.call_own_kw F.excBase_ValueError (fun Y => PySem.HandSPX.refsVE_contains Y bm hbm) (I1.kIn _ _ hC) (PySem.W.looks_findIn I1.kIn iC) (fun self => PySem.W.bind_fn I1.kIn self tI) (Nat.zero_le _)
    (codeAny_mono (F1.run _ X.stack _ _ ⟨[Value.ref (hp.objs.size + 1)], [(kn, u)]⟩ [Value.ref (hp.objs.size + 1), u] _ _ (fun _ _ _ => False) (hr.make C [] [(kn, u)]) (I2.env0.make C [] [(kn, u)]) hbt r2 hq) fun r s' hq' => ?_))
  cases r with
  | error er => exact hx pins σ _ _ er s' I2 hq'
  | ok fl =>
    cases fl with
    | ret u =>
      obtain ⟨v, H2, os2, bare2, un2, hok2, rv, ev, d, fs, ea, ed, hd1, q2⟩ := hq'
      subst ev
      obtain ⟨h2, g2, d2, t2, os'⟩ := s'
      exact ⟨rv, mk_end (raises_own T.exC T.tyC) I1 hsz kk un2 hok2 os2 bare2 ea ed hd1 q2⟩
    | next => exact False.elim hq'
    | brk => exact False.elim hq'
    | cont => exact False.elim hq'
end
end DL
namespace DL
open PySem PySem.Spec PyProof.Rows L2
section
variable {X : Cx} {y : DXw} {x : Str} {C fI : Addr} {k : Nat} {fd : FuncData} {e : Expr} {te : RE} {p pos pos2 : Pos}
theorem pd_raiseK {kn : Str} {kpos : Pos} {g : List Value → List Value → List Value} {gD : List D → List D → List D} (hc : X.calm = true) (tk : Takes X y.W) (O : Own X.K C fI) (tI : PySem.W.typeIn X.K (.ref fI) = some (.type "function")) (F1 : FnOk X.prog X.w X.K X.mg X.base (L2.CX X.prog X.w) k fI fd ["self", "value"] (spI X.K)) (hr : Room (k + 1) X.A)
    (hb : KBD X.K fd ["self", "value"] [kn] g gD) (hm : X.mg x = some (.ref C)) (he : PD X y e te) (hg : Gl X x := by rfl) (hdb : (x == ("__debug__" : Str)) = false := by decide)
    (hall : (backToKw pos (keywordEach [⟨some kn, e, kpos⟩] X.env)).all (·.1.isSome) = true := by rfl) (hks : (backToKw pos (keywordEach [⟨some kn, e, kpos⟩] X.env)).filterMap (·.1) = [kn] := by rfl)
    (hpl : ((backTo pos (starEach [] X.env)).any (·.1) || (backToKw pos (keywordEach [⟨some kn, e, kpos⟩] X.env)).any (·.1.isNone)) = false := by rfl)
    (hgk : ∀ a b : Value, g [a] [b] = [a, b] := by intro _ _; rfl) :
    PDS X y (.Raise (some (.Call (.Name x p) [] [⟨some kn, e, kpos⟩] pos)) none pos2) (rRaise C y.d te) := by
  refine PDS.of (ps_raise hc tk (pmk_oexK O.ox O.ii tI F1 hr hb (passes_false tk) hg hm he hall hks hpl hdb hgk)) fun D σ H h => ?_
  obtain ⟨ρ, S, E, sr, so, h, eo⟩ := h
  refine ⟨ρ, S, _, sr, so, h, fun d S1 v H1 g1 dv h1 => ?_⟩
  refine fun a ha => ⟨a, C, v, rfl, O.ox, O.nv, upd_same, fun dx hdx ne => ⟨rfl, dx, _, upd_same, by rw [upd_ne ne]; exact upd_same, ?_, ?_⟩⟩
  · rw [upd_ne ne] at hdx
    exact hdx
  · rw [upd_ne ne] at hdx
    have eH : upd (upd (upd H1 a (exo a C none)) dx (exd dx [(("value" : Str), v)])) a (exo a C (some dx)) = upd (upd H1 dx (exd dx [(("value" : Str), v)])) a (exo a C (some dx)) := by
      funext b
      by_cases h1 : b = a
      · rw [h1, upd_same, upd_same]
      · rw [upd_ne h1, upd_ne h1]
        by_cases h2 : b = dx
        · rw [h2, upd_same, upd_same]
        · rw [upd_ne h2, upd_ne h2, upd_ne h1]
    rw [eH, made_eq ha ne]
    have g2 := Go.new (K := X.K) (o := .xd [(("value" : Str), v)]) g1.ok hdx
    exact so.xo C d ρ S1 dx v σ _ (g1.trans g2) ((sr.go g1).go g2) upd_same (DV.go g2 _ _ dv) h1

end
end DL
namespace PySem.W
open PySem PySem.Spec PySem.Calls PyProof.Rows
section
variable {prog : Program} {w : World} {A : Around} {E : Value → Shared → Prop} {s : Shared} {K : Frag} {x D : Addr} {ox : Obj} {od : Option Obj}
theorem findObj_dataD {C : Addr} {name : Str} {a g : Value} (hc : (clsIn K C).isSome = true) (ha : findIn K (.ref C) name = some (some a)) (hg : specialIn K a "__get__" = some (some g)) (ht : takesIn K a = some true) : findObj K C od name = some (.bind g a) := by
  obtain ⟨cd, hc⟩ := Option.isSome_iff_exists.mp hc
  unfold findObj
  rw [hc, Option.bind_some, ha, Option.bind_some]
  simp [hg, ht]
theorem kin_classD {Q : Option Value → Shared → Prop} (hga : findIn K (.ref D) "__getattribute__" = some (some (.builtin "BaseException.__getattribute__"))) (hgt : findIn K (.ref D) "__getattr__" = some none) (hsub : subIn K (.ref D) (.type "BaseException") = some true)
    (hdct : hasDictIn K D = true) (ha : findIn K (.ref D) "__class__" = some (some (.builtin "object.__class__")))
    (hn : specialIn K (.builtin "object.__class__") "__get__" = some (some (.builtin "getset_descriptor.__get__"))) (htk : takesIn K (.builtin "object.__class__") = some true) (hm : mroIn K D (.type "object") = some true)
    (X : K.In s.heap) (I : InstAt s.heap x ox D od) (h : Q (some (.ref D)) { s with toks := s.toks + 1 }) : wpAny (model prog w) A (getAttr? (.ref x) "__class__") Q E s := by
  have hf : findObj K D od "__class__" = some (.bind (.builtin "getset_descriptor.__get__") (.builtin "object.__class__")) := findObj_dataD (by obtain ⟨cd, hc, _⟩ := any_some hdct; rw [hc]; rfl) ha hn htk
  obtain ⟨hp, g, d, t, os⟩ := s
  have L0 := I.type (M := model prog w)
  have L1 := looks_findIn (M := model prog w) X hga
  have L2 := looks_findIn (M := model prog w) X hgt
  have L3 := looks_find (M := model prog w) X I hf
  have sub : Looks (model prog w) hp (isInstance (.ref x) (.type "BaseException")) true := L0.andThen (looks_subIn X hsub)
  have hx0 : (false && onTheHeap (Value.builtin "BaseException.__getattribute__")) = false := rfl
  have hx2 : (Value.builtin "BaseException.__getattribute__" == Value.builtin "object.__getattribute__") = false := by decide +kernel
  have hx1 : (onTheHeap (Value.ref D) && Value.builtin "BaseException.__getattribute__" == Value.builtin "object.__getattribute__") = false := by rw [hx2]; rfl
  unfold getAttr? getAttrBy? getAttrBy
  refine wpAny_bind (wpAny_mkText (wpAny_bind (wpAny_attempt (wpAny_holding (wpAny_bind (L0.at (wpAny_bind (L1.at ?_))))))))
  show wpAny _ _ (if (onTheHeap (Value.ref D) && Value.builtin "BaseException.__getattribute__" == Value.builtin "object.__getattribute__") = true then _ else _) _ _ _
  rw [hx1, if_neg Bool.false_ne_true]
  unfold getAttrByItsOwn hookBefore
  refine wpAny_bind ?_
  rw [if_pos (show onTheHeap (Value.ref D) = true from rfl)]
  refine L2.at ?_
  refine wpAny_bind (wpAny_attempt (wpAny_holding ?_))
  unfold callGetattribute
  rw [hx0, if_neg Bool.false_ne_true]
  unfold boundAndCalled
  rw [PySem.F.excAttr_ValueError.ga.bind (.ref x)]
  refine wpAny_bind (wpAny_pure ?_)
  show wpAny _ _ (call (.builtin "BaseException.__getattribute__") [.ref x, .str "__class__" t]) _ _ _
  refine wpAny_call (codeAny_call_builtin PySem.F.excAttr_ValueError.ga.plain PySem.F.entry_bexc_ga ?_)
  refine @check_slot (model prog w) _ _ ⟨hp, g, d, t + 1, os⟩ "BaseException.__getattribute__" "BaseException" "__getattribute__" (.ref x) [.str "__class__" t] [] _ (by decide +kernel) (by decide +kernel) sub (PySem.F.args_bexc_ga (.ref x) (.str "__class__" t)) ?_
  unfold Builtin.«object.__getattribute__»
  refine wpAny_bind (wpAny_of_eq (a := ((Value.ref x : Value), [Value.str "__class__" t])) (by first | rfl | (simp only [slotArgs]; rfl)) ?_)
  refine wpAny_bind (wpAny_pure (wpAny_bind (L0.at (wpAny_bind (L3.at ?_)))))
  show wpAny _ _ (holding [Value.builtin "object.__class__"] (call (.builtin "getset_descriptor.__get__") [.builtin "object.__class__", .ref x, .ref D]) >>= ret) _ _ _
  refine wpAny_bind (wpAny_holding (wpAny_call (class_get (s := ⟨hp, g, d, t + 1, os⟩) (ox := ox) (od := od) X I hm ?_)))
  refine wpAny_pure ?_
  show wpAny _ _ (handedOut (.ref D)) _ _ _
  rw [handedOut_of (v := .ref D) rfl]
  first
    | exact wpAny_pure (wpAny_pure h)
    | exact wpAny_pure h
    | exact wpAny_pure (wpAny_bind (wpAny_pure (wpAny_pure h)))
theorem kitx_excD (C : L2.ExcC K D) : KitX K (.ref x) (.ref D) (fun h => InstAt h x ox D od) where
  ty := fun _ _ _ I => I.type
  it := fun _ _ X _ => by
    obtain ⟨cdD, hcD, _⟩ := any_some C.hd
    unfold clsIn at hcD
    split at hcD
    · rename_i c' d' cd' sl' ho
      intro A' Q' E' s' k q
      unfold isType loadHead
      exact wpAny_bind (wpAny_loadPart (k _ _ (X _ _ ho)) (wpAny_pure q))
    · cases hcD
  ne := fun h tp dd its n sl X htp => by
    obtain ⟨cdD, hcD, _⟩ := any_some C.hd
    refine Bool.eq_false_iff.mpr fun q => ?_
    have e : D = tp := Value.ref.inj (beq_iff_eq.mp q)
    subst e
    unfold clsIn at hcD
    split at hcD
    · rename_i c' d' cd' sl' ho
      have z := (X _ _ ho).symm.trans htp
      cases z
    · cases hcD
  ca := fun X I k => kin_classD C.hg C.hk C.hs C.hd C.ha C.hn C.ht C.hm X I k
end
end PySem.W
namespace DL
open PySem PySem.Spec PyProof.Rows L2
/-- what a held exception's class says, for isinstance and its value -/
structure Exn (K : PySem.W.Frag) (C : Addr) : Prop where
  ec : ExcC K C
  nv : PySem.W.findIn K (.ref C) "value" = some none
theorem exc_inst {P : Program} {w : World} {H : Hp} {h : Heap} {a C dx : Addr} {wv : V} (hok : HOk P w H h) (ha : H a = some (XO a C dx)) (hdx : H dx = some (.xd [(("value" : Str), wv)])) :
    ∃ oe od u, PySem.W.InstAt h a oe C (some od) ∧ PySem.W.lookIn "value" od = some (some u) ∧ RelV wv u := by
  obtain ⟨oe, vs, ho, hz, hd⟩ := xo_at hok ha
  have hx : ObjOk P w H h dx (.xd [(("value" : Str), wv)]) := hok dx _ hdx
  obtain ⟨mA, hns, hr⟩ := hx
  obtain ⟨od, hod, hl⟩ := lookIn_ns hns
  obtain ⟨u, hu, ru⟩ := RelO.some_of (v := wv) (o := mA "value") (by rw [show some wv = List.lookup ("value" : Str) [(("value" : Str), wv)] by rfl]; exact hr "value")
  exact ⟨oe, od, u, ⟨ho, hz.1, by unfold PySem.W.notCls; rw [hd] <;> rfl, by rw [hz.2]; exact hod⟩, by rw [hl, hu], ru⟩
section
variable {X : Cx} {y : DXw} {x : Str} {e : Expr} {te : RE} {p pos pos2 : Pos}
/-! ### a held exception's value -/
def rVal (K : PySem.W.Frag) (te : RE) : RE := fun ρ S Q => te ρ S fun d S1 => match d with
  | .exc C w => Exn K C ∧ Q w S1
  | _ => False
theorem pd_value (he : PD X y e te) (hb : attributeBase e "value" X.env (eval e X.env) = eval e X.env := by rfl) : PD X y (.Attribute e "value" pos) (rVal X.K te) := by
  refine ⟨fun pins s σ H Q I h => ?_⟩
  obtain ⟨ρ, S, R, sr, so, h, k⟩ := h
  refine attr_of hb (thn (he.run pins s σ H (fun v H1 => ∃ d S1, Go X.K H S H1 S1 ∧ DV X.K H1 d v ∧ (match d with | .exc C w => Exn X.K C ∧ R w S1 | _ => False)) I ⟨ρ, S, _, sr, so, h, fun d S1 v H1 g dv q => ⟨d, S1, g, dv, q⟩⟩) fun u s1 hh => ?_)
  obtain ⟨v, H1, I1, rx, d, S1, g1, dv, q⟩ := hh
  cases d with
  | exc C w =>
    obtain ⟨T, q⟩ := q
    obtain ⟨a, dx, wv, rfl, ha, hdx, dw⟩ := dv
    obtain rfl : u = Value.ref a := rx
    obtain ⟨oe, od, u, J, hl, ru⟩ := exc_inst I1.hok ha hdx
    exact HandSPX.exc_get I1.kIn J T.ec.hg T.ec.hk T.ec.hs (PySem.W.findObj_own T.ec.hd T.nv rfl hl) (handed_of ru) ⟨wv, H1, I1.tok _, ru, k _ S1 _ H1 g1 dw q⟩
  | _ => exact False.elim q
/-! ### isinstance of a held exception -/
def kitX (K : PySem.W.Frag) (C : Addr) (c : D) (k : Bool → Prop) : Prop := match c with
  | .ref D => ∃ b, PySem.W.kitOne K (.ref C) (.ref D) = some b ∧ k b
  | .ty n => ∃ b, PySem.W.kitOne K (.ref C) (.type n) = some b ∧ k b
  | _ => False
def dIsX (K : PySem.W.Frag) : RCall := fun ds S Q => match ds with
  | [.exc C _, c] => Exn K C ∧ kitX K C c fun b => Q (.bl b) S
  | _ => False
theorem call_isX {a C dx : Addr} {cv : Value} {wv : V} {pins : List (Addr × Obj)} {s : Shared} {σ : L2.St} {H : Hp} {Q : Value → Shared → Prop} {b : Bool} (I : Inv X pins σ H s) (ha : H a = some (XO a C dx)) (hdx : H dx = some (.xd [(("value" : Str), wv)])) (T : Exn X.K C)
    (e : PySem.W.kitOne X.K (.ref C) cv = some b) (h : ∀ tk, Q (.bool b) { s with toks := tk }) : wpAny (model X.prog X.w) X.A (call (.builtin "isinstance") [.ref a, cv]) Q X.xe s := by
  obtain ⟨oe, od, u, J, _⟩ := exc_inst I.hok ha hdx
  exact PySem.W.kia_one (PySem.W.kitx_excD T.ec) I.kIn J e (fun z => nomatch z) h
theorem cd_isX : CallR X (.builtin "isinstance") (lcl X.K (dIsX X.K)) := by
  intro pins s σ H vs us Q I rv h
  obtain ⟨ds, S, R, dv, so, h, k⟩ := h
  unfold dIsX at h
  split at h
  · rename_i C w c
    obtain ⟨v, v2, rfl, r1, r2⟩ := dvs2 dv
    obtain ⟨a, dx, wv, rfl, ha, hdx, dw⟩ := r1
    obtain ⟨u, u', rfl, ru, ru'⟩ := vals2 rv
    obtain rfl : u = Value.ref a := ru
    obtain ⟨T, h⟩ := h
    unfold kitX at h
    split at h
    · rename_i D
      cases (show v2 = V.ref D from r2)
      obtain rfl : u' = Value.ref D := ru'
      obtain ⟨b, e, q⟩ := h
      exact call_isX I ha hdx T e fun tk => ⟨.bl b, H, I.kept (t' := tk) fun _ _ z => z, rfl, k (.bl b) S _ H (Go.refl so) rfl q⟩
    · rename_i n
      cases (show v2 = V.ty n from r2)
      obtain rfl : u' = Value.type n := ru'
      obtain ⟨b, e, q⟩ := h
      exact call_isX I ha hdx T e fun tk => ⟨.bl b, H, I.kept (t' := tk) fun _ _ z => z, rfl, k (.bl b) S _ H (Go.refl so) rfl q⟩
    · exact h.elim
  · exact h.elim
theorem pd_tyN {n : String} (hm : X.mg x = none) (hv : bootBuiltins x = some (.type n)) (hg : Gl X x := by rfl) (hn : x ≠ "__name__" := by decide) (hd : (x == ("__debug__" : Str)) = false := by decide) : PD X y (.Name x pos) (rC (.ty n)) :=
  pd_c (pe_bltn (v := .ty n) hg hm hv rfl hn hd) fun _ => rfl
end
end DL
set_option Elab.async false
set_option linter.all false
set_option maxRecDepth 100000
set_option maxHeartbeats 4000000
namespace DL
open PySem PySem.Spec PyProof.Rows L2
section
variable {X : Cx} {y : DXw} {x : Str} {e o i : Expr} {te to ti : RE} {p pos pos2 tpos : Pos}
/-! ### op= -/
def rAugI (i : Nat) (f : Int → Int → Int) (te : RE) : RS := fun E ρ S => match ρ[i]? with
  | some (some (.int a)) => te ρ S fun d S1 => match d with
    | .int b => E.nx (ρ.set i (some (.int (f a b)))) S1
    | _ => False
  | _ => False
theorem pd_aug (i : Nat) {op : Operator} {f : Int → Int → Int} (hN : X.N.Nodup) (ho : PIp X op (ipI f)) (he : PD X y e te) (hi : X.N[i]? = some x := by rfl) (hx : Loc X.env.scope x := by first | exact Or.inl rfl | exact Or.inr rfl)
    (hf : X.fn x = true ∨ X.env.scope.names.lookup x = some .local := by first | exact .inl rfl | exact .inr rfl) : PDS X y (.AugAssign (.Name x p) op e pos) (rAugI i f te) := PDS.of (ps_aug hN hi hx he ho hf) fun D σ H h => by
  obtain ⟨ρ, S, E, sr, so, h, eo⟩ := h
  unfold rAugI at h
  split at h
  · rename_i a ea
    obtain ⟨v, e1, q⟩ := sr.2 i _ ea
    cases (show v = V.int a from q)
    refine ⟨.int a, e1, ρ, S, _, sr, so, h, fun d S1 w H1 g dv hd => ?_⟩
    cases d with
    | int b =>
      cases (show w = V.int b from dv)
      exact ⟨a, b, rfl, rfl, eo.nx _ S1 _ H1 g ((sr.go g).set (show DV X.K H1 (.int (f a b)) (.int (f a b)) from rfl) i) hd⟩
    | _ => exact False.elim hd
  · exact h.elim
theorem get_list : PGet X (fun x k H Q => ∃ p xs i v, x = .ref p ∧ k = .int i ∧ 0 ≤ i ∧ SqL X.K H p xs ∧ atI xs i = some v ∧ Q v H) := by
  intro pins s σ H x k v u Q I rx ry h
  obtain ⟨p, xs, i, z, rfl, rfl, h0, hq, he, q⟩ := h
  cases rx
  obtain ⟨t, rfl⟩ := ry
  obtain ⟨its, r, pl, hz⟩ := I.list hq
  obtain ⟨j, h1, h2, h3, h4, h5⟩ := atI_get he
  obtain ⟨w, ew, rw'⟩ := r.get h2
  have hl := r.length
  have hn := line63
  have fin : EP X pins σ Q w s := ⟨z, H, I, rw', q⟩
  have hj : i.toNat = j := by
    rw [seqIndex_of h0 h5] at h1
    exact Option.some.inj h1
  exact wpAny_getItem_list pl.isList h0 (by omega) (by rw [hj]; simpa using ew) fin
def rAugS (f : Int → Int → Int) (to ti te : RE) : RS := fun E ρ S => to ρ S fun o S1 => ti ρ S1 fun i S2 => match o, i with
  | .ref a, .int k => ∃ xs v, 0 ≤ k ∧ S2 a = some (.lst xs) ∧ atI xs k = some (.int v) ∧ te ρ S2 fun d S3 => match d with
    | .int b => ∃ xs3 j, S3 a = some (.lst xs3) ∧ ixN xs3.length k = some j ∧ E.nx ρ (sup S3 a (.lst (xs3.set j (.int (f v b)))))
    | _ => False
  | _, _ => False
theorem pd_augS {op : Operator} {f : Int → Int → Int} (hop : PIp X op (ipI f)) (ho : PD X y o to) (hi : PD X y i ti) (he : PD X y e te)
    (ha : ∀ ov iv new, augStore i ov iv new = (do holding [new, ov, iv] (setItem ov iv new); release [new, ov, iv] []; pure .next) := by intros; rfl) : PDS X y (.AugAssign (.Subscript o i tpos) op e pos) (rAugS f to ti te) :=
  PDS.of (ps_augS (tset := lset X.K dSet) ho hi get_list he hop sd_list ha) fun D σ H h => by
    obtain ⟨ρ, S, E, sr, so, h, eo⟩ := h
    refine ⟨ρ, S, _, sr, so, h, fun d1 S1 v1 H1 g1 dv1 q1 => ⟨ρ, S1, _, sr.go g1, so.go g1, q1, fun d2 S2 v2 H2 g2 dv2 q2 => ?_⟩⟩
    split at q2
    · rename_i a k
      cases (show v1 = V.ref a from dv1)
      cases (show v2 = V.int k from dv2)
      obtain ⟨xs, v, h0, e1, e2, q2⟩ := q2
      obtain ⟨vs, e3, r3⟩ := g2.ok a _ e1
      obtain ⟨vv, e4, r4⟩ := atI_dv r3 e2
      cases (show vv = V.int v from r4)
      have g12 := g1.trans g2
      refine ⟨a, vs, k, .int v, rfl, rfl, h0, SqL.of e3, e4, ρ, S2, _, sr.go g12, so.go g12, q2, fun d3 S3 v3 H3 g3 dv3 q3 => ?_⟩
      cases d3 with
      | int b =>
        cases (show v3 = V.int b from dv3)
        obtain ⟨xs3, j, e5, e6, q⟩ := q3
        refine ⟨v, b, rfl, rfl, .ref a, .int k, .int (f v b), S3, fun S' => E.nx ρ S', rfl, rfl, rfl, g3.ok, ⟨xs3, j, e5, e6, q⟩, fun S4 H4 g4 q4 => ?_⟩
        have gA := (g12.trans g3).trans g4
        exact eo.nx ρ S4 σ H4 gA (sr.go gA) q4
      | _ => exact False.elim q3
    · exact q2.elim
end
end DL
set_option Elab.async false
set_option linter.all false
set_option maxRecDepth 100000
set_option maxHeartbeats 4000000
namespace DL
open PySem PySem.Spec PyProof.Rows L2
/-! ### what the written part says of own exception classes -/
/-- C is a class whose bases are told by bm -/
def ClsO (K : PySem.W.Frag) (C : Addr) (bm : List Value) : Prop := ∃ nm qn N bs sn sub ab col dd k0 k1 k2 k3 k5, K.lookup C = some (excClassObj nm qn C N bs bm true sn sub ab col dd k0 k1 k2 k3 k5 "ValueError.__new__")
abbrev veT : List Value := [.type "ValueError", .type "Exception", .type "BaseException", .type "object"]
/-- a class that can be raised -/
structure ClsX (K : PySem.W.Frag) (C fI : Addr) : Prop where
  ii : PySem.W.findIn K (.ref C) "__init__" = some (some (.ref fI))
  sa : PySem.W.findIn K (.ref C) "__setattr__" = some (some (.builtin "object.__setattr__"))
  nv : PySem.W.findIn K (.ref C) "value" = some none
  hg : PySem.W.findIn K (.ref C) "__getattribute__" = some (some (.builtin "BaseException.__getattribute__"))
  hk : PySem.W.findIn K (.ref C) "__getattr__" = some none
  ha : PySem.W.findIn K (.ref C) "__class__" = some (some (.builtin "object.__class__"))
  kp : PySem.W.keepIn K (.ref C) = true
section
variable {K : PySem.W.Frag} {C D T fI : Addr} {bm bm' : List Value}
theorem ClsO.cls (h : ClsO K C bm) : ∃ cd, PySem.W.clsIn K C = some cd ∧ cd.mro = .ref C :: bm ∧ cd.hasDict = true := by
  obtain ⟨nm, qn, N, bs, sn, sub, ab, col, dd, k0, k1, k2, k3, k5, e⟩ := h
  exact ⟨{ name := nm, bases := bs, mro := .ref C :: bm, ns := N, qualname := qn, hasDict := true, slotNames := sn, subclasses := sub, abstract := ab, collection := col, hasDel := false }, by unfold PySem.W.clsIn; rw [e] <;> rfl, rfl, rfl⟩
theorem ClsO.ty (h : ClsO K C bm) : PySem.W.typeIn K (.ref C) = some (.type "type") := by
  obtain ⟨nm, qn, N, bs, sn, sub, ab, col, dd, k0, k1, k2, k3, k5, e⟩ := h
  show (K.lookup C).map (·.cls) = _
  rw [e]
  rfl
theorem ClsO.sub (h : ClsO K C bm) (v : Value) : PySem.W.subIn K (.ref C) v = some ((Value.ref C :: bm).contains v) := by
  obtain ⟨cd, e, m, _⟩ := h.cls
  show ((PySem.W.clsIn K C).bind fun cd => if cd.mro.isEmpty then none else some (cd.mro.contains v)) = _
  rw [e, Option.bind_some, m]
  rfl
theorem ClsO.dict (h : ClsO K C bm) : PySem.W.hasDictIn K C = true := by
  obtain ⟨cd, e, _, d⟩ := h.cls
  unfold PySem.W.hasDictIn
  rw [e]
  exact d
theorem ve_in (Y : String) (h : HandSPX.refsVE bm = true) : (Value.ref C :: bm).contains (.type Y) = HandSPX.veTail.contains (.type Y) := by
  rw [List.contains_cons, HandSPX.refsVE_contains Y bm h]
  rfl
theorem bm_T : HandSPX.refsVE (.ref T :: veT) = true := rfl
theorem bm_0 : HandSPX.refsVE veT = true := rfl
theorem own_of (h : ClsO K C bm) (hb : HandSPX.refsVE bm = true) (x : ClsX K C fI) : Own K C fI where
  ox := ⟨by
    obtain ⟨nm, qn, N, bs, sn, sub, ab, col, dd, k0, k1, k2, k3, k5, e⟩ := h
    exact ⟨nm, qn, N, bs, bm, sn, sub, ab, col, dd, k0, k1, k2, k3, k5, e, hb⟩, x.sa, by rw [h.sub, ve_in _ hb]; decide +kernel, h.ty, x.kp⟩
  ii := x.ii
  nv := x.nv
theorem exn_of (h : ClsO K C bm) (hb : HandSPX.refsVE bm = true) (x : ClsX K C fI) : Exn K C where
  ec := ⟨x.hg, x.hk, by rw [h.sub, ve_in _ hb]; decide +kernel, h.dict, x.ha, by kernel_rfl, by kernel_rfl, by
    obtain ⟨cd, e, m, _⟩ := h.cls
    unfold PySem.W.mroIn
    rw [e, Option.bind_some, m]
    show some ((Value.ref C :: bm).contains (.type "object")) = some true
    rw [ve_in _ hb]
    decide +kernel⟩
  nv := x.nv
theorem kit_ref (hc : ClsO K C bm) (hd : ClsO K D bm') (h : D ≠ C) : PySem.W.kitOne K (.ref C) (.ref D) = some (bm.contains (.ref D)) := by
  show (if (Value.ref C == Value.ref D) = true then some true else if ((PySem.W.clsIn K D).isSome && PySem.W.typeIn K (.ref D) == some (.type "type")) = true then PySem.W.subIn K (.ref C) (.ref D) else none) = _
  have h1 : (Value.ref C == Value.ref D) = false := Bool.eq_false_iff.mpr fun q => h (Value.ref.inj (beq_iff_eq.mp q)).symm
  have h2 : (Value.ref D == Value.ref C) = false := Bool.eq_false_iff.mpr fun q => h (Value.ref.inj (beq_iff_eq.mp q))
  rw [h1, if_neg Bool.false_ne_true]
  obtain ⟨cd, e, _⟩ := hd.cls
  rw [hd.ty, e, if_pos (by rfl), hc.sub, List.contains_cons, h2, Bool.false_or]
theorem kit_self : PySem.W.kitOne K (.ref C) (.ref C) = some true := by
  unfold PySem.W.kitOne
  rw [if_pos (beq_self_eq_true _)]
theorem kit_other (hc : ClsO K C (.ref T :: veT)) (hd : ClsO K D bm') (h : D ≠ C) (h2 : D ≠ T) : PySem.W.kitOne K (.ref C) (.ref D) = some false := by
  rw [kit_ref hc hd h, List.contains_cons]
  have h3 : (Value.ref D == Value.ref T) = false := Bool.eq_false_iff.mpr fun q => h2 (Value.ref.inj (beq_iff_eq.mp q))
  rw [h3]
  rfl
theorem kit_base (hc : ClsO K C (.ref T :: veT)) (hd : ClsO K T bm') : PySem.W.kitOne K (.ref C) (.ref T) = some true := by
  by_cases h : T = C
  · subst h; exact kit_self
  · rw [kit_ref hc hd h, List.contains_cons, beq_self_eq_true]; rfl
theorem kit_ve (hc : ClsO K C bm) (hb : HandSPX.refsVE bm = true) : PySem.W.kitOne K (.ref C) (.type "ValueError") = some true := by
  show (if (Value.ref C == Value.type "ValueError") = true then some true else if PySem.W.kitMeta "ValueError" = true then PySem.W.subIn K (.ref C) (.type "ValueError") else none) = _
  have h1 : (Value.ref C == Value.type "ValueError") = false := rfl
  rw [h1, if_neg Bool.false_ne_true, if_pos (by decide +kernel), hc.sub, ve_in _ hb]
  decide +kernel
theorem exm_base (hc : ClsO K C (.ref T :: veT)) (hd : ClsO K T veT) : PySem.W.exmOne K (.ref C) (.ref T) = some true :=
  PySem.W.exm_ref (by rw [hd.sub, ve_in _ bm_0]; decide +kernel) hd.dict hd.ty (by
    rw [hc.sub, List.contains_cons, List.contains_cons, beq_self_eq_true, Bool.true_or, Bool.or_true])
theorem init_ve : PySem.W.findCls K (.type "ValueError") (.type "type") "__init__" = some (.val (.builtin "ValueError.__init__")) := by kernel_rfl
end
end DL
namespace DL
open PySem
/-- a def within a class */ -/
def inCls (st : Stmt) (i : Nat) : Stmt := match st with
  | .ClassDef (body := b) .. => b.getD i (.Pass ⟨0, 0, 0, 0⟩)
  | s => s
end DL
set_option Elab.async false
set_option linter.all false
set_option maxRecDepth 100000
set_option maxHeartbeats 4000000
namespace DL
open PySem PySem.Spec PyProof.Rows L2
section
variable {X : Cx} {y : DXw} {x : Str} {C fI : Addr} {k : Nat} {fd : FuncData} {e : Expr} {te : RE} {p pos : Pos}
/-- an exception that is made and held, not raised -/
theorem mk_held {pins : List (Addr × Obj)} {σ : L2.St} {Q : XK} {u : Value} {s' : Shared} (m : MkP X pins σ Q u s') :
    ∃ a cls d H', u = .ref a ∧ H' a = none ∧ Q cls d H' ∧ ∀ C dx, cls = .ref C → d = some dx → Inv X pins σ (upd H' a (XO a C dx)) s' := by
  obtain ⟨a, oe, vs, sI, H', cls, d, rfl, J, k, hne, ha, hz, hd, h1, na, os, ag, r, q⟩ := m
  refine ⟨a, cls, d, H', rfl, na, q, fun C dx e1 e2 => ?_⟩
  subst e1 e2
  have J1 := J.laidN (t' := s'.toks) (h' := s'.heap) (o := XO a C dx) k hne na (xo_ok ha hz hd)
  exact ⟨J1.ok, os.trans J1.os, ag, J1.base, J1.loc, J1.cell, J1.free, J1.freeC, J1.pin, J1.hok, J1.len⟩
def rMkX (C : Addr) (te : RE) : RE := fun ρ S Q => te ρ S fun d S1 => Q (.exc C d) S1
theorem pd_mkX (tk : Takes X y.W) (O : Own X.K C fI) (tI : PySem.W.typeIn X.K (.ref fI) = some (.type "function")) (F1 : FnOk X.prog X.w X.K X.mg X.base (L2.CX X.prog X.w) k fI fd ["self", "value"] (spI X.K)) (hr : Room (k + 1) X.A)
    (hb : Binds X.K fd ["self", "value"] []) (hm : X.mg x = some (.ref C)) (he : PD X y e te) (hg : Gl X x := by rfl) (hdb : (x == ("__debug__" : Str)) = false := by decide) (hs : starEach [e] X.env = (false, eval e X.env) :: starEach [] X.env := by rfl) :
    PD X y (.Call (.Name x p) [e] [] pos) (rMkX C te) := by
  refine ⟨fun pins s σ H Q I h => ?_⟩
  obtain ⟨ρ, S, R, sr, so, h, kk⟩ := h
  have hp := pmk_oex (x := x) (p := p) (pos := pos) O.ox O.ii tI F1 hr hb .nil (passes_false tk) hg hm (pa_cons he pa_nil (hs := hs)) hdb (he := hs)
  refine wpAny_mono (hp pins s σ H (fun cls d H' => cls = .ref C ∧ ∃ dx w d1 S1, d = some dx ∧ H' dx = some (.xd [(("value" : Str), w)]) ∧ DV X.K H' d1 w ∧ Go X.K H S H' S1 ∧ R (.exc C d1) S1) I ⟨ρ, S, _, sr, so, h, fun d S1 v H1 g1 dv h1 => ?_⟩) (fun u s1 hu => ?_) fun _ _ x => x
  · refine ⟨by show 1 ≤ 1000; decide, fun a ha => ⟨a, C, v, rfl, O.ox, O.nv, upd_same, fun dx hdx ne => ⟨rfl, dx, _, upd_same, by rw [upd_ne ne]; exact upd_same, ?_, ?_⟩⟩⟩
    · rw [upd_ne ne] at hdx
      exact hdx
    · rw [upd_ne ne] at hdx
      have eH : upd (upd (upd H1 a (exo a C none)) dx (exd dx [(("value" : Str), v)])) a (exo a C (some dx)) = upd (upd H1 dx (exd dx [(("value" : Str), v)])) a (exo a C (some dx)) := by
        funext b
        by_cases h1 : b = a
        · rw [h1, upd_same, upd_same]
        · rw [upd_ne h1, upd_ne h1]
          by_cases h2 : b = dx
          · rw [h2, upd_same, upd_same]
          · rw [upd_ne h2, upd_ne h2, upd_ne h1]
      rw [eH, made_eq ha ne]
      have g2 := Go.new (K := X.K) (o := .xd [(("value" : Str), v)]) g1.ok hdx
      exact ⟨rfl, dx, v, d, S1, rfl, upd_same, DV.go g2 _ _ dv, g1.trans g2, h1⟩
  · obtain ⟨a, cls, d, H', rfl, na, ⟨rfl, dx, w, d1, S1, rfl, e1, dw, g, q⟩, hi⟩ := mk_held hu
    have gN := Go.new (K := X.K) (o := XO a C dx) g.ok na
    exact ⟨.ref a, _, hi C dx rfl rfl, rfl, kk (.exc C d1) S1 _ _ (g.trans gN) (dv_exc upd_same (by rw [upd_ne (ne_of_none e1 na)]; exact e1) (DV.go gN _ _ dw)) q⟩
end
end DL
namespace DL
open PySem PySem.Spec PyProof.Rows L2
theorem exm_self {K : PySem.W.Frag} {T : Addr} (hd : ClsO K T veT) : PySem.W.exmOne K (.ref T) (.ref T) = some true :=
  PySem.W.exm_ref (by rw [hd.sub, ve_in _ bm_0]; decide +kernel) hd.dict hd.ty (by
    rw [hd.sub, List.contains_cons, beq_self_eq_true, Bool.true_or])
theorem kit_top {K : PySem.W.Frag} {T D : Addr} {bm' : List Value} (hc : ClsO K T veT) (hd : ClsO K D bm') (h : D ≠ T) : PySem.W.kitOne K (.ref T) (.ref D) = some false := by
  rw [kit_ref hc hd h]
  rfl
end DL
set_option Elab.async false
set_option linter.all false
set_option maxRecDepth 100000
set_option maxHeartbeats 4000000
/-! DX2: a < b < c. -/
namespace DL
open PySem PySem.Spec PyProof.Rows L2
section
variable {X : Cx} {y : DXw} {pos : Pos} {a b c : Expr} {ta tb tc : RE}
def rChain (p p' : ROp) (ta tb tc : RE) : RE := fun ρ S Q => ta ρ S fun u S1 => tb ρ S1 fun v S2 => p u v S2 fun d S3 => dBl d fun k => IFB k (tc ρ S3 fun w S4 => p' v w S4 Q) (Q (.bl false) S3)
theorem chain_of {p p' : ROp} {σ : L2.St} {H : Hp} {Q : VK} (h : lE X.K y (rChain p p' ta tb tc) σ H Q) : tChain (lop X.K p) (lop X.K p') (lE X.K y ta) (lE X.K y tb) (lE X.K y tc) σ H Q := by
  obtain ⟨ρ, S, R, sr, so, h, kk⟩ := h
  refine ⟨ρ, S, _, sr, so, h, fun u S1 v1 H1 g1 dv1 h1 => ⟨ρ, S1, _, sr.go g1, so.go g1, h1, fun v S2 v2 H2 g2 dv2 h2 => ?_⟩⟩
  refine ⟨u, v, S2, _, DV.go g2 _ _ dv1, dv2, g2.ok, h2, fun d S3 z H3 g3 dz h3 => ?_⟩
  cases d with
  | bl k =>
    refine ⟨k, dz, ite_of_IFB h3 (fun h4 => ?_) fun h4 => kk (.bl false) S3 _ H3 (g1.trans (g2.trans g3)) rfl h4⟩
    refine ⟨ρ, S3, _, ((sr.go g1).go g2).go g3, ((so.go g1).go g2).go g3, h4, fun w S4 v4 H4 g4 dv4 h5 => ?_⟩
    exact ⟨v, w, S4, R, DV.go (g3.trans g4) _ _ dv2, dv4, g4.ok, h5, fun d S' z H' g dz hz => kk d S' z H' (g1.trans (g2.trans (g3.trans (g4.trans g)))) dz hz⟩
  | _ => exact False.elim h3
theorem pd_chain {op op' : CmpOp} {p p' : ROp} (ho : OpR X (compareOp op) (lop X.K p)) (ho' : OpR X (compareOp op') (lop X.K p')) (ha : PD X y a ta) (hb : PD X y b tb) (hc : PD X y c tc)
    (hm : lastMarks [op, op'] [b, c] = false := by with_unfolding_all rfl) : PD X y (.Compare a [op, op'] [b, c] pos) (rChain p p' ta tb tc) :=
  PD.of (pe_chain ho ho' ha hb hc hm) fun _ _ _ h => chain_of h
theorem pdt_chain {op op' : CmpOp} {p p' : ROp} (ho : OpR X (compareOp op) (lop X.K p)) (ho' : OpR X (compareOp op') (lop X.K p')) (ha : PD X y a ta) (hb : PD X y b tb) (hc : PD X y c tc)
    (hm : lastMarks [op, op'] [b, c] = false := by with_unfolding_all rfl) : PDT X y (.Compare a [op, op'] [b, c] pos) (rTst (rChain p p' ta tb tc)) :=
  PDT.of (pt_chain ho ho' ha hb hc hm) fun _ _ _ h => tst_of (fun _ _ _ h => chain_of h) h
theorem pd_valueK {K' : PySem.W.Frag} {e : Expr} {te : RE} (hK : X.K = K') (he : PD X y e te) (hb : attributeBase e "value" X.env (eval e X.env) = eval e X.env := by rfl) : PD X y (.Attribute e "value" pos) (rVal K' te) := by
  subst hK
  exact pd_value he hb
end
end DL
set_option Elab.async false
set_option linter.all false
set_option maxRecDepth 100000
set_option maxHeartbeats 4000000
/-! DK: dicts whose keys are nested tuples of ints: {}, in, not in, d[k], d[k] = v. -/
namespace DL
open PySem PySem.Spec PyProof.Rows L2

mutual
theorem nest_is {X : Cx} {pins : List (Addr × Obj)} {σ : L2.St} {H : Hp} {s : Shared} (I : Inv X pins σ H s) : ∀ (k : NestedKey) (v : V) (u : Value), DV X.K H (ofN k) v → RelV v u → NestedIs s.heap k u
  | .none, v, u, h, r => by
    cases (show v = .non from h)
    cases (show u = Value.none from r)
    exact .none
  | .num i, v, u, h, r => by
    cases (show v = .int i from h)
    obtain ⟨t, rfl⟩ := (show ∃ t, u = Value.int i t from r)
    exact .int i t
  | .text x, v, u, h, r => by
    cases (show v = .str x from h)
    obtain ⟨t, rfl⟩ := (show ∃ t, u = Value.str x t from r)
    exact .text x t
  | .tup ks, v, u, h, r => by
    obtain ⟨a, vs, rfl, st, hs⟩ := (show ∃ a vs, v = V.ref a ∧ StT X.K H a vs ∧ DVs X.K H (ofNs ks) vs from h)
    cases (show u = Value.ref a from r)
    obtain ⟨its, rv, ⟨o, ho, hc, n, hd⟩, _⟩ := I.tuple st.sq
    exact .tup ho hc hd (by simpa using nest_all I ks vs its hs rv)
theorem nest_all {X : Cx} {pins : List (Addr × Obj)} {σ : L2.St} {H : Hp} {s : Shared} (I : Inv X pins σ H s) : ∀ (ks : List NestedKey) (vs : List V) (us : List Value), DVs X.K H (ofNs ks) vs → Vals vs us → NestedAll s.heap ks us
  | [], vs, us, h, r => by
    cases (show vs = [] from h)
    cases r
    exact .nil
  | k :: ks, vs, us, h, r => by
    obtain ⟨v, ws, rfl, h1, h2⟩ := (show ∃ v ws, vs = v :: ws ∧ DV X.K H (ofN k) v ∧ DVs X.K H (ofNs ks) ws from h)
    cases r with
    | cons r1 r2 => exact .cons (nest_is I k v _ h1 r1) (nest_all I ks ws _ h2 r2)
end
mutual
theorem hash_plain (w w' : World) : ∀ k : NestedKey, plainK k = true → k.hash w = k.hash w'
  | .none, _ => rfl
  | .num _, _ => rfl
  | .text _, h => by cases h
  | .tup ks, h => by
    show reduceHash (Builtin.Tuple.tupleHashOf (NestedKey.hashes w ks)) = reduceHash (Builtin.Tuple.tupleHashOf (NestedKey.hashes w' ks))
    rw [hashes_plain w w' ks h]
theorem hashes_plain (w w' : World) : ∀ ks : List NestedKey, plainKs ks = true → NestedKey.hashes w ks = NestedKey.hashes w' ks
  | [], _ => rfl
  | k :: ks, h => by
    have h' : (plainK k && plainKs ks) = true := h
    rw [Bool.and_eq_true] at h'
    show k.hash w :: NestedKey.hashes w ks = k.hash w' :: NestedKey.hashes w' ks
    rw [hash_plain w w' k h'.1, hashes_plain w w' ks h'.2]
end
abbrev PX : List (NestedKey × Addr × V) → List (NestedKey × Addr × Value) → Prop := Paired fun p q => p.1 = q.1 ∧ p.2.1 = q.2.1 ∧ RelV p.2.2 q.2.2
theorem DKN.mem {K : PySem.W.Frag} {H : Hp} {ds : List (NestedKey × D)} {xs : List (NestedKey × Addr × V)} (h : DKN K H ds xs) : ∀ p ∈ xs, KeyOk p.1 ∧ DV K H (ofN p.1) (.ref p.2.1) := by
  induction h with
  | nil => intro p hp; cases hp
  | cons k q r _ ih =>
    intro p hp
    rcases List.mem_cons.mp hp with rfl | hp
    · exact ⟨k, q⟩
    · exact ih p hp
theorem PX.mem {xs : List (NestedKey × Addr × V)} {us : List (NestedKey × Addr × Value)} (h : PX xs us) : ∀ u ∈ us, ∃ x ∈ xs, x.1 = u.1 ∧ x.2.1 = u.2.1 := by
  induction h with
  | nil => intro p hp; cases hp
  | cons q _ ih =>
    intro p hp
    rcases List.mem_cons.mp hp with rfl | hp
    · exact ⟨_, List.mem_cons_self, q.1, q.2.1⟩
    · obtain ⟨x, hx, e⟩ := ih p hp
      exact ⟨x, List.mem_cons_of_mem _ hx, e⟩
theorem tn_stab {a : Addr} {xs : List (NestedKey × Addr × V)} {P : Program} {w : World} {H : Hp} {h : Heap} {us : List (NestedKey × Addr × Value)} {P' : Program} {w' : World} {o : Obj} {es : Array DictEntry} {ep : Nat} (e1 : h.get? a = some o) (e2 : o.ExactDict)
    (e3 : o.data = .dict es ep) (e4 : es.toList = us.map (entryOfKey (nestedKind P' w'))) (e5 : (us.map (·.1)).Nodup) (e6 : PX xs us) (e7 : (a == sysModules) = false) (e8 : xs.length ≤ sizeLine) : ObjOk P w H h a (TN a xs) :=
  ⟨⟨us, P', w', o, es, ep, e1, e2, e3, e4, e5, e6, e7, e8⟩, ⟨o, e1⟩, fun h1 h2 p st => by
    obtain ⟨us, P', w', o, es, ep, e1, r⟩ := p
    exact ⟨us, P', w', o, es, ep, st o e1, r⟩⟩
theorem nx_of {a : Addr} {xs : List (NestedKey × Addr × V)} {P : Program} {w : World} {H : Hp} {h : Heap} (ok : ObjOk P w H h a (TN a xs)) : NX a xs := fun C dx q => by
  obtain ⟨us, P', w', o, es, ep, e1, e2, e3, _⟩ := (show _ ∧ _ from ok).1
  have ok2 : ObjOk P w H h a (XO a C dx) := q ▸ ok
  obtain ⟨oe, vs, e4, _, e5⟩ := (show _ ∧ _ from ok2).1
  rw [e1] at e4
  cases e4
  rw [e3] at e5
  cases e5
section
variable {X : Cx} {pins : List (Addr × Obj)} {σ : L2.St} {H : Hp} {s : Shared} {a : Addr}
theorem tn_open {xs : List (NestedKey × Addr × V)} {kvs : List (NestedKey × D)} (I : Inv X pins σ H s) (e : H a = some (TN a xs)) (dk : DKN X.K H kvs xs) : ∃ us, s.heap.DictOfH (nestedKind X.prog X.w) a us ∧ PX xs us ∧ (a == sysModules) = false ∧ xs.length ≤ sizeLine := by
  obtain ⟨us, P', w', o, es, ep, e1, e2, e3, e4, e5, e6, e7, e8⟩ := (show _ ∧ _ from I.hok a _ e).1
  refine ⟨us, ⟨o, es, ep, e1, e2, e3, ?_, fun u hu => ?_, e5⟩, e6, e7, e8⟩
  · rw [e4]
    apply List.map_congr_left
    intro u hu
    obtain ⟨x, hx, k1, _⟩ := PX.mem e6 u hu
    have := (dk.mem x hx).1.plain
    rw [k1] at this
    show (⟨u.1.hash w', _, _⟩ : DictEntry) = ⟨u.1.hash X.w, _, _⟩
    rw [hash_plain w' X.w u.1 this]
  · obtain ⟨x, hx, k1, k2⟩ := PX.mem e6 u hu
    obtain ⟨k3, k4⟩ := dk.mem x hx
    rw [k1, k2] at k4
    rw [k1] at k3
    exact ⟨nest_is I u.1 _ _ k4 rfl, k3.dep⟩
end
/-! ### tables -/
def nval (kvs : List (NestedKey × D)) (k : NestedKey) : Option D := (kvs.find? fun kv => decide (kv.1 = k)).map (·.2)
def nput (kvs : List (NestedKey × D)) (k : NestedKey) (v : D) : List (NestedKey × D) := if kvs.any (fun kv => decide (kv.1 = k)) then kvs.map (fun kv => if kv.1 = k then (kv.1, v) else kv) else kvs ++ [(k, v)]
def xval (xs : List (NestedKey × Addr × V)) (k : NestedKey) : Option V := (xs.find? fun x => decide (x.1 = k)).map (·.2.2)
def xput (xs : List (NestedKey × Addr × V)) (k : NestedKey) (b : Addr) (v : V) : List (NestedKey × Addr × V) := if xs.any (fun x => decide (x.1 = k)) then xs.map (fun x => if x.1 = k then (x.1, x.2.1, v) else x) else xs ++ [(k, b, v)]
theorem DKN.val {K : PySem.W.Frag} {H : Hp} {ds : List (NestedKey × D)} {xs : List (NestedKey × Addr × V)} (h : DKN K H ds xs) (k : NestedKey) : (nval ds k).isSome = (xval xs k).isSome ∧ ∀ d, nval ds k = some d → ∃ v, xval xs k = some v ∧ DV K H d v := by
  induction h with
  | nil => exact ⟨rfl, fun _ e => by cases e⟩
  | @cons k' d b v ds vs _ _ r _ ih =>
    by_cases e : k' = k
    · subst e
      refine ⟨by simp [nval, xval, List.find?_cons], fun d' h => ⟨v, by simp [xval, List.find?_cons], ?_⟩⟩
      have : d = d' := by simpa [nval, List.find?_cons] using h
      rw [← this]; exact r
    · have e1 : nval ((k', d) :: ds) k = nval ds k := by simp [nval, List.find?_cons, e]
      have e2 : xval ((k', b, v) :: vs) k = xval vs k := by simp [xval, List.find?_cons, e]
      rw [e1, e2]
      exact ih
theorem PX.val {xs : List (NestedKey × Addr × V)} {us : List (NestedKey × Addr × Value)} (h : PX xs us) (k : NestedKey) : (xval xs k).isSome = (atKey us k).isSome ∧ ∀ v, xval xs k = some v → ∃ p, atKey us k = some p ∧ RelV v p.2 := by
  induction h with
  | nil => exact ⟨rfl, fun _ e => by cases e⟩
  | @cons x u xs us q _ ih =>
    obtain ⟨q1, q2, q3⟩ := q
    by_cases e : x.1 = k
    · have e' : u.1 = k := q1.symm.trans e
      refine ⟨by simp [xval, atKey, List.find?_cons, e, e'], fun v h => ⟨u.2, by simp [atKey, List.find?_cons, e'], ?_⟩⟩
      have : x.2.2 = v := by simpa [xval, List.find?_cons, e] using h
      rw [← this]; exact q3
    · have e' : ¬ u.1 = k := fun z => e (q1.trans z)
      have e1 : xval (x :: xs) k = xval xs k := by simp [xval, List.find?_cons, e]
      have e2 : atKey (u :: us) k = atKey us k := by simp [atKey, List.find?_cons, e']
      rw [e1, e2]
      exact ih
theorem xval_any (xs : List (NestedKey × Addr × V)) (k : NestedKey) : (xs.any fun x => decide (x.1 = k)) = (xval xs k).isSome := by
  induction xs with
  | nil => rfl
  | cons x xs ih =>
    rw [List.any_cons, ih]
    by_cases e : x.1 = k <;> simp [xval, List.find?_cons, e]
theorem nval_any (xs : List (NestedKey × D)) (k : NestedKey) : (xs.any fun x => decide (x.1 = k)) = (nval xs k).isSome := by
  induction xs with
  | nil => rfl
  | cons x xs ih =>
    rw [List.any_cons, ih]
    by_cases e : x.1 = k <;> simp [nval, List.find?_cons, e]
theorem PX.put {xs : List (NestedKey × Addr × V)} {us : List (NestedKey × Addr × Value)} (h : PX xs us) (k : NestedKey) (b : Addr) {v : V} {r : Value} (rv : RelV v r) : PX (xput xs k b v) (storedH us k b r) := by
  have m : PX (xs.map fun x => if x.1 = k then (x.1, x.2.1, v) else x) (us.map (putAt k r)) := by
    induction h with
    | nil => exact .nil
    | @cons x u xs us q _ ih =>
      rw [List.map_cons, List.map_cons]
      refine .cons ?_ ih
      obtain ⟨q1, q2, q3⟩ := q
      unfold putAt
      by_cases e : x.1 = k
      · rw [if_pos e, if_pos (q1.symm.trans e)]; exact ⟨q1, q2, rv⟩
      · rw [if_neg e, if_neg (fun z => e (q1.trans z))]; exact ⟨q1, q2, q3⟩
  unfold xput storedH
  rw [xval_any, (h.val k).1]
  by_cases q : (atKey us k).isSome = true
  · rw [if_pos q, if_pos q]; exact m
  · rw [if_neg q, if_neg q]; exact Paired.snoc h ⟨rfl, rfl, rv⟩
theorem DKN.put {K : PySem.W.Frag} {H : Hp} {ds : List (NestedKey × D)} {xs : List (NestedKey × Addr × V)} (h : DKN K H ds xs) {k : NestedKey} {b : Addr} {d : D} {v : V} (hk : KeyOk k) (hb : DV K H (ofN k) (.ref b)) (r : DV K H d v) : DKN K H (nput ds k d) (xput xs k b v) := by
  have m : DKN K H (ds.map fun kv => if kv.1 = k then (kv.1, d) else kv) (xs.map fun x => if x.1 = k then (x.1, x.2.1, v) else x) := by
    induction h with
    | nil => exact .nil
    | @cons k' d' b' v' ds vs k1 q1 r1 _ ih =>
      rw [List.map_cons, List.map_cons]
      by_cases e : k' = k
      · rw [if_pos e, if_pos e]; exact .cons k1 q1 r ih
      · rw [if_neg e, if_neg e]; exact .cons k1 q1 r1 ih
  have ap : DKN K H (ds ++ [(k, d)]) (xs ++ [(k, b, v)]) := by
    clear m
    induction h with
    | nil => exact .cons hk hb r .nil
    | cons k1 q1 r1 _ ih => exact .cons k1 q1 r1 ih
  unfold nput xput
  rw [nval_any, xval_any, (h.val k).1]
  split
  · exact m
  · exact ap
theorem xput_len (xs : List (NestedKey × Addr × V)) (k : NestedKey) (b : Addr) (v : V) : (xput xs k b v).length ≤ xs.length + 1 := by
  unfold xput
  split
  · rw [List.length_map]; omega
  · rw [List.length_append]; show xs.length + 1 ≤ _; omega
theorem DKN.length {K : PySem.W.Frag} {H : Hp} {ds : List (NestedKey × D)} {xs : List (NestedKey × Addr × V)} (h : DKN K H ds xs) : ds.length = xs.length := by
  induction h with
  | nil => rfl
  | cons _ _ _ _ ih => rw [List.length_cons, List.length_cons, ih]
/-! ### readings over the hand layer -/
def KeyAt (K : PySem.W.Frag) (H : Hp) (x y : V) (f : Addr → Addr → List (NestedKey × Addr × V) → NestedKey → Prop) : Prop :=
  ∃ a b xs kvs k, x = .ref a ∧ y = .ref b ∧ H a = some (TN a xs) ∧ DKN K H kvs xs ∧ KeyOk k ∧ DV K H (ofN k) (.ref b) ∧ f a b xs k
def tNGet (K : PySem.W.Frag) (td ty : TE) : TE := fun σ H Q => td σ H fun x H1 => ty σ H1 fun y H2 => KeyAt K H2 x y fun _ _ xs k => ∃ v, xval xs k = some v ∧ Q v H2
def tNIn (K : PySem.W.Frag) (n : Bool) (ty td : TE) : TE := fun σ H Q => ty σ H fun y H1 => td σ H1 fun x H2 => KeyAt K H2 x y fun _ _ xs k => Q (.bl (if n then !(xval xs k).isSome else (xval xs k).isSome)) H2
def tDNewN : TE := fun _ H Q => ∀ p, H p = none → NX p [] → Q (.ref p) (upd H p (TN p []))
def sNPut (K : PySem.W.Frag) (td ty tv : TE) : TS := fun D σ H => tv σ H fun v H1 => td σ H1 fun x H2 => ty σ H2 fun y H3 => KeyAt K H3 x y fun a b xs k => xs.length < sizeLine ∧ (NX a (xput xs k b v) → D.nx σ (upd H3 a (TN a (xput xs k b v))))
section
variable {X : Cx} {o i value : Expr} {pos pos' : Pos} {td ty tv : TE}
theorem room_nest {A : Around} {P : Program} {w : World} (hu : A.units + 64 < cLine) : (nestedKind P w).room A.in1 := by
  show A.units + 1 + 8 < cLine
  omega
theorem pe_dnewN : PE X (.Dict [] [] pos) tDNewN := ⟨fun pins s σ H Q I h => by
  have ok : ∀ H', ObjOk X.prog X.w H' (s.heap.push { cls := .type "dict", data := .dict #[] }) s.heap.objs.size (TN s.heap.objs.size []) := fun H' =>
    tn_stab (us := []) (P' := X.prog) (w' := X.w) (Heap.get?_push_size _ rfl) ⟨rfl, rfl, rfl⟩ rfl rfl List.nodup_nil .nil (beq_eq_false_iff_ne.mpr (Ne.symm (Nat.ne_of_lt I.big))) (Nat.zero_le _)
  exact wpAny_Dict_empty ⟨.ref s.heap.objs.size, _, I.laid (a := s.heap.objs.size) (o := TN s.heap.objs.size []) (t' := s.toks) (fun _ _ q => Heap.get?_push_of_some _ q) (Nat.le_refl _) (ok _), rfl, h _ (I.hok.fresh (Nat.le_refl _)) (nx_of (ok H))⟩⟩
theorem pe_nget (hu : X.A.units + 64 < cLine) (ho : PE X o td) (hi : PE X i ty) (hs : NoSl i) : PE X (.Subscript o i pos) (tNGet X.K td ty) := by
  refine ⟨fun pins s σ H Q I h => ?_⟩
  refine subD_of PySem.F.slot_dict_getitem.lookup hs (thn (ho.run pins s σ H _ I h) fun u s1 ⟨x, H1, I1, rx, q1⟩ => thn (hi.run pins s1 σ H1 _ I1 q1) fun iv s2 ⟨y, H2, I2, ry, a, b, xs, kvs, k, ex, ey, e, dk, ko, kb, v, hv, q2⟩ => ?_)
  subst ex ey
  cases (show u = Value.ref a from rx)
  cases (show iv = Value.ref b from ry)
  obtain ⟨us, dd, px, hd, hl⟩ := tn_open I2 e dk
  obtain ⟨p, hp, rp⟩ := (PX.val px k).2 v hv
  exact ⟨dd.typeIs, wpAny_getItem_heap (room_nest hu) ⟨nest_is I2 k _ _ kb rfl, ko.dep⟩ dd hp ⟨v, H2, I2.tok _, rp, q2⟩⟩
theorem pc_nin (hu : X.A.units + 64 < cLine) (hi : PE X i ty) (ho : PE X o td) : PC X .In i o (tNIn X.K false ty td) := by
  refine ⟨fun pins s σ H Q I h => ?_⟩
  refine thn (hi.run pins s σ H _ I h) fun iv s1 ⟨y, H1, I1, ry, q1⟩ => thn (ho.run pins s1 σ H1 _ I1 q1) fun u s2 ⟨x, H2, I2, rx, a, b, xs, kvs, k, ex, ey, e, dk, ko, kb, q2⟩ => ?_
  subst ex ey
  cases (show u = Value.ref a from rx)
  cases (show iv = Value.ref b from ry)
  obtain ⟨us, dd, px, hd, hl⟩ := tn_open I2 e dk
  refine wpAny_in_heap (room_nest hu) ⟨nest_is I2 k _ _ kb rfl, ko.dep⟩ hd dd ?_
  rw [← (PX.val px k).1]
  exact ⟨.bl (xval xs k).isSome, H2, I2.tok _, rfl, q2⟩
theorem pc_nnotin (hu : X.A.units + 64 < cLine) (hi : PE X i ty) (ho : PE X o td) : PC X .NotIn i o (tNIn X.K true ty td) := by
  refine ⟨fun pins s σ H Q I h => ?_⟩
  refine thn (hi.run pins s σ H _ I h) fun iv s1 ⟨y, H1, I1, ry, q1⟩ => thn (ho.run pins s1 σ H1 _ I1 q1) fun u s2 ⟨x, H2, I2, rx, a, b, xs, kvs, k, ex, ey, e, dk, ko, kb, q2⟩ => ?_
  subst ex ey
  cases (show u = Value.ref a from rx)
  cases (show iv = Value.ref b from ry)
  obtain ⟨us, dd, px, hd, hl⟩ := tn_open I2 e dk
  refine wpAny_notIn_heap (room_nest hu) ⟨nest_is I2 k _ _ kb rfl, ko.dep⟩ hd dd ?_
  rw [← (PX.val px k).1]
  exact ⟨.bl (!(xval xs k).isSome), H2, I2.tok _, rfl, q2⟩
theorem ps_nput (hu : X.A.units + 64 < cLine) (ho : PE X o td) (hi : PE X i ty) (hv : PE X value tv) (hs : swapsWith value (some (.Subscript o i pos')) pos.line X.env = pure false) :
    PS X (.Assign [.Subscript o i pos'] value pos) (sNPut X.K td ty tv) := by
  refine ⟨fun pins s σ H D I h => ?_⟩
  refine wpAny_Assign_Subscript (thn (hv.run pins s σ H _ I h) fun r s1 ⟨v, H1, I1, rv, q1⟩ => thn (ho.run pins s1 σ H1 _ I1 q1) fun u s2 ⟨x, H2, I2, rx, q2⟩ => thn (hi.run pins s2 σ H2 _ I2 q2) fun iv s3 ⟨y, H3, I3, ry, a, b, xs, kvs, k, ex, ey, e, dk, ko, kb, hl2, q3⟩ => ?_) hs
  subst ex ey
  cases (show u = Value.ref a from rx)
  cases (show iv = Value.ref b from ry)
  obtain ⟨us, dd, px, hd, hl⟩ := tn_open I3 e dk
  refine wpAny_setItem_heap (hsz := by rw [← Paired.length px]; exact hl) (room_nest hu) ⟨nest_is I3 k _ _ kb rfl, ko.dep⟩ dd fun h' dd' hs' => ?_
  obtain ⟨q, es, ep, hq, h2, h3, h4, _, h5⟩ := dd'
  have ok : ∀ H', ObjOk X.prog X.w H' h' a (TN a (xput xs k b v)) := fun H' => tn_stab (us := storedH us k b r) (P' := X.prog) (w' := X.w) hq h2 h3 h4 h5 (PX.put px k b rv) hd (Nat.le_trans (xput_len xs k b v) hl2)
  exact ⟨σ, _, d_write I3 (by rw [e]; exact True.intro) hs' ⟨q, hq⟩ (ok _), q3 (nx_of (ok H))⟩
end
/-! ### rules -/
section
variable {X : Cx} {y : DXw} {o i value : Expr} {pos pos' : Pos} {td ti tv : RE}
def rDNewN : RE := fun _ S Q => ∀ p, S p = none → Q (.ref p) (sup S p (.dN []))
theorem pd_dnewN : PD X y (.Dict [] [] pos) rDNewN := by
  refine PD.of pe_dnewN fun σ H Q h => ?_
  obtain ⟨ρ, S, R, sr, so, h, k⟩ := h
  intro p hp nx
  exact k (.ref p) _ _ _ (Go.newDN so.so hp nx .nil) rfl (h p (so.so.free hp))
def isN (S : Sto) (o k : D) (f : Addr → List (NestedKey × D) → NestedKey → Prop) : Prop := match o with
  | .ref a => ∃ kvs key, S a = some (.dN kvs) ∧ k = ofN key ∧ KeyOk key ∧ f a kvs key
  | _ => False
def rNGet (td ti : RE) : RE := fun ρ S Q => td ρ S fun o S1 => ti ρ S1 fun k S2 => isN S2 o k fun _ kvs key => ∃ d, nval kvs key = some d ∧ Q d S2
def rNIn (n : Bool) (ti td : RE) : RE := fun ρ S Q => ti ρ S fun k S1 => td ρ S1 fun o S2 => isN S2 o k fun _ kvs key => Q (.bl (if n then !(nval kvs key).isSome else (nval kvs key).isSome)) S2
def rNPut (td ti tv : RE) : RS := fun E ρ S => tv ρ S fun d S1 => td ρ S1 fun o S2 => ti ρ S2 fun k S3 => isN S3 o k fun a kvs key => kvs.length < sizeLine ∧ E.nx ρ (sup S3 a (.dN (nput kvs key d)))
theorem isN_of {K : PySem.W.Frag} {S : Sto} {H : Hp} {o k : D} {v w : V} {f : Addr → List (NestedKey × D) → NestedKey → Prop} (so : SOk K H S) (dv : DV K H o v) (dw : DV K H k w) (h : isN S o k f) :
    ∃ a b kvs xs key, v = .ref a ∧ w = .ref b ∧ S a = some (.dN kvs) ∧ H a = some (TN a xs) ∧ DKN K H kvs xs ∧ KeyOk key ∧ DV K H (ofN key) (.ref b) ∧ f a kvs key := by
  cases o with
  | ref a =>
    obtain ⟨kvs, key, e, rfl, ko, h⟩ := h
    obtain ⟨xs, e1, nx, r⟩ := so a _ e
    obtain ⟨ks, rfl⟩ := ko.tup
    obtain ⟨b, vs, rfl, _⟩ := id (show ∃ b vs, w = V.ref b ∧ StT K H b vs ∧ DVs K H (ofNs ks) vs from dw)
    exact ⟨a, b, kvs, xs, _, dv, rfl, e, e1, r, ko, dw, h⟩
  | _ => exact False.elim h
theorem pd_nget (hu : X.A.units + 64 < cLine) (ho : PD X y o td) (hi : PD X y i ti) (hs : NoSl i := by exact fun _ _ => rfl) : PD X y (.Subscript o i pos) (rNGet td ti) := by
  refine PD.of (pe_nget hu ho hi hs) fun σ H Q h => ?_
  obtain ⟨ρ, S, R, sr, so, h, k⟩ := h
  refine ⟨ρ, S, _, sr, so, h, fun x S1 v H1 g1 dv h1 => ⟨ρ, S1, _, sr.go g1, so.go g1, h1, fun z S2 w H2 g2 dw h2 => ?_⟩⟩
  obtain ⟨a, b, kvs, xs, key, rfl, rfl, _, e1, r, ko, kb, d, hd, h3⟩ := isN_of g2.ok (DV.go g2 _ _ dv) dw h2
  obtain ⟨u, hu, ru⟩ := (r.val key).2 d hd
  exact ⟨a, b, xs, kvs, key, rfl, rfl, e1, r, ko, kb, u, hu, k d S2 u H2 (g1.trans g2) ru h3⟩
theorem nin_read {n : Bool} {σ : L2.St} {H : Hp} {Q : VK} (h : lE X.K y (rNIn n ti td) σ H Q) : tNIn X.K n (lE X.K y ti) (lE X.K y td) σ H Q := by
  obtain ⟨ρ, S, R, sr, so, h, k⟩ := h
  refine ⟨ρ, S, _, sr, so, h, fun z S1 w H1 g1 dw h1 => ⟨ρ, S1, _, sr.go g1, so.go g1, h1, fun x S2 v H2 g2 dv h2 => ?_⟩⟩
  obtain ⟨a, b, kvs, xs, key, rfl, rfl, _, e1, r, ko, kb, h3⟩ := isN_of g2.ok dv (DV.go g2 _ _ dw) h2
  refine ⟨a, b, xs, kvs, key, rfl, rfl, e1, r, ko, kb, ?_⟩
  show Q (.bl (if n then !(xval xs key).isSome else (xval xs key).isSome)) H2
  rw [← (r.val key).1]
  exact k (.bl (if n then !(nval kvs key).isSome else (nval kvs key).isSome)) S2 _ H2 (g1.trans g2) rfl h3
theorem pd_nin (hu : X.A.units + 64 < cLine) (hi : PD X y i ti) (ho : PD X y o td) (hb : behindInMarks .In o = false := by rfl) : PD X y (.Compare i [.In] [o] pos) (rNIn false ti td) := PD.of (pe_cmp (pc_nin hu hi ho) hb) fun _ _ _ h => nin_read (n := false) h
theorem pd_nnotin (hu : X.A.units + 64 < cLine) (hi : PD X y i ti) (ho : PD X y o td) (hb : behindInMarks .NotIn o = false := by rfl) : PD X y (.Compare i [.NotIn] [o] pos) (rNIn true ti td) := PD.of (pe_cmp (pc_nnotin hu hi ho) hb) fun _ _ _ h => nin_read (n := true) h
theorem pdt_nin (hu : X.A.units + 64 < cLine) (hi : PD X y i ti) (ho : PD X y o td) (hb : behindInMarks .In o = false := by rfl) : PDT X y (.Compare i [.In] [o] pos) (rTst (rNIn false ti td)) := PDT.of (pt_cmp (pc_nin hu hi ho) hb) fun _ _ _ h => tst_of (fun _ _ _ h => nin_read (n := false) h) h
theorem pdt_nnotin (hu : X.A.units + 64 < cLine) (hi : PD X y i ti) (ho : PD X y o td) (hb : behindInMarks .NotIn o = false := by rfl) : PDT X y (.Compare i [.NotIn] [o] pos) (rTst (rNIn true ti td)) := PDT.of (pt_cmp (pc_nnotin hu hi ho) hb) fun _ _ _ h => tst_of (fun _ _ _ h => nin_read (n := true) h) h
theorem pd_nput (hu : X.A.units + 64 < cLine) (ho : PD X y o td) (hi : PD X y i ti) (hv : PD X y value tv) (hs : swapsWith value (some (.Subscript o i pos')) pos.line X.env = pure false := by rfl) : PDS X y (.Assign [.Subscript o i pos'] value pos) (rNPut td ti tv) := by
  refine PDS.of (ps_nput hu ho hi hv hs) fun D σ H h => ?_
  obtain ⟨ρ, S, E, sr, so, h, eo⟩ := h
  refine ⟨ρ, S, _, sr, so, h, fun d S1 u H1 g1 du h1 => ⟨ρ, S1, _, sr.go g1, so.go g1, h1, fun x S2 v H2 g2 dv h2 => ⟨ρ, S2, _, (sr.go g1).go g2, (so.go g1).go g2, h2, fun z S3 w H3 g3 dw h3 => ?_⟩⟩⟩
  obtain ⟨a, b, kvs, xs, key, rfl, rfl, e0, e1, r, ko, kb, hl, h4⟩ := isN_of g3.ok (DV.go g3 _ _ dv) dw h3
  have gA := g1.trans (g2.trans g3)
  have du3 := DV.go (g2.trans g3) _ _ du
  refine ⟨a, b, xs, kvs, key, rfl, rfl, e1, r, ko, kb, by rw [← r.length]; exact hl, fun nx => ?_⟩
  have g4 := Go.setDN g3.ok e0 nx (r.put ko kb du3)
  exact eo.nx ρ _ σ _ (gA.trans g4) ((sr.go gA).go g4) h4
end
end DL
set_option Elab.async false
set_option linter.all false
set_option maxRecDepth 100000
set_option maxHeartbeats 4000000
/-! DJ: displays of dicts by written texts, list.index of ints, list.reverse, try/except without a name. -/
namespace DL
open PySem PySem.Spec PyProof.Rows L2
section
variable {X : Cx} {y : DXw}
def dIndexI : RMt := fun o ds S R => match o, ds with
  | .ref a, [.int i] => ∃ (ns : List Int) (j : Nat), S a = some (.lst (ns.map D.int)) ∧ ns[j]? = some i ∧ (∀ m, m < j → ns[m]? ≠ some i) ∧ R (.int (j : Int)) S
  | _, _ => False
theorem md_indexI : MtR X "list.index" (lmt X.K dIndexI) := by
  intro pins s σ H v vs vv us Q I rv rs h
  obtain ⟨o, ds, S, R, dv, dvs, so, h, k⟩ := h
  refine mt_index pins s σ H v vs vv us Q I rv rs ?_
  unfold dIndexI at h
  split at h
  · rename_i a i
    cases (show v = V.ref a from dv)
    obtain ⟨w, rfl, dw⟩ := dvs1 dvs
    cases (show w = V.int i from dw)
    obtain ⟨ns, j, e, hj, hno, h⟩ := h
    obtain ⟨ws, e1, r⟩ := so a _ e
    cases r.ints
    refine ⟨a, _, .int i, j, .int i, rfl, rfl, SqL.of e1, rfl, by rw [List.all_map, List.all_eq_true]; intro _ _; rfl, by rw [List.getElem?_map, hj]; rfl, by show (i == i) = true; simp, fun m z hm hz => ?_, k (.int (j : Int)) S _ H (Go.refl so) rfl h⟩
    rw [List.getElem?_map] at hz
    cases q : ns[m]? with
    | none => rw [q] at hz; cases hz
    | some n =>
      rw [q] at hz
      cases (Option.some.inj hz)
      show (n == i) = false
      have : n ≠ i := fun z => hno m hm (by rw [q, z])
      simp [this]
  · exact h.elim
def dReverse : RMt := fun o ds S R => match o, ds with
  | .ref a, [] => ∃ xs, S a = some (.lst xs) ∧ R .non (sup S a (.lst xs.reverse))
  | _, _ => False
theorem md_reverse : MtR X "list.reverse" (lmt X.K dReverse) := by
  intro pins s σ H v vs vv us Q I rv rs h
  obtain ⟨o, ds, S, R, dv, dvs, so, h, k⟩ := h
  refine mt_reverse pins s σ H v vs vv us Q I rv rs ?_
  unfold dReverse at h
  split at h
  · rename_i a
    cases (show v = V.ref a from dv)
    cases dvs
    obtain ⟨xs, e, h⟩ := h
    obtain ⟨ws, e1, r⟩ := so a _ e
    exact ⟨a, ws, rfl, rfl, e1, k .non _ _ _ (Go.setLst so e r.rev) rfl h⟩
  · exact h.elim
end
/-! ### displays by written texts -/
section
variable {X : Cx} {y : DXw} {pos : Pos}
def lP (K : PySem.W.Frag) (y : DXw) (ks : List Str) (t : RA) : L2.St → Hp → (List (V × V) → Hp → Prop) → Prop := fun σ H Q => ∃ ρ S R, SRv K σ H ρ ∧ SX K y H S ∧ t ρ S R ∧ ∀ ds S' vs H', Go K H S H' S' → DVs K H' ds vs → ds.length = ks.length → R ds S' → Q ((ks.map V.str).zip vs) H'
structure PDP (X : Cx) (y : DXw) (pos : Pos) (keys : List (Option Expr)) (values : List Expr) (ks : List Str) (t : RA) : Prop where
  of : ∃ trs, PPs X pos keys values trs ∧ ∀ σ H Q, lP X.K y ks t σ H Q → tPairs trs σ H Q
  all : keys.all (·.isSome) = true
  len : keys.length = values.length
  lenk : keys.length = ks.length
theorem pdp_nil : PDP X y pos [] [] [] rNil := ⟨⟨[], pps_nil, fun σ H Q h => by
  obtain ⟨ρ, S, R, sr, so, h, k⟩ := h
  exact k [] S [] H (Go.refl so.so) DVs.nil rfl h⟩, rfl, rfl, rfl⟩
theorem pdp_cons {x : Str} {j : Nat} {p1 : Pos} {e : Expr} {keys : List (Option Expr)} {values : List Expr} {ks : List Str} {t : RE} {u : RA} (he : PD X y e t) (hr : PDP X y pos keys values ks u) :
    PDP X y pos (some (.Constant (.str x) j p1) :: keys) (e :: values) (x :: ks) (rCons t u) := by
  obtain ⟨⟨trs, hp, hw⟩, h1, h2, h3⟩ := hr
  refine ⟨⟨_, pps_cons pe_str he hp, fun σ H Q h => ?_⟩, by rw [List.all_cons, h1]; rfl, by rw [List.length_cons, List.length_cons, h2], by rw [List.length_cons, List.length_cons, h3]⟩
  obtain ⟨ρ, S, R, sr, so, h, k⟩ := h
  refine ⟨ρ, S, _, sr, so, h, fun d S1 v H1 g1 dv h1 => ?_⟩
  refine hw σ H1 _ ⟨ρ, S1, _, sr.go g1, so.go g1, h1, fun ds S2 vs H2 g2 dvs hn h2 => ?_⟩
  exact k _ S2 _ H2 (g1.trans g2) (DVs.cons (DV.go g2 _ _ dv) dvs) (by rw [List.length_cons, List.length_cons, hn]) h2
/-- the table of a display -/
def strK (ks : List Str) (ds : List D) : List (Key × D) := (ks.zip ds).map fun p => (.inr p.1, p.2)
def rDispS (ks : List Str) (t : RA) : RE := fun ρ S Q => ∀ p, S p = none → t ρ (sup S p (.dK [])) fun ds S2 => S2 p = some (.dK []) ∧ Q (.ref p) (sup S2 p (.dK (strK ks ds)))
theorem DKs.zip {K : PySem.W.Frag} {H : Hp} : ∀ {ks : List Str} {ds : List D} {vs : List V}, DVs K H ds vs → DKs K H (strK ks ds) ((ks.zip vs).map fun p => ((.inr p.1 : Key), p.2))
  | [], _, _, _ => .nil
  | k :: ks, [], vs, h => by
    cases (show vs = [] from h)
    exact .nil
  | k :: ks, d :: ds, vs, h => by
    obtain ⟨v, ws, rfl, r, q⟩ := h
    exact .cons r (DKs.zip q)
theorem merge_new : ∀ {more kvs : List (Key × V)}, (more.map (·.1)).Nodup → (∀ k ∈ more.map (·.1), k ∉ kvs.map (·.1)) → mergeK kvs more = kvs ++ more
  | [], kvs, _, _ => by rw [List.append_nil]; rfl
  | (k, v) :: more, kvs, hn, hk => by
    have hp : putK kvs k v = kvs ++ [(k, v)] := by
      refine putK_new v ?_
      cases q : valV kvs k with
      | none => rfl
      | some z =>
        exfalso
        refine hk k (by simp) ?_
        have := valV_any k kvs
        rw [q] at this
        obtain ⟨x, hx, e⟩ := List.any_eq_true.mp this
        exact List.mem_map.mpr ⟨x, hx, of_decide_eq_true e⟩
    show mergeK (putK kvs k v) more = _
    rw [List.map_cons, List.nodup_cons] at hn
    rw [hp, merge_new hn.2, List.append_assoc]
    · rfl
    · intro j hj hm
      rw [List.map_append, List.mem_append] at hm
      rcases hm with hm | hm
      · exact hk j (List.mem_cons_of_mem _ hj) hm
      · cases List.mem_singleton.mp hm
        exact hn.1 hj
theorem zip_keys : ∀ {ks : List Str} {vs : List V}, ks.length = vs.length → ((ks.zip vs).map fun p => ((.inr p.1 : Key), p.2)).map (·.1) = ks.map Sum.inr
  | [], _, _ => rfl
  | k :: ks, [], h => by cases h
  | k :: ks, v :: vs, h => by
    have := zip_keys (ks := ks) (vs := vs) (by simpa using h)
    rw [List.zip_cons_cons, List.map_cons, List.map_cons, this]
    rfl
theorem pd_dispS {keys : List (Option Expr)} {values : List Expr} {ks : List Str} {t : RA} (h : PDP X y pos keys values ks t) (hn : ks.Nodup := by decide) (h0 : keys ≠ [] := by simp) (h15 : keys.length ≤ 15 := by decide) : PD X y (.Dict keys values pos) (rDispS ks t) := by
  obtain ⟨⟨trs, hp, hw⟩, ha, hl, hlk⟩ := h
  refine PD.of (pe_disp hp ha hl h0 h15) fun σ H Q h => ?_
  obtain ⟨ρ, S, R, sr, so, h, kk⟩ := h
  intro p hp
  have g0 := Go.newDK (K := X.K) so.so hp .nil
  refine hw σ _ _ ⟨ρ, sup S p (.dK []), _, sr.go g0, so.go g0, h p (so.so.free hp), fun ds S2 vs H2 g2 dvs hd h2 => ?_⟩
  obtain ⟨e2, q⟩ := h2
  obtain ⟨zs, e3, r⟩ := g2.ok p _ e2
  cases r
  have hlen : ks.length = vs.length := by rw [← dvs.length, hd]
  refine ⟨e3, (ks.zip vs).map fun p => ((.inr p.1 : Key), p.2), ?_, ?_, ?_⟩
  · rw [List.map_map, List.zip_map_left]
    rfl
  · rw [List.length_map, List.length_zip, ← hlen, Nat.min_self, ← hlk]
    exact h15
  · rw [merge_new (by rw [zip_keys hlen]; exact List.Pairwise.map _ (fun a b h z => h (by injection z)) hn) (fun _ _ z => by cases z), List.nil_append]
    exact kk (.ref p) _ _ _ ((g0.trans g2).trans (Go.setDK g2.ok e2 (DKs.zip dvs))) rfl q
end
/-! ### try/except without a name -/
def dOnly (K : PySem.W.Frag) (c : Value) (ts : RS) (yo : DWX) (E : DEnds) : DWX := fun C d ρ S => ∃ b, PySem.W.exmOne K (.ref C) c = some b ∧ IFB b (ts E ρ S) (yo C d ρ S)
def rTryO (K : PySem.W.Frag) (c : Value) (yo : DWX) (tb : WX → DWX → RS) (ts : RS) : RS := fun E ρ S => ∀ W, tb W (dOnly K c ts yo E) E ρ S
section
variable {X : Cx} {y : DXw} {x : Str} {c : Value} {body suite : List Stmt} {b₀ : Stmt} {np pos pos' : Pos} {tb : WX → DWX → RS} {ts : RS}
theorem pd_tryO (hs : X.stack = X.env :: X.outer) (hf : X.env.frame = some X.env.locals) (hc : Names X x c) (tk : Takes X y.W)
    (hb : ∀ (W : WX) (d : DWX) (pn : List (Addr × Obj)) (xe : Value → Shared → Prop), Takes (X.tr pn xe) W → PDSs (X.tr pn xe) ⟨W, d⟩ body (tb W d))
    (hsu : ∀ (a : Addr) (pn : List (Addr × Obj)), PDSs (X.suite a pn) y0 (b₀ :: suite) ts) :
    PDS X y (.Try body [.ExceptHandler (some (.Name x np)) none (b₀ :: suite) pos'] [] [] pos) (rTryO X.K c y.d tb ts) := by
  refine PDS.of (ps_try_only (tb := fun W D σ H => ∃ d, lS X.K ⟨W, d⟩ (tb W d) D σ H) (ts := fun _ _ _ => lS X.K y0 ts) hs hf hc tk (fun W pn xe tk' _ => ⟨fun pins s σ H D I ⟨d, q⟩ => (hb W d pn xe tk').run pins s σ H D I q⟩) (fun a oe cls d pn _ _ => hsu a _)) fun D σ H h => ?_
  obtain ⟨ρ, S, E, sr, so, h, eo⟩ := h
  refine ⟨dOnly X.K c ts y.d E, ρ, S, E, sr, ⟨so.so, fun C d ρ' S' dx w σ' H' g sr' e dv hd => ?_⟩, h _, eo⟩
  obtain ⟨b, hb1, hi1⟩ := hd
  obtain ⟨h1, h2⟩ := hi1.of
  refine ⟨b, hb1, fun z a ha => ?_, fun z => so.xo C d ρ' S' dx w σ' H' g sr' e dv (h2 z)⟩
  refine ⟨ρ', S', E, sr', sx0 g.ok, h1 z, ?_⟩
  exact ⟨fun ρ2 S2 σ2 H2 g2 sr2 q => eo.nx _ _ _ _ (g.trans g2) sr2 q, fun d2 S2 v2 H2 g2 dv2 q => eo.rt _ _ _ _ (g.trans g2) dv2 q, fun ρ2 S2 σ2 H2 g2 sr2 q => eo.bk _ _ _ _ (g.trans g2) sr2 q, fun ρ2 S2 σ2 H2 g2 sr2 q => eo.ct _ _ _ _ (g.trans g2) sr2 q⟩
end
end DL
set_option Elab.async false
set_option linter.all false
set_option maxRecDepth 100000
set_option maxHeartbeats 4000000
/-! DM: repr of nested values with dicts by ints and texts in them. -/
namespace DL
open PySem PySem.Spec PyProof.Rows L2
/-- the table of modules stands in the part that stays -/
def HasM (base : Heap) : Prop := ∃ o, base.get? sysModules = some o
def keyP : Key → PyData
  | .inl i => .int i
  | .inr x => .str x
mutual
inductive PyQ (S : Sto) : D → PyData → Prop
  | non : PyQ S .non .none
  | bl (b : Bool) : PyQ S (.bl b) (.bool b)
  | int (i : Int) : PyQ S (.int i) (.int i)
  | str (x : Str) : PyQ S (.str x) (.str x)
  | tup {xs : List D} {ps : List PyData} : PyQs S xs ps → PyQ S (.tup xs) (.tuple ps)
  | lst {a : Addr} {xs : List D} {ps : List PyData} : S a = some (.lst xs) → PyQs S xs ps → PyQ S (.ref a) (.list ps)
  | dct {a : Addr} {kvs : List (Key × D)} {kps : List (PyData × PyData)} : S a = some (.dK kvs) → PyKv S kvs kps → PyQ S (.ref a) (.dict kps)
inductive PyQs (S : Sto) : List D → List PyData → Prop
  | nil : PyQs S [] []
  | cons {x : D} {xs : List D} {p : PyData} {ps : List PyData} : PyQ S x p → PyQs S xs ps → PyQs S (x :: xs) (p :: ps)
inductive PyKv (S : Sto) : List (Key × D) → List (PyData × PyData) → Prop
  | nil : PyKv S [] []
  | cons {k : Key} {d : D} {p : PyData} {kvs : List (Key × D)} {kps : List (PyData × PyData)} : PyQ S d p → PyKv S kvs kps → PyKv S ((k, d) :: kvs) ((keyP k, p) :: kps)
end
mutual
theorem PyQ.ext {S S' : Sto} (x : Ext S S') : ∀ {d : D} {p : PyData}, PyQ S d p → PyQ S' d p
  | _, _, .non => .non
  | _, _, .bl b => .bl b
  | _, _, .int i => .int i
  | _, _, .str t => .str t
  | _, _, .tup hs => .tup (PyQs.ext x hs)
  | _, _, .lst e hs => .lst (x _ _ e) (PyQs.ext x hs)
  | _, _, .dct e hs => .dct (x _ _ e) (PyKv.ext x hs)
theorem PyQs.ext {S S' : Sto} (x : Ext S S') : ∀ {ds : List D} {ps : List PyData}, PyQs S ds ps → PyQs S' ds ps
  | _, _, .nil => .nil
  | _, _, .cons h1 h2 => .cons (PyQ.ext x h1) (PyQs.ext x h2)
theorem PyKv.ext {S S' : Sto} (x : Ext S S') : ∀ {ds : List (Key × D)} {ps : List (PyData × PyData)}, PyKv S ds ps → PyKv S' ds ps
  | _, _, .nil => .nil
  | _, _, .cons h1 h2 => .cons (PyQ.ext x h1) (PyKv.ext x h2)
end
section
variable {X : Cx} {pins : List (Addr × Obj)} {σ : L2.St} {H : Hp} {s : Shared} {S : Sto}
theorem not_mods (I : Inv X pins σ H s) (hm : HasM X.base) {a : Addr} {u : HO} (e : H a = some u) : a ≠ sysModules := fun z => by
  obtain ⟨o, ho⟩ := hm
  have := (I.bs _ _ ho).2
  rw [z, this] at e
  cases e
mutual
theorem PyQ.reads (I : Inv X pins σ H s) (so : SOk X.K H S) (hm : HasM X.base) : ∀ {d : D} {p : PyData}, PyQ S d p → ∀ (v : V) (u : Value), DV X.K H d v → RelV v u → ∃ as, Reads s.heap u p as ∧ sysModules ∉ as
  | _, _, .non, v, u, h, r => by
    cases (show v = .non from h)
    cases (show u = Value.none from r)
    exact ⟨_, .none, fun z => by cases z⟩
  | _, _, .bl b, v, u, h, r => by
    cases (show v = .bl b from h)
    cases (show u = Value.bool b from r)
    exact ⟨_, .bool b, fun z => by cases z⟩
  | _, _, .int i, v, u, h, r => by
    cases (show v = .int i from h)
    obtain ⟨t, rfl⟩ := (show ∃ t, u = Value.int i t from r)
    exact ⟨_, .int i t, fun z => by cases z⟩
  | _, _, .str x, v, u, h, r => by
    cases (show v = .str x from h)
    obtain ⟨t, rfl⟩ := (show ∃ t, u = Value.str x t from r)
    exact ⟨_, .str x t, fun z => by cases z⟩
  | _, _, .tup hs, v, u, h, r => by
    obtain ⟨a, vs, rfl, st, hv⟩ := (show ∃ a vs, v = V.ref a ∧ StT X.K H a vs ∧ DVs X.K H _ vs from h)
    cases (show u = Value.ref a from r)
    obtain ⟨its, rv, ⟨o, ho, hc, n, hd⟩, _⟩ := I.tuple st.sq
    obtain ⟨as, ha, hn⟩ := PyQs.reads I so hm hs vs its hv rv
    exact ⟨as, .tuple ho hc hd (by simpa using ha), hn⟩
  | _, _, .lst (a := a) e hs, v, u, h, r => by
    cases (show v = .ref a from h)
    cases (show u = Value.ref a from r)
    obtain ⟨vs, e1, hv⟩ := so a _ e
    obtain ⟨_, its, n, rv, ho⟩ := (show ObjOk X.prog X.w H s.heap a (.lst vs) from I.hok a _ e1)
    obtain ⟨as, ha, hn⟩ := PyQs.reads I so hm hs vs its hv rv
    exact ⟨_, .list ho rfl rfl (by simpa using ha), fun z => (List.mem_cons.mp z).elim (fun z => not_mods I hm e1 z.symm) hn⟩
  | _, _, .dct (a := a) e hs, v, u, h, r => by
    cases (show v = .ref a from h)
    cases (show u = Value.ref a from r)
    obtain ⟨vs, e1, hv⟩ := so a _ e
    obtain ⟨_, hd, us, kv, o, es, ep, ho, hc, hdat, _, hp, _⟩ := dk_of I.hok e1
    obtain ⟨bs, h1, h2, hn⟩ := PyKv.reads I so hm hs vs us es.toList hv kv hp
    refine ⟨_, .dict ho hc.1 hdat h1 h2, fun z => ?_⟩
    rcases List.mem_cons.mp z with z | z
    · exact not_mods I hm e1 z.symm
    · exact hn (by simpa using z)
theorem PyQs.reads (I : Inv X pins σ H s) (so : SOk X.K H S) (hm : HasM X.base) : ∀ {ds : List D} {ps : List PyData}, PyQs S ds ps → ∀ (vs : List V) (us : List Value), DVs X.K H ds vs → Vals vs us → ∃ as, ReadsAll s.heap us ps as ∧ sysModules ∉ as
  | _, _, .nil, vs, us, h, r => by
    cases (show vs = [] from h)
    cases r
    exact ⟨_, .nil, fun z => by cases z⟩
  | _, _, .cons h1 h2, vs, us, h, r => by
    obtain ⟨v, ws, rfl, q1, q2⟩ := (show ∃ v ws, vs = v :: ws ∧ DV X.K H _ v ∧ DVs X.K H _ ws from h)
    cases r with
    | cons r1 r2 =>
      obtain ⟨as, ha, hn⟩ := PyQ.reads I so hm h1 v _ q1 r1
      obtain ⟨bs, hb, hn2⟩ := PyQs.reads I so hm h2 ws _ q2 r2
      exact ⟨_, .cons ha hb, fun z => (List.mem_append.mp z).elim hn hn2⟩
theorem PyKv.reads (I : Inv X pins σ H s) (so : SOk X.K H S) (hm : HasM X.base) : ∀ {ds : List (Key × D)} {ps : List (PyData × PyData)}, PyKv S ds ps → ∀ (vs : List (Key × V)) (us : List (Key × Value)) (es : List DictEntry), DKs X.K H ds vs → KV vs us → Pairs (mixKind X.prog X.w) es us →
    ∃ bs, ReadsAll s.heap (es.map (·.key)) (ps.map (·.1)) [] ∧ ReadsAll s.heap (es.map (·.val)) (ps.map (·.2)) bs ∧ sysModules ∉ bs
  | _, _, .nil, vs, us, es, h, r, q => by
    cases h
    cases r
    cases q
    exact ⟨_, .nil, .nil, fun z => by cases z⟩
  | _, _, .cons h1 h2, vs, us, es, h, r, q => by
    cases h with
    | cons d1 d2 =>
      cases r with
      | cons r1 r2 =>
        cases q with
        | cons q1 q2 q3 =>
          obtain ⟨k1, k2⟩ := r1
          obtain ⟨as, ha, hn⟩ := PyQ.reads I so hm h1 _ _ d1 k2
          obtain ⟨bs, hb1, hb2, hn2⟩ := PyKv.reads I so hm h2 _ _ _ d2 r2 q3
          refine ⟨as ++ bs, ?_, ?_, fun z => (List.mem_append.mp z).elim hn hn2⟩
          · rw [List.map_cons, List.map_cons]
            rw [← k1] at q1
            rcases keyIs_shape q1 with ⟨i, t, e1, e2⟩ | ⟨x, t, e1, e2⟩
            · dsimp only at e1
              rw [e2, e1]
              exact ReadsAll.cons (as := []) (.int i t) hb1
            · dsimp only at e1
              rw [e2, e1]
              exact ReadsAll.cons (as := []) (.str x t) hb1
          · rw [List.map_cons, List.map_cons, q2]
            exact .cons ha hb2
end
end
section
variable {X : Cx}
def GoodM (p : PyData) : Prop := p.showable = true ∧ p.depth ≤ 30 ∧ p.shown.length ≤ sizeLine
def dShowM : RCall := fun ds S Q => match ds with
  | [d] => ∃ p, PyQ S d p ∧ GoodM p ∧ Q (.str p.shown) S
  | _ => False
theorem cd_showM (hz : X.A.guards = some []) (hm : HasM X.base) (hu : X.A.units + 64 < cLine) : CallR X (.builtin "repr") (lcl X.K dShowM) := by
  intro pins s σ H vs us Q I rv h
  obtain ⟨ds, S, R, dv, so, h, k⟩ := h
  unfold dShowM at h
  split at h
  · rename_i d
    obtain ⟨v, rfl, r⟩ := dvs1 dv
    obtain ⟨p, hp, ⟨g1, g3, g4⟩, h⟩ := h
    obtain ⟨u, rfl, ru⟩ := vals1 rv
    have fin : ∀ (tk : Tok) (H' : Hp) (s' : Shared), Inv X pins σ H s' → EP X pins σ Q (.str p.shown tk) s' := fun tk H' s' J => ⟨.str p.shown, H, J, ⟨tk, rfl⟩, k (.str p.shown) S _ H (Go.refl so) rfl h⟩
    obtain ⟨as, rd, hn⟩ := PyQ.reads I so hm hp v u r ru
    cases rd with
    | none => exact PySem.P.repr_of_none (fin _ H _ (I.tok _))
    | bool b => exact PySem.P.repr_of_bool (fin _ H _ (I.tok _))
    | int i t => exact PySem.P.repr_of_int (by simpa [PyData.showable] using g1) (fin _ H _ (I.tok _))
    | str x t => exact PySem.P.repr_of_str (fin _ H _ (I.tok _)) g4
    | list a1 a2 a3 a4 => exact repr_of_reads' (.list a1 a2 a3 a4) g1 (fun _ => hn) hz (by omega) (fun _ _ e => e) (fun h' u tk hk => fin u H _ (I.kept (h' := h') (t' := tk) hk)) g4
    | tuple a1 a2 a3 a4 => exact repr_of_reads' (.tuple a1 a2 a3 a4) g1 (fun _ => hn) hz (by omega) (fun _ _ e => e) (fun h' u tk hk => fin u H _ (I.kept (h' := h') (t' := tk) hk)) g4
    | dict a1 a2 a3 a4 a5 => exact repr_of_reads' (.dict a1 a2 a3 a4 a5) g1 (fun _ => hn) hz (by omega) (fun _ _ e => e) (fun h' u tk hk => fin u H _ (I.kept (h' := h') (t' := tk) hk)) g4
  · exact h.elim
end
/-! ### the law's own call -/
theorem top_callM {P : Program} {w : World} {K : PySem.W.Frag} {mg mb : Str → Option Value} {CX : CXT} {k : Nat} {fn a : Addr} {fd : FuncData} {x : Str} {sp : Sp} {t : Shared} {vs : List Value} {ns : List Int}
    (inK : K.In t.heap) (g1 : t.heap.Ns mainGlobals mg) (g2 : t.heap.Ns builtinsNs mb) (g3 : ∀ x : Str, x ≠ "__name__" → mb x = bootBuiltins x) (g4 : t.heap.NoLimit) (g5 : t.gens = #[])
    (obj : t.heap.get? a = some { cls := .type "list", data := .seq vs.toArray }) (areInts : IntsAre vs ns) (hshort : ns.length ≤ sizeLine) (room : Room k callerA)
    (hmod : ∃ mm, t.heap.Ns sysModules mm) (F : ∀ base : Heap, K.In base → base.Ns mainGlobals mg → HasM base → FnOkG P w K mg base CX k fn fd [x] sp) (bind : ∀ (s : Shared) (u : Value), BindsTo s fd ⟨[u], []⟩ [(x, u)])
    (promise : ∀ H : Hp, Only H → SqL K H a (ns.map V.int) → sp [.ref a] H (fun v _ => v = .bl true) fun _ _ _ => False)
    (noX : ∀ H e s', CX [] H t (fun _ _ _ => False) e s' → False) :
    codeAny (model P w) callerA (.call (.ref fn) ⟨[.ref a], []⟩) (fun r s' => r = .ok (.ret (.bool true)) ∧ OldK t.heap s'.heap ∧ s'.os = t.os ∧ AllBare s'.gens) t := by
  have vals := vals_ints areInts
  have vl := areInts.length
  suffices key : ∀ H : Hp, Only H → SqL K H a (ns.map V.int) → HOk P w H t.heap → (∀ b, H b ≠ none → b = a) → (H a ≠ none → K.lookup a = none) →
      codeAny (model P w) callerA (.call (.ref fn) ⟨[.ref a], []⟩) (fun r s' => r = .ok (.ret (.bool true)) ∧ OldK t.heap s'.heap ∧ s'.os = t.os ∧ AllBare s'.gens) t by
    cases look : K.lookup a with
    | some o =>
      have same := (inK a o look).symm.trans obj
      cases same
      exact key (fun _ => none) (fun _ => .inl rfl) (.inr ⟨_, vs.toArray, _, look, rfl, rfl, rfl, by rw [List.size_toArray, vl]; exact hshort, by simpa using vals⟩) (fun b u z => nomatch (show (none : Option HO) = some u from z)) (fun b z => absurd rfl z) (fun z => absurd rfl z)
    | none =>
      have at_a : ∀ b, b ≠ a → (if b = a then some (HO.frz { cls := .type "list", data := .seq vs.toArray } (.lst (ns.map V.int))) else none) = none := fun b z => if_neg z
      refine key (fun b => if b = a then some (.frz { cls := .type "list", data := .seq vs.toArray } (.lst (ns.map V.int))) else none) (fun b => ?_) (.inl (.inr ⟨_, if_pos rfl⟩)) (fun b u z => ?_) (fun b z => ?_) (fun _ => look)
      · rcases Classical.em (b = a) with y | y
        · exact .inr ⟨_, _, if_pos y⟩
        · exact .inl (at_a b y)
      · rcases Classical.em (b = a) with y | y
        · subst y
          cases (if_pos rfl).symm.trans z
          exact ⟨obj, by rw [List.length_map]; exact hshort, vs, _, vals, obj⟩
        · cases (at_a b y).symm.trans z
      · exact Classical.byContradiction fun y => z (at_a b y)
  intro H only sq hok onlyA freeA
  have under : ∀ {b : Addr} {o : Obj}, t.heap.get? b = some o → H b = none → (hidT t.heap H).get? b = some o := fun e n => hidT_get e n
  have noDict : ∀ {b : Addr} {o : Obj} {es : Array DictEntry} {ep : Nat}, t.heap.get? b = some o → o.data = .dict es ep → H b = none := by
    intro b o es ep e d
    refine Classical.byContradiction fun z => ?_
    have := onlyA b z
    subst this
    cases obj.symm.trans e
    cases d
  have nsU : ∀ {b : Addr} {m : Str → Option Value}, t.heap.Ns b m → (hidT t.heap H).Ns b m := by
    rintro b m ⟨o, es, ep, e, d, r⟩
    exact ⟨o, es, ep, under e (noDict e d), d, r⟩
  have inU : K.In (hidT t.heap H) := fun b o e => under (inK b o e) (Classical.byContradiction fun z => by
    have := onlyA b z
    subst this
    rw [freeA z] at e
    cases e)
  obtain ⟨mc, l1, l2⟩ := g4
  have md : Mod K mg (hidT t.heap H) := ⟨inU, nsU g1, ⟨mb, nsU g2, g3⟩, ⟨mc, nsU l1, l2⟩⟩
  have hasM : HasM (hidT t.heap H) := by
    obtain ⟨mm, hmm⟩ := hmod
    obtain ⟨o, es, ep, e, _⟩ := nsU hmm
    exact ⟨o, e⟩
  have env : Env0 P w K mg (hidT t.heap H) callerA [] t H := ⟨rfl, md, fun b o e => of_hidT e, Nat.le_of_eq (hidT_size _ _), trivial, (fun b hb => absurd (List.mem_nil_iff b |>.mp hb) id), hok, .of_eq g5⟩
  refine codeAny_mono ((F _ inU (nsU g1) hasM).go callerA [] t H ⟨[.ref a], []⟩ [.ref a] [.ref a] _ _ rfl room env (bind t (.ref a)) (.cons rfl .nil) (promise H only sq)) fun r s' out => ?_
  cases r with
  | error e => exact (noX H e s' out).elim
  | ok fl =>
    cases fl with
    | ret u =>
      obtain ⟨v, H2, os, bare, un, hok2, rel, q⟩ := out
      cases (show v = .bl true from q)
      cases (show u = Value.bool true from rel)
      refine ⟨rfl, OldK.of_keep fun b o e => ?_, os, bare⟩
      cases hb : H b with
      | none => exact un.keep b o e hb (fun z => by cases z) (by simp)
      | some c =>
        rcases only b with z | ⟨ob, xs, z⟩
        · rw [hb] at z; cases z
        · have e1 := (hok b _ z).1
          have e2 := (hok2 b _ (un.frzs b ob _ z)).1
          cases e1.symm.trans e
          exact e2
    | next => exact False.elim out
    | brk => exact False.elim out
    | cont => exact False.elim out
theorem walk_ofM {l : PySem.W.OpenLaw} {n k : Nat} {q : Program} {loose : List Str} {XP : (Str → Option Value) → Heap → Prop} {YP : World → Heap → Prop} {d : DefRec} {K : Params → PySem.W.Frag} {CX : World → CXT} {sp : World → Sp} {x : Str}
    (himp : importsNone q = true) (hn : l.most = some n) (hn2 : n ≤ sizeLine) (hdf : d.params.defaults = []) (room : Room k callerA) (hY : ∀ (w : World) (h : Heap), YP w h → (K w.params).In h)
    (F : ∀ (w : World) (mg : Str → Option Value) (fn : Addr) (h : Heap), (K w.params).In h → h.Ns mainGlobals mg → mg d.name = some (.ref fn) →
      ∃ fd : FuncData, (∀ (s : Shared) (u : Value), BindsTo s fd ⟨[u], []⟩ [(x, u)]) ∧ ∀ base : Heap, (K w.params).In base → base.Ns mainGlobals mg → HasM base → FnOkG l.prog w (K w.params) mg base (CX w) k fn fd [x] (sp w))
    (promise : ∀ (w : World) (H : Hp) (a : Addr) (ns : List Int), ns.length ≤ n → Only H → SqL (K w.params) H a (ns.map V.int) → sp w [.ref a] H (fun v _ => v = .bl true) fun _ _ _ => False)
    (noX : ∀ (w : World) (H : Hp) (s : Shared) (e : Value) (s' : Shared), CX w [] H s (fun _ _ _ => False) e s' → False) :
    PySem.W.WalkO q loose XP YP l.row.toRowW d [] (fun f vs => PySem.call f vs) :=
  Att.attach_call hn hdf fun w _ t mg mb fn _ _ _ _ a vs ns G Y _ _ _ named obj areInts hshort gens => by
    have inK := hY w _ Y
    obtain ⟨fd, b, FF⟩ := F w mg fn _ inK G.T.g named
    exact top_callM inK G.T.g G.T.b G.T.builtins G.T.nolimit gens obj areInts (Nat.le_trans hshort hn2) room (let ⟨mm, z, _⟩ := (G.T.seer himp).mods; ⟨mm, z⟩) FF b (fun H only sq => promise w H a ns hshort only sq) fun H e s' => noX w H t e s'
end DL
set_option Elab.async false
set_option linter.all false
set_option maxRecDepth 100000
set_option maxHeartbeats 4000000
/-! DN: calls of defs that are entered with nothing under way, try with several clauses "except .. as e", d.get(k, x). -/
namespace DL
open PySem PySem.Spec PyProof.Rows L2
section
variable {X : Cx} {y : DXw} {pos p : Pos} {e : Expr} {es : List Expr} {x : Str} {k : Nat} {f : Addr} {fd : FuncData} {ps : List Str} {spec : DSp}
theorem FnOkG.mono {P : Program} {w : World} {K : PySem.W.Frag} {mg : Str → Option Value} {base : Heap} {CX : CXT} {j k : Nat} {f : Addr} {fd : FuncData} {ps : List Str} {sp : Sp} (F : FnOkG P w K mg base CX j f fd ps sp) (h : j ≤ k) :
    FnOkG P w K mg base CX k f fd ps sp := ⟨F.size, fun A outs t H given us vs Q E hz hr => F.go A outs t H given us vs Q E hz (hr.mono h)⟩
theorem pd_callG {ta : RA} (hz : X.A.guards = some []) (tk : Takes X y.W) (G : FnOkG X.prog X.w X.K X.mg X.base (L2.CX X.prog X.w) k f fd ps (toSp X.K spec)) (hr : Room k X.A) (hm : X.mg x = some (.ref f)) (hk : PySem.W.keepIn X.K (.ref f) = true) (hb : Binds X.K fd ps [])
    (ha : PDA X y (e :: es) ta) (hg : Gl X x := by rfl) (hdb : (x == ("__debug__" : Str)) = false := by decide) (he : starEach (e :: es) X.env = (false, eval e X.env) :: starEach es X.env := by rfl) (hpl : (backTo pos (starEach es X.env)).any (·.1) = false := by rfl) :
    PD X y (.Call (.Name x p) (e :: es) [] pos) (rCall y spec ta) := by
  have pe : PE X (.Call (.Name x p) (e :: es) [] pos) (tCallS (toSp X.K spec) (WE y.W) (lA X.K y (e :: es).length ta)) := by
    refine ⟨fun pins s σ H Q I h => ?_⟩
    refine wpAny_Call_Name_kw (ld_glob I hg hm ?_ hdb)
    refine PySem.W.callWith_K (h₀ := X.base) I.ok.mod.kin hk (thn (ha.run pos pins s σ H _ I h) fun us s1 ⟨vs, H1, I1, r, q⟩ => ⟨I1.kIn, ?_⟩) he hpl
    have hl : us.length = ps.length := by rw [← r.length]; exact G.size _ _ _ _ q
    have b := hb s1 us I1.kIn (by rw [List.append_nil]; exact hl)
    rw [List.append_nil] at b
    refine wpAny_call (codeAny_mono (G.go X.A X.stack s1 H1 ⟨us, []⟩ us vs Q _ hz hr I1.env0 b r q) fun r s' hq => ?_)
    cases r with
    | error e => exact passAt tk σ pins H1 s1 e s' I1 hq
    | ok fl =>
      cases fl with
      | ret u => exact I1.after hq
      | next => exact False.elim hq
      | brk => exact False.elim hq
      | cont => exact False.elim hq
  exact PD.of pe fun σ H Q h => by
    obtain ⟨ρ, S, R, sr, so, h, k⟩ := h
    exact ⟨ρ, S, _, sr, so, h, fun ds S1 vs H1 g1 dvs hn h1 => ⟨ds, S1, R, _, dvs, g1.ok, h1, fun d S2 v H2 g2 dv q => k d S2 v H2 (g1.trans g2) dv q, fun C d S2 dx w H2 g2 e dw q => (so.go g1).xo C d ρ S2 dx w σ H2 g2 (sr.go (g1.trans g2)) e dw q⟩⟩
/-! ### d.get(k, x) -/
def rDGet2 (td ti tx : RE) : RE := fun ρ S Q => td ρ S fun o S1 => (∃ a kvs, o = .ref a ∧ S1 a = some (.dK kvs)) ∧ ti ρ S1 fun k S2 => tx ρ S2 fun z S3 => isD S3 o k fun _ kvs key => Q ((dval kvs key).getD z) S3
theorem pd_dget2 {o e f : Expr} {apos cpos : Pos} {td ti tx : RE} (hu : X.A.units + 1 < cLine) (ho : PD X y o td) (he : PD X y e ti) (hf : PD X y f tx) (m : M2 X o "get" apos e f cpos) : PD X y (.Call (.Attribute o "get" apos) [e, f] [] cpos) (rDGet2 td ti tx) :=
  PD.of (pe_dget2 hu ho he hf m) fun σ H Q h => by
    obtain ⟨ρ, S, R, sr, so, h, k⟩ := h
    refine ⟨ρ, S, _, sr, so, h, fun d S1 v H1 g1 dv h1 => ?_⟩
    obtain ⟨⟨a, kvs, rfl, e1⟩, h1⟩ := h1
    cases (show v = V.ref a from dv)
    obtain ⟨vs, e2, r2⟩ := g1.ok a _ e1
    refine ⟨a, rfl, .inl ⟨vs, .inl e2⟩, ρ, S1, _, sr.go g1, so.go g1, h1, fun z S2 w H2 g2 dw h2 => ⟨ρ, S2, _, (sr.go g1).go g2, (so.go g1).go g2, h2, fun z2 S3 w2 H3 g3 dw2 h3 => ?_⟩⟩
    obtain ⟨b, kvs3, vs3, key, ea, _, e3, r3, rfl, h4⟩ := isD_of g3.ok (o := .ref a) (v := .ref a) rfl (DV.go g3 _ _ dw) h3
    cases ea
    refine ⟨_, DGet.k e3, ?_⟩
    have gA := (g1.trans g2).trans g3
    obtain ⟨rv1, rv2⟩ := r3.val key
    cases hd : dval kvs3 key with
    | none =>
      rw [hd] at h4 rv1
      have : valV vs3 key = none := by
        cases q : valV vs3 key with
        | none => rfl
        | some _ => rw [q] at rv1; cases rv1
      rw [this]
      exact k z2 S3 w2 H3 gA dw2 h4
    | some d =>
      rw [hd] at h4
      obtain ⟨u, hu, ru⟩ := rv2 d hd
      rw [hu]
      exact k d S3 u H3 gA ru h4
end
def dSetD : RSet := fun o i v S R => isD S o i fun a kvs key => kvs.length < sizeLine ∧ R (DL.sup S a (.dK (dput kvs key v)))
theorem sd_dict {X : Cx} (hu : X.A.units + 1 < cLine) : PSet X (lset X.K dSetD) := by
  intro pins s σ H o i v ov iv u Q I ro ri rv h
  obtain ⟨x, k, d, S, R, dx, dk, dv, so, h, c⟩ := h
  refine set_dict hu pins s σ H o i v ov iv u Q I ro ri rv ?_
  obtain ⟨a, kvs, vs, key, rfl, e0, e1, r, rfl, hl, h⟩ := isD_of so dx dk h
  exact ⟨a, _, rfl, DPut.k e1 (by rw [← r.length]; exact hl), c _ _ (Go.setDK so e0 (r.put key dv)) h⟩
/-! ### try with several clauses -/
def wAsM (K : PySem.W.Frag) (i : Nat) (Wout : WX) (D : Ends) : List (Value × TS) → WX
  | [] => Wout
  | (c, ts) :: r => fun cls d σ H => ∃ b, PySem.W.exmOne K cls c = some b ∧ (b = true → ∃ C dx, cls = .ref C ∧ d = some dx ∧ ∀ a, H a = none → ts { nx := fun σ' H' => D.nx (σ'.set i none) H', rt := D.rt, bk := fun σ' H' => D.bk (σ'.set i none) H', ct := fun σ' H' => D.ct (σ'.set i none) H' } (σ.set i (some (.ref a))) (upd H a (XO a C dx))) ∧
    (b = false → wAsM K i Wout D r cls d σ H)
inductive HdsT (X : Cx) (n : Str) : List ExceptHandler → List (Value × TS) → Prop
  | nil : HdsT X n [] []
  | cons {x : Str} {c : Value} {ts : TS} {b₀ : Stmt} {suite : List Stmt} {np pos' : Pos} {hds : List ExceptHandler} {l : List (Value × TS)} (hc : Names X x c)
      (hsu : ∀ (a : Addr) (pn : List (Addr × Obj)), PSs (X.suite a pn) (b₀ :: suite) ts) (r : HdsT X n hds l) :
      HdsT X n (.ExceptHandler (some (.Name x np)) (some n) (b₀ :: suite) pos' :: hds) ((c, ts) :: l)
section
variable {X : Cx} {pins : List (Addr × Obj)} {σ : L2.St} {H : Hp} {s : Shared}
variable {n : Str} {i : Nat} {body : List Stmt} {h₀ : ExceptHandler} {hds : List ExceptHandler} {l : List (Value × TS)} {pos : Pos} {tb : WX → TS} {Wout : WX}
theorem ps_try_asM (hs : X.stack = X.env :: X.outer) (hf : X.env.frame = some X.env.locals) (hex : X.ex = []) (hN : X.N.Nodup) (hi : X.N[i]? = some n) (hln : X.env.kindOf n = some .local) (tk : Takes X Wout)
    (hb : ∀ (W : WX) (pn : List (Addr × Obj)) (xe : Value → Shared → Prop), Takes (X.tr pn xe) W → PassesOwn (model X.prog X.w) X.A X.env xe → PSs (X.tr pn xe) body (tb W))
    (hh : HdsT X n (h₀ :: hds) l) :
    PS X (.Try body (h₀ :: hds) [] [] pos) (fun D σ H => tb (wAsM X.K i Wout D l) D σ H) := by
  refine ⟨fun pins s σ H D I h => ?_⟩
  have ok := I.ok
  have hfr : X.A.frames = some (X.env :: X.outer) := by rw [ok.frames, hs]
  have hloc : Loc X.env.scope n := .inl hln
  refine wpAny_Try_except ?_
  refine wpAny_mono ((hb (wAsM X.K i Wout D l) (X.pn ++ pins) (fun e s₁ => wpAny (model X.prog X.w) X.A (noteFrame e X.env) (fun _ s₂ => wpAny (model X.prog X.w) X.A (setFlight e none) (fun _ s₃ =>
    wpAny (model X.prog X.w) X.A (handleBy e X.env (h₀ :: hds)) (SP X pins D) X.xe s₃) X.xe s₂) X.xe s₁) (fun u s' xx => ?_) PassesOwn.looking).run [] s σ H D (I.toTry _) h) (fun f s1 hsp => ?_) (fun e s1 he => he)
  · -- the catch
    obtain ⟨a, B, sI, pins', σ', H', cls, d, rfl, J', nb, up, sky, na, os, ag, w⟩ := xx
    have J : Inv X pins σ' H' sI := J'.ofTry ok
    have sky' : Sky B (X.env :: X.outer) a (Zc cls d) X.env.locals s'.heap := by rw [← hs]; exact sky
    show wpAny (model X.prog X.w) X.A (noteFrame (.ref a) X.env) _ _ _
    refine Sky.land Zc.steady hfr hf sky' fun h3 fl3 up3 => ?_
    have J3 : Inv X pins σ' H' { s' with heap := h3 } := J.landed nb fl3.1 (up.trans up3) os ag
    obtain ⟨oe3, vs3, he3, hz3, hd3⟩ := fl3.there
    have notFr : ∀ {h : Heap} {o : Obj} {vs : Array Value}, h.FunFrames B (X.env :: X.outer) → h.get? a = some o → o.data = .fields vs → a ∉ frs (X.env :: X.outer) := fun {h o vs} ff e dd hm => by
      obtain ⟨_, o', e', hnf⟩ := ff.mem hm
      rw [e] at e'; cases e'
      exact hnf _ dd
    have nfr := notFr fl3.2.2.1 he3 hd3
    have nL : a ≠ X.env.locals := fun z => nfr (List.mem_filterMap.mpr ⟨X.env, List.mem_cons_self, by rw [hf, z]⟩)
    have nF : a ∉ X.fs := fun hm => by
      obtain ⟨e, he, q⟩ := List.mem_filterMap.mp hm
      exact nfr (List.mem_filterMap.mpr ⟨e, List.mem_cons_of_mem _ he, q⟩)
    have nI : sI.heap.get? a = none := by
      cases e : sI.heap.get? a with
      | none => rfl
      | some o =>
        have q := nb a o e (by rw [hs]; exact nfr)
        rw [fl3.2.1] at q
        cases q
    have n0 : X.s_0.heap.get? a = none := by
      cases e : X.s_0.heap.get? a with
      | none => rfl
      | some o =>
        obtain ⟨o', q⟩ := J.base.there a o e (by rw [hex]; exact fun z => nomatch z)
        rw [nI] at q
        cases q
    have nP : ∀ p ∈ X.pn ++ pins, p.1 ≠ a := fun p hp z => by
      have q := (J.pin p hp).1
      rw [z, nI] at q
      cases q
    have S3 := J3.suite he3 hd3 na nL nF
    have go : ∀ {hds' : List ExceptHandler} {l' : List (Value × TS)}, HdsT X n hds' l' → wAsM X.K i Wout D l' cls d σ' H' →
        wpAny (model X.prog X.w) X.A (handleBy (.ref a) X.env hds') (SP X pins D) X.xe { s' with heap := h3 } := by
      intro hds' l' hk
      induction hk with
      | nil =>
        intro w
        refine wpAny_handleBy_nil ?_
        obtain ⟨k1, k2, k3, oe, vs, T, oT, ts', he, hz, hd, h1, hr⟩ := id fl3
        unfold PySem.passOn
        refine wpAny_bind (wpAny_field he hd h1 ?_)
        rw [if_neg (show ¬ ((Value.ref T == Value.none) = true) from by simp)]
        have fin : wpAny (model X.prog X.w) X.A (setFlight (.ref a) X.env.frame) (fun _ s4 => wpAny (model X.prog X.w) X.A (throw (.ref a) : Sem Flow) (SP X pins D) X.xe s4) X.xe { s' with heap := h3 } := by
          rw [hf]
          refine HandSPX.setFlight_upZ fl3 fun h4 hh4 up4 => wpAny_throw (tk _ _ ?_)
          exact ⟨a, B, sI, pins, σ', H', cls, d, rfl, J, nb, (up.trans up3).trans up4, .inr (.inr (by rw [hs]; exact hh4)), na, os, ag, w⟩
        first
          | exact wpAny_bind (wpAny_pure (wpAny_bind fin))
          | exact wpAny_bind fin
      | @cons x c ts b₀ suite np pos' hds2 l2 hc hsu r ih =>
        intro w
        obtain ⟨b, hb1, hyes, hno⟩ := w
        refine wpAny_handleBy_cons (codeAny_handlers_test ?_) (by intro q; cases q)
        have LT : PySem.W.Looks (model X.prog X.w) h3 (typeOf (.ref a)) cls := fun A Q E s k q => wpAny_typeOf_ref (k _ _ he3) (by rw [hz3.1]; exact q)
        have LM := PySem.W.exm_one (M := model X.prog X.w) (J3.kIn) LT hb1
        have test : ∀ {Q : Value → Shared → Prop} {E : Value → Shared → Prop}, Q c { s' with heap := h3 } → wpAny (model X.prog X.w) (X.A.mark (some (.ref a))) (eval (.Name x np) X.env) Q E { s' with heap := h3 } := fun {Q E} q => by
          obtain ⟨hg, hdbg, hm | ⟨hm, hv, hnn⟩⟩ := hc
          · exact ld_glob (X := X.suite a ((a, oe3) :: (X.pn ++ pins))) S3 hg hm q hdbg
          · exact ld_blt (X := X.suite a ((a, oe3) :: (X.pn ++ pins))) S3 hg hm hv q hnn hdbg
        refine test (LM.here ?_)
        cases b with
        | true =>
          refine codeAny_handlers_suite_as ?_
          refine HandSPX.lands_againZ fl3 fun h4 fl4 up4 => ?_
          have J4 : Inv X pins σ' H' { s' with heap := h4 } := J.landed nb fl4.1 ((up.trans up3).trans up4) os ag
          obtain ⟨oe4, vs4, he4, hz4, hd4⟩ := fl4.there
          obtain ⟨C, dx, rfl, rfl, hts⟩ := hyes rfl
          have S4 := inv_suiteT (inv_track J4 n0 na he4 hz4 hd4 nL nP) a
          refine store_ok (X := X.suite a (X.pn ++ pins)) (v := .ref a) S4 hN hi hloc rfl (fun s5 S5 => ?_) (.inr hln)
          refine wpAny_mono ((hsu a (X.pn ++ pins)).run [] s5 _ _ _ S5 (hts a na)) (fun f s6 hsp => ?_) (fun _ _ z => False.elim z)
          have end_ : ∀ {σ6 : L2.St} {H6 : Hp} {Q : Shared → Prop}, Inv (X.suite a (X.pn ++ pins)) [] σ6 H6 s6 → (∀ s7, Inv X pins (σ6.set i none) H6 s7 → Q s7) →
              wpAny (model X.prog X.w) X.A (do bindName X.env n .none; unbindBehindTheSuite X.env n pos') (fun _ s7 => Q s7) X.xe s6 := fun {σ6 H6 Q} S6 hq => gone_ok (inv_unsuiteT S6 ok) hN hi hln hq
          cases f with
          | next =>
            obtain ⟨σ6, H6, S6, q6⟩ := hsp
            exact end_ S6 fun s7 J7 => ⟨_, _, J7, q6⟩
          | brk =>
            obtain ⟨σ6, H6, S6, q6⟩ := hsp
            exact end_ S6 fun s7 J7 => ⟨_, _, J7, q6⟩
          | cont =>
            obtain ⟨σ6, H6, S6, q6⟩ := hsp
            exact end_ S6 fun s7 J7 => ⟨_, _, J7, q6⟩
          | ret u =>
            obtain ⟨v6, σ6, H6, S6, r6, q6⟩ := hsp
            exact end_ S6 fun s7 J7 => ⟨_, _, _, J7, r6, q6⟩
        | false => exact ih (hno rfl)
    exact go hh w
  · cases f with
    | next =>
      obtain ⟨σ', H', J', q⟩ := hsp
      exact wpAny_execs_nil ⟨σ', H', J'.ofTry ok, q⟩
    | brk =>
      obtain ⟨σ', H', J', q⟩ := hsp
      exact ⟨σ', H', J'.ofTry ok, q⟩
    | cont =>
      obtain ⟨σ', H', J', q⟩ := hsp
      exact ⟨σ', H', J'.ofTry ok, q⟩
    | ret u =>
      obtain ⟨v, σ', H', J', r, q⟩ := hsp
      exact ⟨v, σ', H', J'.ofTry ok, r, q⟩
end
def dAsM (K : PySem.W.Frag) (i : Nat) (yo : DWX) (E : DEnds) : List (Value × RS) → DWX
  | [] => yo
  | (c, ts) :: r => fun C d ρ S => ∃ b, PySem.W.exmOne K (.ref C) c = some b ∧ IFB b (ts (goneE i E) (ρ.set i (some (.exc C d))) S) (dAsM K i yo E r C d ρ S)
def rTryM (K : PySem.W.Frag) (i : Nat) (yo : DWX) (l : List (Value × RS)) (tb : WX → DWX → RS) : RS := fun E ρ S => ∀ W, tb W (dAsM K i yo E l) E ρ S
inductive HdsD (X : Cx) (n : Str) : List ExceptHandler → List (Value × RS) → Prop
  | nil : HdsD X n [] []
  | cons {x : Str} {c : Value} {ts : RS} {b₀ : Stmt} {suite : List Stmt} {np pos' : Pos} {hds : List ExceptHandler} {l : List (Value × RS)} (hc : Names X x c)
      (hsu : ∀ (a : Addr) (pn : List (Addr × Obj)), PDSs (X.suite a pn) y0 (b₀ :: suite) ts) (r : HdsD X n hds l) :
      HdsD X n (.ExceptHandler (some (.Name x np)) (some n) (b₀ :: suite) pos' :: hds) ((c, ts) :: l)
theorem HdsD.toT {X : Cx} {n : Str} {hds : List ExceptHandler} {l : List (Value × RS)} (h : HdsD X n hds l) : HdsT X n hds (l.map fun p => (p.1, lS X.K y0 p.2)) := by
  induction h with
  | nil => exact .nil
  | cons hc hsu r ih => exact .cons hc hsu ih
section
variable {X : Cx} {y : DXw} {n : Str} {i : Nat} {body : List Stmt} {h₀ : ExceptHandler} {hds : List ExceptHandler} {l : List (Value × RS)} {pos : Pos} {tb : WX → DWX → RS}
theorem pd_tryM (i : Nat) (hs : X.stack = X.env :: X.outer) (hf : X.env.frame = some X.env.locals) (hex : X.ex = []) (hN : X.N.Nodup) (hi : X.N[i]? = some n) (hln : X.env.kindOf n = some .local) (tk : Takes X y.W)
    (hb : ∀ (W : WX) (d : DWX) (pn : List (Addr × Obj)) (xe : Value → Shared → Prop), Takes (X.tr pn xe) W → PDSs (X.tr pn xe) ⟨W, d⟩ body (tb W d))
    (hh : HdsD X n (h₀ :: hds) l) :
    PDS X y (.Try body (h₀ :: hds) [] [] pos) (rTryM X.K i y.d l tb) := by
  refine PDS.of (ps_try_asM (tb := fun W D σ H => ∃ d, lS X.K ⟨W, d⟩ (tb W d) D σ H) hs hf hex hN hi hln tk (fun W pn xe tk' _ => ⟨fun pins s σ H D I ⟨d, q⟩ => (hb W d pn xe tk').run pins s σ H D I q⟩) hh.toT) fun D σ H h => ?_
  obtain ⟨ρ, S, E, sr, so, h, eo⟩ := h
  refine ⟨dAsM X.K i y.d E l, ρ, S, E, sr, ⟨so.so, fun C d ρ' S' dx w σ' H' g sr' e dv hd => ?_⟩, h _, eo⟩
  clear h hh
  induction l with
  | nil => exact so.xo C d ρ' S' dx w σ' H' g sr' e dv hd
  | cons q l ih =>
    obtain ⟨c, ts⟩ := q
    obtain ⟨b, hb1, hi1⟩ := hd
    obtain ⟨h1, h2⟩ := hi1.of
    refine ⟨b, hb1, fun z => ⟨C, dx, rfl, rfl, fun a ha => ?_⟩, fun z => ih (h2 z)⟩
    have gN := Go.new (K := X.K) (o := XO a C dx) g.ok ha
    refine ⟨ρ'.set i (some (.exc C d)), S', goneE i E, (sr'.go gN).set (dv_exc upd_same (by rw [upd_ne (ne_of_none e ha)]; exact e) (DV.go gN _ _ dv)) i, sx0 gN.ok, h1 z, ?_⟩
    have gA := g.trans gN
    exact ⟨fun ρ2 S2 σ2 H2 g2 sr2 q => eo.nx _ _ _ _ (gA.trans g2) (sr2.gone i) q, fun d2 S2 v2 H2 g2 dv2 q => eo.rt _ _ _ _ (gA.trans g2) dv2 q, fun ρ2 S2 σ2 H2 g2 sr2 q => eo.bk _ _ _ _ (gA.trans g2) (sr2.gone i) q, fun ρ2 S2 σ2 H2 g2 sr2 q => eo.ct _ _ _ _ (gA.trans g2) (sr2.gone i) q⟩
end
end DL
set_option Elab.async false
set_option linter.all false
set_option maxRecDepth 100000
set_option maxHeartbeats 4000000
/-! DN2: tuple * int, also none at all. -/
namespace DL
open PySem PySem.Spec PyProof.Rows L2 RZ
theorem tuple_mul0 (l : Addr) (items : Array Value) (n : Nat) (dd : Option Addr) (sl : Array (Option Value)) (u : Tok) (c1 : (items.isEmpty || (0 : Int) == 1) = false) :
    Meets (Builtin.«tuple.__mul__» ⟨[.ref l, .int 0 u], []⟩) (fun _ R s => s.heap.get? l = some { cls := .type "tuple", dict := dd, data := .seq items n, slots := sl } ∧
      R (.ok (.ret (Value.ref s.heap.objs.size))) { s with heap := s.heap.push { cls := Value.type "tuple", data := Data.seq #[] }, toks := s.toks }) :=
  .of_wp fun prog w A R s h => by
    obtain ⟨hp, g, d, tk, os⟩ := s
    obtain ⟨hl, h⟩ := h
    have f1 := AutoSeq1.idx_int
    wp_walk using wpAny_loadPart' hl
    repeat (first
      | (refine wpAny_ite_false (decide_eq_false (by rw [c1]; exact Bool.false_ne_true)) ?_; wp_walk using wpAny_loadPart' hl)
      | (refine wpAny_ite_true (decide_eq_true (by simp)) ?_; wp_walk using wpAny_loadPart' hl))
    exact ⟨_, rfl, h⟩
section
variable {X : Cx}
theorem op_repT0 : OpR X (binaryOp .Mult) (fun x y H Q => ∃ l xs, x = .ref l ∧ y = .int 0 ∧ SqT X.K H l xs ∧ xs ≠ [] ∧ ∀ p, H p = none → Q (.ref p) (upd H p (.tup []))) := by
  intro pins s σ H x y v u Q I rx ry h
  obtain ⟨l, xs, rfl, rfl, hT, hne, q⟩ := h
  cases rx
  obtain ⟨t, rfl⟩ := ry
  obtain ⟨its, r, ⟨⟨cls, dd, data, sl⟩, ho, hc, n, hd⟩, hs⟩ := I.tuple hT
  simp only at hc hd
  subst hc hd
  have hle : its.length = xs.length := r.length.symm
  have hn : its ≠ [] := fun e => hne (by
    rw [e] at hle
    exact List.eq_nil_of_length_eq_zero hle.symm)
  have c1 : (its.toArray.isEmpty || (0 : Int) == 1) = false := by
    cases its with
    | nil => exact absurd rfl hn
    | cons a b => rfl
  refine wpAny_binaryOp_repeat_ref (T := "tuple") (U := "int") (by decide) ⟨_, ho, rfl⟩ (fun s' => typeIs_int s' 0 t) noFill_tuple_mul F.fills_int_mul F.slot_int_rmul repeat_tuple F.slot_int_index.lookup
    (call_meets F.slot_int_rmul (typeIs_int s 0 t) F.entry_int_rmul (F.args_int_rmul_2 _ _) (int_rmul_tuple 0 t l its.toArray n dd sl)
      ⟨ho, rfl, ⟨_, ho, rfl⟩, call_meets F.slot_tuple_mul ⟨_, ho, rfl⟩ F.entry_tuple_mul (F.args_tuple_mul_2 _ _) (tuple_mul0 l its.toArray n dd sl t c1) ⟨ho, ?_⟩⟩)
  refine ⟨.ref s.heap.objs.size, _, I.laid (t' := s.toks) (o := .tup []) (fun b ob q => Heap.get?_push_of_some _ q) (Nat.le_refl _) ?_, rfl, q _ (I.hok.fresh (Nat.le_refl _))⟩
  exact ⟨by show 0 ≤ _; exact Nat.zero_le _, [], .nil, IsTup.new _ _⟩
def dMulT0 : ROp
  | .tup xs, .int k, S, R => xs ≠ [] ∧ 0 ≤ k ∧ k ≤ 1000 ∧ xs.length ≤ 1000 ∧ R (.tup (List.replicate k.toNat xs).flatten) S
  | _, _, _, _ => False
theorem od_mulT0 : OpR X (binaryOp .Mult) (lop X.K dMulT0) := by
  intro pins s σ H v w vv ww Q I rv rw' h
  obtain ⟨x, y, S, R, dx, dy, so, h, k⟩ := h
  cases x <;> cases y <;> first | exact False.elim h | skip
  case tup.int xs j =>
    obtain ⟨hne, h1, h2, hl, h⟩ := h
    by_cases hj : j = 0
    · subst hj
      obtain ⟨a, vs, rfl, q, r⟩ := dx
      cases (show w = V.int 0 from dy)
      refine op_repT0 pins s σ H _ _ vv ww Q I rv rw' ⟨a, vs, rfl, rfl, q.sq, fun z => hne ?_, fun p hp => ?_⟩
      · have := r.length
        rw [z] at this
        exact List.eq_nil_of_length_eq_zero this
      · have g := Go.new (K := X.K) (o := .tup []) so hp
        exact k (.tup _) S _ _ g ⟨p, _, rfl, .inl upd_same, DVs.nil⟩ h
    · exact od_mulT pins s σ H v w vv ww Q I rv rw' ⟨_, _, S, R, dx, dy, so, ⟨hne, by omega, h2, hl, h⟩, k⟩
end
end DL
set_option Elab.async false
set_option linter.all false
set_option maxRecDepth 100000
set_option maxHeartbeats 4000000
/-! DN3: dicts by nested tuples: d.get(k, x), walks over d.items(); displays with one computed int key. -/
namespace DL
open PySem PySem.Spec PyProof.Rows L2
section
variable {X : Cx} {y : DXw} {pins : List (Addr × Obj)} {σ : L2.St} {H : Hp} {s : Shared}
/-! ### d.get(k, x) -/
def tNGet2 (K : PySem.W.Frag) (td ty tx : TE) : TE := fun σ H Q => td σ H fun x H1 => (∃ a xs kvs, x = .ref a ∧ H1 a = some (TN a xs) ∧ DKN K H1 kvs xs) ∧ ty σ H1 fun y H2 => tx σ H2 fun z H3 => KeyAt K H3 x y fun _ _ xs k => Q ((xval xs k).getD z) H3
theorem pe_nget2 {o e f : Expr} {apos cpos : Pos} {td ty tx : TE} (hu : X.A.units + 64 < cLine) (ho : PE X o td) (he : PE X e ty) (hf : PE X f tx) (m : M2 X o "get" apos e f cpos) : PE X (.Call (.Attribute o "get" apos) [e, f] [] cpos) (tNGet2 X.K td ty tx) := by
  refine ⟨fun pins s σ H Q I h => ?_⟩
  refine wpAny_Call_method m.base m.few m.line PySem.F.plainAttrs_dict PySem.F.slot_dict_get PySem.F.type_dict_get (thn (ho.run pins s σ H _ I h) fun u s1 ⟨x, H1, I1, rx, ⟨a, xs, kvs, ex, e1, dk1⟩, q1⟩ => ?_)
  subst ex
  cases (show u = Value.ref a from rx)
  obtain ⟨us1, dd1, _, hd1, _⟩ := tn_open I1 e1 dk1
  refine ⟨dd1.typeIs, fun b q => ?_, ?_⟩
  · cases q
    obtain ⟨ob, _, _, h1, h2, _⟩ := dd1
    exact ⟨ob, h1, h2.2.1⟩
  rw [m.trees]
  refine Calls.callWith_builtin rfl (Calls.evalArgs_plain (Calls.spliced_cons (thn (he.run pins s1 σ H1 _ I1 q1) fun iv s2 ⟨y, H2, I2, ry, q2⟩ =>
    Calls.spliced_cons (thn (hf.run pins s2 σ H2 _ I2 q2) fun fv s3 ⟨z, H3, I3, rz, a', b, xs3, kvs3, k, ea, ey, e3, dk, ko, kb, q3⟩ => Calls.spliced_nil ?_))))
  cases ea
  subst ey
  cases (show iv = Value.ref b from ry)
  obtain ⟨us, dd, px, hd, hl⟩ := tn_open I3 e3 dk
  refine call_meetsIn PySem.F.slot_dict_get dd.typeIs PySem.F.entry_dict_get (PySem.F.args_dict_get_3 _ _ _) (meetsH_dict_get_default (knd := nestedKind X.prog X.w) (d := a) (a := b) hd fv) ⟨room_nest hu, k, us, ⟨nest_is I3 k _ _ kb rfl, ko.dep⟩, dd, ?_⟩
  refine ⟨_, H3, I3.tok _, ?_, q3⟩
  obtain ⟨p1, p2⟩ := px.val k
  cases hx : xval xs3 k with
  | none =>
    rw [hx] at p1
    have : atKey us k = none := by
      cases q : atKey us k with
      | none => rfl
      | some _ => rw [q] at p1; cases p1
    rw [this]
    exact rz
  | some v =>
    obtain ⟨p, hp, rp⟩ := p2 v hx
    rw [hp]
    exact rp
def rNGet2 (td ti tx : RE) : RE := fun ρ S Q => td ρ S fun o S1 => (∃ a kvs, o = .ref a ∧ S1 a = some (.dN kvs)) ∧ ti ρ S1 fun k S2 => tx ρ S2 fun z S3 => isN S3 o k fun _ kvs key => Q ((nval kvs key).getD z) S3
theorem pd_nget2 {o e f : Expr} {apos cpos : Pos} {td ti tx : RE} (hu : X.A.units + 64 < cLine) (ho : PD X y o td) (he : PD X y e ti) (hf : PD X y f tx) (m : M2 X o "get" apos e f cpos) : PD X y (.Call (.Attribute o "get" apos) [e, f] [] cpos) (rNGet2 td ti tx) :=
  PD.of (pe_nget2 hu ho he hf m) fun σ H Q h => by
    obtain ⟨ρ, S, R, sr, so, h, k⟩ := h
    refine ⟨ρ, S, _, sr, so, h, fun d S1 v H1 g1 dv h1 => ?_⟩
    obtain ⟨⟨a, kvs, rfl, e1⟩, h1⟩ := h1
    cases (show v = V.ref a from dv)
    obtain ⟨xs, e2, n2, r2⟩ := g1.ok a _ e1
    refine ⟨⟨a, xs, kvs, rfl, e2, r2⟩, ρ, S1, _, sr.go g1, so.go g1, h1, fun z S2 w H2 g2 dw h2 => ⟨ρ, S2, _, (sr.go g1).go g2, (so.go g1).go g2, h2, fun z2 S3 w2 H3 g3 dw2 h3 => ?_⟩⟩
    obtain ⟨a', b, kvs3, xs3, key, ea, rfl, _, e3, r, ko, kb, h4⟩ := isN_of g3.ok (o := .ref a) (v := .ref a) rfl (DV.go g3 _ _ dw) h3
    cases ea
    refine ⟨a, b, xs3, kvs3, key, rfl, rfl, e3, r, ko, kb, ?_⟩
    have gA := (g1.trans g2).trans g3
    obtain ⟨rv1, rv2⟩ := r.val key
    cases hd : nval kvs3 key with
    | none =>
      rw [hd] at h4 rv1
      have : xval xs3 key = none := by
        cases q : xval xs3 key with
        | none => rfl
        | some _ => rw [q] at rv1; cases rv1
      show Q ((xval xs3 key).getD w2) H3
      rw [this]
      exact k z2 S3 w2 H3 gA dw2 h4
    | some d =>
      rw [hd] at h4
      obtain ⟨u, hu', ru⟩ := rv2 d hd
      show Q ((xval xs3 key).getD w2) H3
      rw [hu']
      exact k d S3 u H3 gA ru h4
end
/-! ### walks over d.items() -/
/-- the very object at d -/
def FX (d : Addr) (o : Obj) : HO := .ext fun h => h.get? d = some o
theorem fx_ok {P : Program} {w : World} {H : Hp} {h : Heap} {d : Addr} {o : Obj} (e : h.get? d = some o) : ObjOk P w H h d (FX d o) := ⟨e, ⟨o, e⟩, fun _ _ z k => k o z⟩
theorem fx_at {P : Program} {w : World} {H : Hp} {h : Heap} {d : Addr} {o : Obj} (k : HOk P w H h) (e : H d = some (FX d o)) : h.get? d = some o := (show _ ∧ _ from k d _ e).1
def ItN (d : Addr) (o : Obj) (xs : List (NestedKey × Addr × V)) : It :=
  ⟨fun i H => H d = some (FX d o) ∧ i < xs.length, fun i H x H' => ∃ T k b v, xs[i]? = some (k, b, v) ∧ x = .ref T ∧ H T = none ∧ H' = upd H T (.tup [.ref b, v]), fun i H => H d = some (FX d o) ∧ xs.length ≤ i⟩
theorem px_get {xs : List (NestedKey × Addr × V)} {us : List (NestedKey × Addr × Value)} (h : PX xs us) {i : Nat} {x : NestedKey × Addr × V} (e : xs[i]? = some x) : ∃ u, us[i]? = some u ∧ x.1 = u.1 ∧ x.2.1 = u.2.1 ∧ RelV x.2.2 u.2.2 := by
  induction h generalizing i with
  | nil => cases e
  | @cons a b as bs q _ ih =>
    cases i with
    | zero => cases e; exact ⟨b, rfl, q.1, q.2.1, q.2.2⟩
    | succ i =>
      rw [List.getElem?_cons_succ] at e
      obtain ⟨u, h1, h2⟩ := ih e
      exact ⟨u, by rw [List.getElem?_cons_succ]; exact h1, h2⟩
section
variable {P : Program} {w : World} {K : PySem.W.Frag} {d : Addr} {o : Obj} {es : Array DictEntry} {ep : Nat}
theorem turn_itemsN {P' : Program} {w' : World} {xs : List (NestedKey × Addr × V)} {us : List (NestedKey × Addr × Value)} {elts : List Expr} {kk : Nat} {tpos : Pos} (it : Addr) (hx : o.ExactDict) (hod : o.data = .dict es ep) (hes : es.toList = us.map (entryOfKey (nestedKind P' w'))) (px : PX xs us) :
    Turn P w K (.Tuple elts kk tpos) (ItN d o xs) [it] it (fun i h => ∃ ok ov, IsItemIter h it d i es.size ep ok ov) where
  mem := by simp
  obj := fun i h st b hb => by
    have e : b = it := by simpa using hb
    subst e
    obtain ⟨ok, ov, e⟩ := st
    exact ⟨_, e, fun v z => nomatch z⟩
  keep := fun i h h' st k => let ⟨ok, ov, e⟩ := st; ⟨ok, ov, k it (by simp) _ e⟩
  item := by
    intro X hP hw hK hc i pins s σ H E I hf st hg
    subst hP hw hK
    obtain ⟨hd, hi⟩ := hg
    have ho := fx_at I.hok hd
    have hl : es.size = xs.length := by rw [← Array.length_toList, hes, List.length_map, Paired.length px]
    obtain ⟨⟨k, b, v⟩, hkv⟩ : ∃ p, xs[i]? = some p := ⟨xs[i], List.getElem?_eq_getElem hi⟩
    obtain ⟨u, hu, k1, k2, ru⟩ := px_get px hkv
    have hie : i < es.size := by omega
    have hent : es[i] = entryOfKey (nestedKind P' w') u := by
      have : es.toList[i]? = some (entryOfKey (nestedKind P' w') u) := by rw [hes, List.getElem?_map, hu]; rfl
      rw [Array.getElem?_toList, Array.getElem?_eq_getElem hie] at this
      exact Option.some.inj this
    obtain ⟨ok, ov, he⟩ := st
    have hlt : it < s.heap.objs.size := Heap.lt_size he
    refine wpAny_pyNext_items_item_raw he ⟨o, ho, hx, hod⟩ hie fun h' hout hT hz hk => ?_
    rw [hent] at hT hout
    refine ⟨_, rfl, wpAny_letOwnedTupleGo_items (s := { s with heap := h' }) hout fun h'' he' sb => ?_⟩
    have hT2 : h''.get? s.heap.objs.size = some { cls := .type "tuple", data := .seq #[.ref u.2.1, u.2.2] } := (sb.2 _ (Nat.ne_of_gt hlt)).trans hT
    have new : ObjOk X.prog X.w (upd H s.heap.objs.size (.tup [.ref b, v])) h'' s.heap.objs.size (.tup [.ref b, v]) :=
      ⟨by show 2 ≤ sizeLine; decide, [.ref u.2.1, u.2.2], .cons (by show Value.ref u.2.1 = Value.ref b; rw [← k2]) (.cons ru .nil), ⟨_, hT2, rfl, _, rfl⟩⟩
    have I1 : Inv X pins σ (upd H s.heap.objs.size (.tup [.ref b, v])) { s with heap := h'' } :=
      I.turnedNew (t' := s.toks) (ch := [it]) (fun c ob hb e => (sb.2 c (by simpa using hb)).trans (hk c ob (by simpa using hb) e)) hf (Nat.le_refl _) new
    refine ⟨.ref s.heap.objs.size, _, I1, rfl, ⟨_, k, b, v, hkv, rfl, I.hok.fresh (Nat.le_refl _), rfl⟩, ⟨_, _, he'⟩, fun c hb => ?_⟩
    have e : c = it := by simpa using hb
    rw [e, upd_ne (Nat.ne_of_lt hlt)]
    exact (hf it (by simp)).1
  done := by
    intro X hP hw hK hc i pins s σ H E I hf st hg
    subst hP hw hK
    obtain ⟨hd, hi⟩ := hg
    obtain ⟨f0, f1, f2, f3, f4, f5⟩ := hf it (by simp)
    have ho := fx_at I.hok hd
    have hl : es.size = xs.length := by rw [← Array.length_toList, hes, List.length_map, Paired.length px]
    obtain ⟨ok, ov, he⟩ := st
    exact wpAny_pyNext_items_end_raw (I.ok.hd hc) he ⟨o, ho, hx, hod⟩ (by omega) fun h' eb => ⟨rfl, I.turned (t' := s.toks) (fun b ob hb e => eb b ob hb e) f0 f1 f3 f4 f5⟩
  self := fun A i s Q E st h => let ⟨_, _, e⟩ := st; PySem.W.kcp_self e h
end
def iItemsN (K : PySem.W.Frag) (td : TE) : TI := fun σ H R => td σ H fun x H1 => ∃ d xs kvs, x = .ref d ∧ H1 d = some (TN d xs) ∧ DKN K H1 kvs xs ∧ ∀ o, R (ItN d o xs) (upd H1 d (FX d o))
theorem pi_itemsN {X : Cx} {e : Expr} {td : TE} {apos cpos : Pos} {elts : List Expr} {kk : Nat} {tpos : Pos} (he : PE X e td) (hbase : attributeBase e "items" X.env (eval e X.env) = eval e X.env := by rfl) (hline : (apos.endLine == cpos.line) = true := by rfl) :
    PI X (.Tuple elts kk tpos) (.Call (.Attribute e "items" apos) [] [] cpos) (iItemsN X.K td) := by
  refine ⟨fun pins s σ H R I h => ?_⟩
  refine wpAny_Call_method (T := "dict") (id := "dict.items") hbase rfl hline F.plainAttrs_dict F.slot_dict_items F.type_dict_items (thn (he.run pins s σ H _ I h) fun u s1 ⟨x, H1, I1, rx, d, xs, kvs, ex, e1, dk, q⟩ => ?_)
  subst ex
  cases (show u = Value.ref d from rx)
  obtain ⟨us, dd, px, hs, hl⟩ := tn_open I1 e1 dk
  obtain ⟨o, es, ep, ho, hx, hdat, hes, hdd⟩ := id dd
  refine ⟨dd.typeIs, fun b z => by cases z; exact ⟨o, ho, hx.2.1⟩, ?_⟩
  have I2 : Inv X pins σ (upd H1 d (FX d o)) s1 := d_write (h' := s1.heap) (t' := s1.toks) I1 (by rw [e1]; exact True.intro) (Heap.SameBut.refl d s1.heap) ⟨o, ho⟩ (fx_ok ho)
  have I3 : Inv X pins σ (upd H1 d (FX d o)) { s1 with heap := s1.heap.push { cls := .type "dict_items", data := .fields #[.ref d] } } := I2.kept (t' := s1.toks) fun b ob q => Heap.get?_push_of_some _ q
  have fin : wpAny (model X.prog X.w) X.A (pyIter (.ref s1.heap.objs.size)) (PIE X pins σ (.Tuple elts kk tpos) R) X.xe { s1 with heap := s1.heap.push { cls := .type "dict_items", data := .fields #[.ref d] } } :=
    wpAny_pyIter_items_raw (d := d) (es := es) (ep := ep) ⟨_, Heap.get?_push_size _ rfl, rfl, rfl⟩ ⟨o, Heap.get?_push_of_some _ ho, hx, hdat⟩ (pi_one (tk := s1.toks) I3 _ (turn_itemsN _ hx hdat hes px) ⟨.none, .none, Heap.get?_push_size _ rfl⟩ (q o))
  show wpAny _ _ (callWith cpos (.builtin "dict.items") [.ref d] [] []) _ X.xe s1
  exact method_meetsIn F.slot_dict_items F.entry_dict_items rfl (PySem.evalArgs_none ⟨rfl, dd.typeIs, F.args_dict_items_1 _, _, meets_dict_items_raw d hs, ⟨es, ep, o, ho, hx, hdat⟩, fin⟩)
/-! over plain values: the dict is given up -/
def rem (S : Sto) (a : Addr) : Sto := fun b => if b = a then none else S b
theorem Go.give {K : PySem.W.Frag} {H : Hp} {S : Sto} (h : SOk K H S) {p : Addr} {kvs : List (NestedKey × D)} (hp : S p = some (.dN kvs)) (o : HO) : Go K H S (upd H p o) (rem S p) := by
  obtain ⟨vs0, e0, n0, _⟩ := h p _ hp
  have co : CO p (TN p vs0) := .inr (.inr ⟨_, rfl, n0⟩)
  refine ⟨h, fun a c e => ?_, fun a q e z => ?_, fun a q e z => ?_⟩
  · unfold rem at e
    split at e
    · cases e
    · rename_i ha
      have := h a c e
      cases c with
      | lst xs => obtain ⟨ws, e1, r⟩ := this; exact ⟨ws, by rw [upd_ne ha]; exact e1, DVs.wr e0 co _ _ r⟩
      | dK kvs => obtain ⟨ws, e1, r⟩ := this; exact ⟨ws, by rw [upd_ne ha]; exact e1, DKs.wr e0 co r⟩
      | dN kvs => obtain ⟨ws, e1, n, r⟩ := this; exact ⟨ws, by rw [upd_ne ha]; exact e1, n, DKN.wr e0 co r⟩
  · rw [upd_ne (fun y => by rw [y, hp] at e; cases e)]
    exact z
  · unfold rem
    split
    · rfl
    · exact e
def itN (kvs : List (NestedKey × D)) : List D := kvs.map fun kv => .tup [ofN kv.1, kv.2]
theorem DKN.get {K : PySem.W.Frag} {H : Hp} {ds : List (NestedKey × D)} {xs : List (NestedKey × Addr × V)} (h : DKN K H ds xs) {i : Nat} {p : NestedKey × D} (e : ds[i]? = some p) : ∃ b v, xs[i]? = some (p.1, b, v) ∧ DV K H (ofN p.1) (.ref b) ∧ DV K H p.2 v := by
  induction h generalizing i with
  | nil => cases e
  | @cons k d b v ds vs _ k2 r _ ih =>
    cases i with
    | zero => cases e; exact ⟨b, v, rfl, k2, r⟩
    | succ i =>
      rw [List.getElem?_cons_succ] at e
      obtain ⟨b', v', h1, h2⟩ := ih e
      exact ⟨b', v', by rw [List.getElem?_cons_succ]; exact h1, h2⟩
theorem jok_itemsN {K : PySem.W.Frag} {H1 : Hp} {S1 : Sto} {d : Addr} {o : Obj} {kvs : List (NestedKey × D)} {xs : List (NestedKey × Addr × V)} (hs : S1 d = none) (hd : H1 d = some (FX d o)) (r : DKN K H1 kvs xs) : JOk K H1 S1 (ItN d o xs) (itN kvs) (fun _ => True) := by
  intro i H S g _
  have h2 := g.frame d _ hs hd
  have r2 := DKN.go g r
  refine ⟨fun x hx => ?_, fun hn => ⟨h2, ?_⟩⟩
  · unfold itN at hx
    rw [List.getElem?_map] at hx
    cases e : kvs[i]? with
    | none => rw [e] at hx; cases hx
    | some p =>
      rw [e] at hx
      cases (Option.some.inj hx)
      obtain ⟨b, v, e2, kb, dv⟩ := r2.get e
      refine ⟨⟨h2, (List.getElem?_eq_some_iff.mp e2).1⟩, fun w H' ⟨T, k, b', v', e3, ew, hT, eH⟩ => ?_⟩
      rw [e2] at e3
      cases (Option.some.inj e3)
      subst ew eH
      have g2 := Go.new (K := K) (o := .tup [.ref b, v]) g.ok hT
      exact ⟨g2, T, _, rfl, .inl upd_same, DVs.cons (DV.go g2 _ _ kb) (DVs.cons (DV.go g2 _ _ dv) DVs.nil)⟩
  · unfold itN at hn
    rw [List.getElem?_map] at hn
    rw [← DKN.length r]
    cases e : kvs[i]? with
    | none => rw [List.getElem?_eq_none_iff] at e; exact e
    | some p => rw [e] at hn; cases hn
section
variable {X : Cx} {y : DXw}
def rItemsN (td : RE) : RI := fun ρ S R => td ρ S fun o S1 => match o with
  | .ref a => ∃ kvs, S1 a = some (.dN kvs) ∧ R (itN kvs) (fun _ => True) (rem S1 a)
  | _ => False
theorem pdi_itemsN {e : Expr} {td : RE} {apos cpos : Pos} {elts : List Expr} {kk : Nat} {tpos : Pos} (he : PD X y e td) (hbase : attributeBase e "items" X.env (eval e X.env) = eval e X.env := by rfl) (hline : (apos.endLine == cpos.line) = true := by rfl) :
    PDI X y (.Tuple elts kk tpos) (.Call (.Attribute e "items" apos) [] [] cpos) (rItemsN td) := by
  refine PDI.of (pi_itemsN he hbase hline) fun σ H R h => ?_
  obtain ⟨ρ, S, Rd, sr, so, h, k⟩ := h
  refine ⟨ρ, S, _, sr, so, h, fun d S1 v H1 g dv h1 => ?_⟩
  cases d with
  | ref a =>
    cases (show v = V.ref a from dv)
    obtain ⟨kvs, e1, h1⟩ := h1
    obtain ⟨xs, e2, n2, r⟩ := g.ok a _ e1
    refine ⟨a, xs, kvs, rfl, e2, r, fun o => ?_⟩
    have g2 := Go.give g.ok e1 (FX a o)
    refine k _ _ _ _ _ (g.trans g2) (jok_itemsN (by unfold rem; rw [if_pos rfl]) upd_same (DKN.go g2 r)) h1
  | _ => exact False.elim h1
/-! ### {k: v} with a reckoned key -/
def rDispE (tk tv : RE) : RE := fun ρ S Q => ∀ p, S p = none → tk ρ (sup S p (.dK [])) fun kd S2 => ∃ i, kd = .int i ∧ tv ρ S2 fun d S3 => S3 p = some (.dK []) ∧ Q (.ref p) (sup S3 p (.dK [(.inl i, d)]))
theorem pd_dispE {pos : Pos} {ke v : Expr} {tk tv : RE} (hk : PD X y ke tk) (hv : PD X y v tv) : PD X y (.Dict [some ke] [v] pos) (rDispE tk tv) :=
  PD.of (pe_disp (pps_cons hk hv pps_nil) rfl rfl (by simp) (by simp)) fun σ H Q h => by
    obtain ⟨ρ, S, R, sr, so, h, kk⟩ := h
    intro p hp
    have g0 := Go.newDK (K := X.K) so.so hp .nil
    refine ⟨ρ, sup S p (.dK []), _, sr.go g0, so.go g0, h p (so.so.free hp), fun kd S2 wk H2 g2 dk h2 => ?_⟩
    obtain ⟨i, rfl, h2⟩ := h2
    cases (show wk = V.int i from dk)
    refine ⟨ρ, S2, _, (sr.go g0).go g2, (so.go g0).go g2, h2, fun d S3 w H3 g3 dv h3 => ?_⟩
    obtain ⟨e2, q⟩ := h3
    obtain ⟨vs, e3, r⟩ := g3.ok p _ e2
    cases r
    exact ⟨e3, [(.inl i, w)], rfl, by simp, kk (.ref p) _ _ _ (((g0.trans g2).trans g3).trans (Go.setDK g3.ok e2 (DKs.cons (k := .inl i) dv .nil))) rfl q⟩
end
end DL
set_option Elab.async false
set_option linter.all false
set_option maxRecDepth 100000
set_option maxHeartbeats 4000000
/-! DN4: x *= e of ints -/
namespace DL
open PySem PySem.Spec PyProof.Rows L2
section
variable {X : Cx} {y : DXw} {x : Str} {e : Expr} {te : RE} {p pos : Pos}
def ipM : TIp := fun x y H Q => ∃ i j, x = .int i ∧ y = .int j ∧ (CMulW i j ∨ CMul i j) ∧ Q (.int (i * j)) H
theorem ip_mul : PIp X .Mult ipM := by
  intro pins s σ H x y v u Q I r1 r2 h
  obtain ⟨i, j, e1, e2, hc, q⟩ := h
  subst e1; subst e2
  obtain ⟨t, rfl⟩ := r1
  obtain ⟨t', rfl⟩ := r2
  exact PyProof.Rows.imul_int ⟨.int _, H, I.tok _, ⟨_, rfl⟩, q⟩ (by rcases hc with c | c; exact c.ok; exact c.ok)
def rAugM (i : Nat) (te : RE) : RS := fun E ρ S => match ρ[i]? with
  | some (some (.int a)) => te ρ S fun d S1 => match d with
    | .int b => (CMulW a b ∨ CMul a b) ∧ E.nx (ρ.set i (some (.int (a * b)))) S1
    | _ => False
  | _ => False
theorem pd_augM (i : Nat) (hN : X.N.Nodup) (he : PD X y e te) (hi : X.N[i]? = some x := by rfl) (hx : Loc X.env.scope x := by first | exact Or.inl rfl | exact Or.inr rfl)
    (hf : X.fn x = true ∨ X.env.scope.names.lookup x = some .local := by first | exact .inl rfl | exact .inr rfl) : PDS X y (.AugAssign (.Name x p) .Mult e pos) (rAugM i te) := PDS.of (ps_aug hN hi hx he ip_mul hf) fun D σ H h => by
  obtain ⟨ρ, S, E, sr, so, h, eo⟩ := h
  unfold rAugM at h
  split at h
  · rename_i a ea
    obtain ⟨v, e1, q⟩ := sr.2 i _ ea
    cases (show v = V.int a from q)
    refine ⟨.int a, e1, ρ, S, _, sr, so, h, fun d S1 w H1 g dv hd => ?_⟩
    cases d with
    | int b =>
      cases (show w = V.int b from dv)
      exact ⟨a, b, rfl, rfl, hd.1, eo.nx _ S1 _ H1 g ((sr.go g).set (show DV X.K H1 (.int (a * b)) (.int (a * b)) from rfl) i) hd.2⟩
    | _ => exact False.elim hd
  · exact h.elim
end
end DL
set_option Elab.async false
set_option linter.all false
set_option maxRecDepth 100000
set_option maxHeartbeats 4000000
/-! DN5: sorted of a list of tuples of ints that ascends already. -/
namespace DL
open PySem PySem.Spec PyProof.Rows L2
def tupI (r : List Int) : D := .tup (r.map D.int)
theorem perm_dvs {K : PySem.W.Frag} {H : Hp} {ys xs : List V} (h : ys.Perm xs) : ∀ (R : List (List Int)), DVs K H (R.map tupI) xs → ∃ R' : List (List Int), R'.Perm R ∧ DVs K H (R'.map tupI) ys := by
  induction h with
  | nil => exact fun R r => ⟨R, List.Perm.refl R, r⟩
  | @cons x ys xs _ ih =>
    intro R r
    cases R with
    | nil => cases (show _ = [] from r)
    | cons a R =>
      obtain ⟨v, ws, e, r1, r2⟩ := r
      cases e
      obtain ⟨R', p, q⟩ := ih R r2
      exact ⟨a :: R', p.cons a, .cons r1 q⟩
  | swap x y l =>
    intro R r
    cases R with
    | nil => cases (show _ = [] from r)
    | cons a R =>
      obtain ⟨v, ws, e, r1, r2⟩ := r
      cases e
      cases R with
      | nil => cases (show _ = [] from r2)
      | cons b R =>
        obtain ⟨v, ws, e, r3, r4⟩ := r2
        cases e
        exact ⟨b :: a :: R, List.Perm.swap a b R, .cons r3 (.cons r1 r4)⟩
  | trans _ _ ih1 ih2 =>
    intro R r
    obtain ⟨R1, p1, q1⟩ := ih2 R r
    obtain ⟨R2, p2, q2⟩ := ih1 R1 q1
    exact ⟨R2, p2.trans p1, q2⟩
theorem dv_tupI {K : PySem.W.Frag} {H : Hp} {r : List Int} {v : V} (h : DV K H (tupI r) v) : TupI K H v r := by
  obtain ⟨a, vs, e, q, d⟩ := h
  cases d.ints
  exact ⟨a, e, q.sq⟩
section
variable {X : Cx}
def dSortedT : RCall := fun ds S Q => match ds with
  | [d] => ∃ (R : List (List Int)) (k : Nat) (B : Int), RdL S d (R.map tupI) ∧ R.length < 64 ∧ 1 ≤ k ∧ (∀ r ∈ R, r.length = k ∧ TS.Bd B r) ∧ R.Pairwise (fun x y => TS.code B x < TS.code B y) ∧ ∀ p, S p = none → Q (.ref p) (sup S p (.lst (R.map tupI)))
  | _ => False
theorem cd_sortedT : CallR X (.builtin "sorted") (lcl X.K dSortedT) := by
  intro pins s σ H vs us Q I rv h
  obtain ⟨ds, S, W, dv, so, h, k⟩ := h
  unfold dSortedT at h
  split at h
  · rename_i d
    obtain ⟨v, rfl, r⟩ := dvs1 dv
    obtain ⟨R, m, B, hx, hl, hm, hR, hpw, h⟩ := h
    obtain ⟨a, ws, rfl, q, r⟩ := hx.sq so r
    have hlen := r.length
    rw [List.length_map] at hlen
    refine cr_sortT (d := m) (B := B) hm pins s σ H _ us Q I rv ⟨a, ws, rfl, q, by omega, fun x hxm => ?_, fun ys p hp hys hn => ?_⟩
    · obtain ⟨j, hj⟩ := List.mem_iff_getElem?.mp hxm
      have hjl := (List.getElem?_eq_some_iff.mp hj).1
      have hjr : j < R.length := by omega
      obtain ⟨w, hw, dw⟩ := r.get (i := j) (d := tupI R[j]) (by rw [List.getElem?_map, List.getElem?_eq_getElem hjr]; rfl)
      rw [hj] at hw
      cases hw
      have := hR R[j] (List.getElem_mem hjr)
      exact ⟨R[j], dv_tupI dw, this.1, this.2⟩
    · obtain ⟨R', hR', hd⟩ := perm_dvs hp R r
      have hlen' := hd.length
      rw [List.length_map] at hlen'
      have e : R' = R := by
        refine List.Perm.eq_of_pairwise (le := fun x y => TS.code B x ≤ TS.code B y) (fun x y hx hy h1 h2 => ?_) ?_ (hpw.imp fun h => Int.le_of_lt h) hR'
        · have hx' := hR'.mem_iff.mp hx
          obtain ⟨i, hi, rfl⟩ := List.mem_iff_getElem.mp hx'
          obtain ⟨j, hj, rfl⟩ := List.mem_iff_getElem.mp hy
          have hpi := List.pairwise_iff_getElem.mp hpw
          rcases Nat.lt_trichotomy i j with z | z | z
          · have := hpi i j hi hj z; omega
          · subst z; rfl
          · have := hpi j i hj hi z; omega
        · rw [List.pairwise_iff_getElem]
          intro i j hi hj hij
          have g1 : ys[i]? = some (ys[i]'(by omega)) := List.getElem?_eq_getElem _
          have g2 : ys[j]? = some (ys[j]'(by omega)) := List.getElem?_eq_getElem _
          obtain ⟨w1, hw1, d1⟩ := hd.get (i := i) (d := tupI R'[i]) (by rw [List.getElem?_map, List.getElem?_eq_getElem hi]; rfl)
          obtain ⟨w2, hw2, d2⟩ := hd.get (i := j) (d := tupI R'[j]) (by rw [List.getElem?_map, List.getElem?_eq_getElem hj]; rfl)
          rw [g1] at hw1
          rw [g2] at hw2
          cases hw1
          cases hw2
          exact List.pairwise_iff_getElem.mp hys i j (by omega) (by omega) hij _ _ (dv_tupI d1) (dv_tupI d2)
      subst e
      exact k (.ref p) _ _ _ (Go.newLst so hn hd) rfl (h p (so.free hn))
  · exact h.elim
end
end DL
set_option Elab.async false
set_option linter.all false
set_option maxRecDepth 100000
set_option maxHeartbeats 4000000
/-! DN6: // of great ints by great ones, as long as the dividend is below 2 ^ 13500. -/
namespace DL
open PySem PySem.Spec PyProof.Rows L2
def CDivX (i j : Int) : Prop := 0 < j ∧ (j.natAbs.log2 < 9000 ∨ i.natAbs.log2 < 13500)
theorem noPylongX {x y : Int} (h : y.natAbs.log2 < 9000 ∨ x.natAbs.log2 < 13500) : Builtin.divisionGoesByPylong x y = false := by
  rcases h with h | h
  · exact PyProof.noPylong_of_log2 h
  · show (decide ((if y == 0 then 0 else y.natAbs.log2 / 30 + 1) > 300) && decide ((if x == 0 then 0 else x.natAbs.log2 / 30 + 1) > (if y == 0 then 0 else y.natAbs.log2 / 30 + 1) + 150)) = false
    have key : (if x == 0 then 0 else x.natAbs.log2 / 30 + 1) ≤ 450 := by
      by_cases hx : (x == 0) = true
      · rw [if_pos hx]; exact Nat.zero_le _
      · rw [if_neg hx]; omega
    generalize (if x == 0 then 0 else x.natAbs.log2 / 30 + 1) = a at *
    generalize (if y == 0 then 0 else y.natAbs.log2 / 30 + 1) = b
    by_cases c : b > 300
    · rw [decide_eq_false (show ¬ a > b + 150 by omega), Bool.and_false]
    · rw [decide_eq_false c]; rfl
section
variable {X : Cx}
theorem op_fdivX : OpR X (binaryOp .FloorDiv) (rI CDivX fun i j => .int (i / j)) := opI fun i j _ _ _ _ _ hc q => by
  have h1 : (0 : Int) < j := hc.1
  exact floordiv_int (by omega) (by rw [Int.fdiv_eq_ediv_of_nonneg i (by omega)]; exact q) (.inl (noPylongX hc.2))
def dFdivX : ROp
  | .int i, .int j, S, R => CDivX i j ∧ R (.int (i / j)) S
  | _, _, _, _ => False
theorem od_fdivX : OpR X (binaryOp .FloorDiv) (lop X.K dFdivX) := by
  intro pins s σ H v w vv ww Q I rv rw' h
  obtain ⟨x, y, S, R, dx, dy, so, h, k⟩ := h
  cases x <;> cases y <;> first | exact False.elim h | skip
  case int.int i j =>
    cases (show v = V.int i from dx); cases (show w = V.int j from dy)
    exact op_fdivX pins s σ H _ _ vv ww Q I rv rw' ⟨i, j, rfl, rfl, h.1, k (.int (i / j)) S _ H (Go.refl so) rfl h.2⟩
end
theorem divX {i j : Int} (h : 0 < j) (hi : i.natAbs < 2 ^ 13500) : CDivX i j := ⟨h, .inr (PySem.Flt.log2_lt_of (by decide) hi)⟩
end DL
set_option Elab.async false
set_option linter.all false
set_option maxRecDepth 100000
set_option maxHeartbeats 4000000
/-! DN7: str of an int, every other item of a tuple. -/
namespace DL
open PySem PySem.Spec PyProof.Rows L2
section
variable {X : Cx} {y : DXw}
def dStrI : RCall := fun ds S Q => match ds with
  | [.int i] => i.natAbs.log2 < 1920 ∧ Q (.str (toString i)) S
  | _ => False
theorem cd_strI : CallR X (.type "str") (lcl X.K dStrI) := by
  intro pins s σ H vs us Q I rv h
  obtain ⟨ds, S, R, dv, so, h, k⟩ := h
  unfold dStrI at h
  split at h
  · rename_i i
    obtain ⟨v, rfl, r⟩ := dvs1 dv
    cases (show v = V.int i from r)
    exact call_str_int pins s σ H _ us Q I rv ⟨i, rfl, h.1, k (.str (toString i)) S _ H (Go.refl so) rfl h.2⟩
  · exact h.elim
end
def evens {α : Type} (xs : List α) : List α := (List.range ((xs.length + 1) / 2)).filterMap fun k => xs[2 * k]?
theorem evens_len {α : Type} (xs : List α) : (evens xs).length = (xs.length + 1) / 2 := by
  unfold evens
  have : ∀ (l : List Nat), (∀ k ∈ l, 2 * k < xs.length) → (l.filterMap fun k => xs[2 * k]?).length = l.length := fun l => by
    induction l with
    | nil => intro _; rfl
    | cons k l ih =>
      intro h
      rw [List.filterMap_cons, List.getElem?_eq_getElem (h k (by simp)), List.length_cons, List.length_cons, ih fun j hj => h j (List.mem_cons_of_mem _ hj)]
  rw [this _ fun k hk => by have := List.mem_range.mp hk; omega, List.length_range]
theorem evens_mem {α : Type} {xs : List α} {x : α} (h : x ∈ evens xs) : x ∈ xs := by
  unfold evens at h
  obtain ⟨k, _, e⟩ := List.mem_filterMap.mp h
  exact List.mem_of_getElem? e
section
variable {prog : Program} {w : World} {A : Around} {E : Value → Shared → Prop} {s : Shared}
theorem two_pick (xs : Array Value) : ((List.range ((xs.size + 1) / 2)).filterMap fun (k : Nat) => xs[((0 : Int) + (k : Int) * 2).toNat]?).toArray = (evens xs.toList).toArray := by
  congr 1
  unfold evens
  rw [Array.length_toList]
  congr 1
  funext k
  rw [show ((0 : Int) + (k : Int) * 2).toNat = 2 * k by omega]
  simp
theorem two_applied {sl : Addr} {vl vu vs : Value} {n : Nat} {Q : Int × Int × Nat → Shared → Prop} (hs : s.heap.IsSliceOf sl vl vu vs) (pl : IsPart vl none) (pu : IsPart vu none) (ps : IsPart vs (some 2))
    (h : Q (0, 2, (n + 1) / 2) s) : wpAny (model prog w) A (Builtin.Slice.sliceApplied (.ref sl) (pure (n : Int))) Q E s := by
  obtain ⟨os, hos, hcs, hds⟩ := id hs
  unfold Builtin.Slice.sliceApplied Builtin.Slice.sliceFields
  refine wpAny_bind (wpAny_bind (wpAny_field hos hds (x := vl) rfl (wpAny_bind (wpAny_field hos hds (x := vu) rfl (wpAny_bind (wpAny_field hos hds (x := vs) rfl (wpAny_pure ?_)))))))
  refine wpAny_bind (HT.slicePart_ ps ?_)
  show wpAny _ _ (if ((2 : Int) == 0) = true then _ else _) _ _ s
  rw [if_neg (by decide)]
  refine wpAny_bind (HT.slicePart_ pl (wpAny_bind (HT.slicePart_ pu (wpAny_bind (wpAny_pure ?_)))))
  have e : Builtin.Slice.sliceAdjust none none 2 (n : Int) = (0, (n : Int)) := rfl
  have e2 : Builtin.Slice.slicePlaces 0 (n : Int) 2 = (n + 1) / 2 := by
    unfold Builtin.Slice.slicePlaces
    have h1 : (2 : Int) > 0 := by omega
    simp only [h1, if_true]
    split <;> omega
  show wpAny _ _ (match Builtin.Slice.sliceAdjust none none 2 (n : Int) with | (lo, hi) => pure (lo, (2 : Int), Builtin.Slice.slicePlaces lo hi 2)) _ _ s
  rw [e]
  show wpAny _ _ (pure ((0 : Int), (2 : Int), Builtin.Slice.slicePlaces 0 (n : Int) 2)) _ _ s
  rw [e2]
  exact wpAny_pure h
theorem two_tuple {t sl : Addr} {items : Array Value} {vl vu vs : Value} {Q : Value → Shared → Prop} (ht : IsTup s.heap t items) (hs : s.heap.IsSliceOf sl vl vu vs) (pl : IsPart vl none) (pu : IsPart vu none) (ps : IsPart vs (some 2))
    (h : Q (.ref s.heap.objs.size) { s with heap := s.heap.push { cls := .type "tuple", data := .seq (evens items.toList).toArray } })
    (hsz : items.size ≤ sizeLine) : wpAny (model prog w) A (getItem (.ref t) (.ref sl)) Q E s := by
  have htake : sizeOk (.seq (evens items.toList).toArray) := by
    show (evens items.toList).toArray.size ≤ sizeLine
    rw [List.size_toArray, evens_len, Array.length_toList]
    omega
  obtain ⟨os, hos, hcs, hds⟩ := id hs
  have hTs : s.TypeIs (.ref sl) "slice" := ⟨os, hos, hcs⟩
  unfold getItem
  try with_reducible refine wpAny_holding ?_
  first | refine wpAny_bind (wpAny_pure ?_) | skip
  refine wpAny_bind (wpAny_sequenceKey ht.typeIs (by decide) ?_)
  refine wpAny_bind (wpAny_callSpecial?_slot (name := Str.ofString "__getitem__") ht.typeIs PyProof.Rows.slot_tuple_getitem
    (wpAny_call_entry PyProof.Rows.slot_tuple_getitem ht.typeIs entry_tuple_getitem ?_ (args_tuple_getitem _ _)))
  show wpAny _ _ (Builtin.Tuple.tupleItemsOf (.ref t) >>= _) _ _ s
  refine wpAny_bind (tupleItemsOf_ ht ?_)
  refine wpAny_bind (wpAny_typeOf hTs ?_)
  rw [if_pos (by decide)]
  refine wpAny_bind (two_applied hs pl pu ps ?_)
  have hno : ¬ (((0 : Int) == 0 && (2 : Int) == 1 && (items.size + 1) / 2 == items.size) = true) := by simp
  show wpAny _ _ (if ((0 : Int) == 0 && (2 : Int) == 1 && (items.size + 1) / 2 == items.size) = true then _ else _) _ _ s
  rw [if_neg hno, two_pick]
  first
    | exact wpAny_bind (m := Builtin.Tuple.tupleExact _) (wpAny_newObj_type (wpAny_pure ⟨_, rfl, wpAny_pure h⟩) htake)
    | exact wpAny_bind (m := Builtin.Tuple.tupleExact _) (wpAny_newObj_type (wpAny_bind (wpAny_pure (wpAny_pure ⟨_, rfl, wpAny_pure h⟩))) htake)
    | exact wpAny_bind (wpAny_bind (m := Builtin.Tuple.tupleExact _) (wpAny_newObj_type (wpAny_pure (wpAny_pure ⟨_, rfl, wpAny_pure h⟩)) htake))
    | exact wpAny_bind (wpAny_bind (m := Builtin.Tuple.tupleExact _) (wpAny_newObj_type (wpAny_pure ⟨_, rfl, wpAny_pure h⟩) htake))
end
theorem vals_get : ∀ {xs : List V} {us : List Value}, Vals xs us → ∀ {i : Nat} {x : V}, xs[i]? = some x → ∃ u, us[i]? = some u ∧ RelV x u
  | _, _, .nil, i, x, h => by cases h
  | _ :: _, u :: _, .cons r t, 0, x, h => by
    cases (Option.some.inj h)
    exact ⟨u, rfl, r⟩
  | _ :: _, _ :: _, .cons r t, i + 1, x, h => vals_get t (i := i) h
theorem evens_vals {xs : List V} {us : List Value} (r : Vals xs us) : Vals (evens xs) (evens us) := by
  have hl := r.length
  unfold evens
  rw [hl]
  have : ∀ (l : List Nat), Vals (l.filterMap fun k => xs[2 * k]?) (l.filterMap fun k => us[2 * k]?) := fun l => by
    induction l with
    | nil => exact .nil
    | cons k l ih =>
      rw [List.filterMap_cons, List.filterMap_cons]
      cases e : xs[2 * k]? with
      | none =>
        have : us[2 * k]? = none := List.getElem?_eq_none (by rw [← hl]; exact List.getElem?_eq_none_iff.mp e)
        rw [this]
        exact ih
      | some x =>
        obtain ⟨u, hu, ru⟩ := vals_get r e
        rw [hu]
        exact .cons ru ih
  exact this _
theorem evens_dvs {K : PySem.W.Frag} {H : Hp} {xs : List D} {vs : List V} (r : DVs K H xs vs) : DVs K H (evens xs) (evens vs) := by
  have hl := r.length
  unfold evens
  rw [hl]
  have : ∀ (l : List Nat), DVs K H (l.filterMap fun k => xs[2 * k]?) (l.filterMap fun k => vs[2 * k]?) := fun l => by
    induction l with
    | nil => exact rfl
    | cons k l ih =>
      rw [List.filterMap_cons, List.filterMap_cons]
      cases e : xs[2 * k]? with
      | none =>
        have : vs[2 * k]? = none := List.getElem?_eq_none (by rw [← hl]; exact List.getElem?_eq_none_iff.mp e)
        rw [this]
        exact ih
      | some d =>
        obtain ⟨v, hv, dv⟩ := r.get e
        rw [hv]
        exact .cons dv ih
  exact this _
section
variable {X : Cx} {y : DXw} {pos p1 p3 : Pos} {e : Expr} {te : RE} {k : Nat}
def tTwo (K : PySem.W.Frag) (te : TE) : TE := fun σ H Q => te σ H fun x H1 => ∃ a xs, x = .ref a ∧ SqT K H1 a xs ∧ ∀ p, H1 p = none → Q (.ref p) (upd H1 p (.tup (evens xs)))
theorem pe_two {te : TE} (he : PE X e te) : PE X (.Subscript e (.Slice none none (some (.Constant (.int 2) k p1)) p3) pos) (tTwo X.K te) := by
  refine ⟨fun pins s σ H Q I h => ?_⟩
  refine Subscript_ (thn (he.run pins s σ H _ I h) fun v s1 ⟨x, H1, I1, r1, q1⟩ => ?_)
  obtain ⟨a, xs, ex, hx, q⟩ := q1
  subst ex
  cases r1
  have hst : PO X (some (.Constant (.int 2) k p1)) (tPart (tC (.int 2))) := po_some pe_int
  refine wpAny_Slice (thn (po_none.run pins s1 σ H1 (fun o H2 => o = none ∧ H2 = H1) I1 ⟨rfl, rfl⟩) fun vl s2 ⟨l, H2, I2, pl, el, e2⟩ => ?_)
  subst el e2
  refine thn (po_none.run pins s2 σ H2 (fun o H3 => o = none ∧ H3 = H2) I2 ⟨rfl, rfl⟩) fun vu s3 ⟨u, H3, I3, pu, eu, e3⟩ => ?_
  subst eu e3
  refine thn (hst.run pins s3 σ H3 (fun o H4 => o = some 2 ∧ H4 = H3) I3 ⟨2, rfl, rfl, rfl⟩) fun vs s4 ⟨o, H4, I4, ps, eo, e4⟩ => ?_
  subst eo e4
  have I5 : Inv X pins σ H4 { s4 with heap := s4.heap.push { cls := .type "slice", data := .fields #[vl, vu, vs] } } := I4.kept (t' := s4.toks) fun b ob q => Heap.get?_push_of_some _ q
  show wpAny (model X.prog X.w) X.A (subscriptTail e (.Slice none none (some (.Constant (.int 2) k p1)) p3) (.ref a) (.ref s4.heap.objs.size)) (EP X pins σ Q) X.xe { s4 with heap := s4.heap.push { cls := .type "slice", data := .fields #[vl, vu, vs] } }
  obtain ⟨its, r, ht, hz⟩ := I5.tuple hx
  have hti : IsTup { s4 with heap := s4.heap.push { cls := .type "slice", data := .fields #[vl, vu, vs] } }.heap a its.toArray := ht
  refine tail_any (ops := [.ref a, .ref s4.heap.objs.size]) hti.typeIs (PyProof.Rows.slot_tuple_getitem.lookup) ?_ (by with_unfolding_all rfl)
  refine two_tuple hti (Heap.IsSliceOf.new _ vl vu vs) pl pu ps ?_ (by rw [List.size_toArray]; have := r.length; omega)
  refine ⟨.ref _, _, I5.laid (t' := s4.toks) (o := .tup (evens xs)) (fun b ob q => Heap.get?_push_of_some _ q) (Nat.le_refl _) ?_, rfl, q _ (I5.hok.fresh (Nat.le_refl _))⟩
  exact ⟨by rw [evens_len]; omega, _, evens_vals r, ⟨_, Heap.get?_push_size _ rfl, rfl, _, rfl⟩⟩
def dTwo (d : D) (S : Sto) (Q : D → Sto → Prop) : Prop := match d with
  | .tup xs => Q (.tup (evens xs)) S
  | _ => False
def rTwo (te : RE) : RE := fun ρ S Q => te ρ S fun d S1 => dTwo d S1 Q
theorem pd_two (he : PD X y e te) : PD X y (.Subscript e (.Slice none none (some (.Constant (.int 2) k p1)) p3) pos) (rTwo te) := by
  refine PD.of (pe_two he) fun σ H Q h => ?_
  obtain ⟨ρ, S, R, sr, so, h, kk⟩ := h
  refine ⟨ρ, S, _, sr, so, h, fun d S1 v H1 g dv hd => ?_⟩
  cases d with
  | tup xs =>
    obtain ⟨a, vs, rfl, q, r⟩ := dv
    have hd : R (.tup (evens xs)) S1 := hd
    refine ⟨a, vs, rfl, q.sq, fun p hp => ?_⟩
    have g2 := Go.new (K := X.K) (o := .tup (evens vs)) g.ok hp
    exact kk (.tup (evens xs)) S1 _ _ (g.trans g2) ⟨p, _, rfl, .inl upd_same, DVs.go g2 _ _ (evens_dvs r)⟩ hd
  | _ => exact False.elim hd
end
end DL
set_option Elab.async false
set_option linter.all false
set_option maxRecDepth 100000
set_option maxHeartbeats 4000000
/-! DN8: min and max of the values of a dict by nested tuples; d.setdefault of a dict by ints; walks over its items. -/
namespace DL
open PySem PySem.Spec PyProof.Rows L2
section
variable {X : Cx} {y : DXw} {o : Expr} {p pos apos mpos : Pos}

def tMinN (K : PySem.W.Frag) (td : TE) : TE := fun σ H Q => td σ H fun x H1 => ∃ a xs kvs is, x = V.ref a ∧ H1 a = some (TN a xs) ∧ DKN K H1 kvs xs ∧ xs.map (fun x => x.2.2) = is.map V.int ∧ is ≠ [] ∧ ∀ m, m ∈ is → (∀ j ∈ is, m ≤ j) → Q (.int m) H1
theorem pe_MinN {td : TE} (hc : X.calm = true) (hg : Gl X "min") (hm : X.mg "min" = none) (hd : PE X o td) (hbase : attributeBase o "values" X.env (eval o X.env) = eval o X.env := by rfl) (hline : (apos.endLine == mpos.line) = true := by rfl)
    (hse : starEach [Expr.Call (.Attribute o "values" apos) [] [] mpos] X.env = [(false, eval (Expr.Call (.Attribute o "values" apos) [] [] mpos) X.env)] := by rfl) :
    PE X (.Call (.Name "min" p) [.Call (.Attribute o "values" apos) [] [] mpos] [] pos) (tMinN X.K td) := by
  refine ⟨fun pins s σ H Q I h => ?_⟩
  refine wpAny_Call_Name_kw (ld_blt I hg hm (u := .builtin "min") (by first | rfl | decide +kernel) ?_ (by first | decide +kernel | decide) (by first | decide +kernel | decide))
  rw [hse]
  refine PySem.callWith_builtin1 (wpAny_Call_method0_late hbase hline (thn (hd.run pins s σ H _ I h) fun v s1 ⟨x, H1, I1, r1, a, xs, kvs, is, ex, ha, dk, hv, hne, q⟩ => ?_))
  subst ex
  obtain rfl : v = Value.ref a := r1
  obtain ⟨us, dd, px, hsys, hl⟩ := tn_open I1 ha dk
  obtain ⟨ob, es, ep, ho, hx, hdat, hes, hdd⟩ := id dd
  refine ⟨"dict", "dict.values", F.plainAttrs_dict, F.slot_dict_values, F.type_dict_values, dd.typeIs, fun b e => ?_, Calls.callWith_builtin rfl (PySem.evalArgs_none ?_)⟩
  · cases e
    exact ⟨ob, ho, hx.2.1⟩
  refine call_meetsIn F.slot_dict_values dd.typeIs F.entry_dict_values (F.args_dict_values_1 _) (meets_dict_values_raw a hsys) ⟨⟨es, ep, ob, ho, hx, hdat⟩, ?_⟩
  have k1 : ∀ b u, s1.heap.get? b = some u → (s1.heap.push { cls := .type "dict_values", data := .fields #[.ref a] }).get? b = some u := fun b u e => Heap.get?_push_of_some _ e
  have raw1 : (s1.heap.push { cls := .type "dict_values", data := .fields #[.ref a] }).DictRaw a es ep := ⟨ob, k1 _ _ ho, hx, hdat⟩
  have hlu : us.length = is.length := by
    have e1 := congrArg List.length hv
    rw [List.length_map, List.length_map] at e1
    rw [← e1]
    exact (Paired.length px).symm
  have hle : es.size = us.length := by rw [← Array.length_toList, hes, List.length_map]
  have hlen : 0 < es.size := by
    rw [hle, hlu]
    exact List.length_pos_iff.mpr hne
  have hent : ∀ (i : Nat) (hi : i < es.size), ∃ u, us[i]? = some u ∧ es[i].key = .ref u.2.1 ∧ es[i].val = u.2.2 := fun i hi => by
    have hiu : i < us.length := by omega
    refine ⟨us[i], List.getElem?_eq_getElem hiu, ?_⟩
    have : es.toList[i]? = some (entryOfKey (nestedKind X.prog X.w) us[i]) := by rw [hes, List.getElem?_map, List.getElem?_eq_getElem hiu]; rfl
    rw [Array.getElem?_toList, Array.getElem?_eq_getElem hi] at this
    rw [Option.some.inj this]
    exact ⟨rfl, rfl⟩
  have hval : ∀ (i : Nat) (v : Value), (∃ u, us[i]? = some u ∧ v = u.2.2) → ∃ t, v = Value.int (is.getD i 0) t := fun i v ⟨u, hu, ev⟩ => by
    have hi : i < xs.length := by rw [Paired.length px]; exact (List.getElem?_eq_some_iff.mp hu).1
    obtain ⟨u', hu', _, _, rv⟩ := px_get px (List.getElem?_eq_getElem hi)
    rw [hu] at hu'
    cases hu'
    have e1 : (xs.map fun x => x.2.2)[i]? = some xs[i].2.2 := by rw [List.getElem?_map, List.getElem?_eq_getElem hi]; rfl
    rw [hv, List.getElem?_map] at e1
    obtain ⟨j, hj, e2⟩ := Option.map_eq_some_iff.mp e1
    rw [← e2] at rv
    obtain ⟨t, e3⟩ := rv
    refine ⟨t, ?_⟩
    rw [ev, e3, List.getD_eq_getElem?_getD, hj] <;> rfl
  refine call_min_walk (wpAny_pyIter_values_raw (v := s1.heap.objs.size) (d := a) ⟨_, Heap.get?_push_size _ rfl, rfl, rfl⟩ raw1 ?_)
  have hlt : a < s1.heap.objs.size := Heap.lt_size ho
  have hsz : (s1.heap.push { cls := .type "dict_values", data := .fields #[.ref a] }).objs.size = s1.heap.objs.size + 1 := Heap.size_push _ _
  refine ⟨_, _, _, _, _, _, _, rfl, Walks.valuesH (xs := us) (A := X.A.in1) (I1.ok.hd hc) (s1.heap.push { cls := .type "dict_values", data := .fields #[.ref a] }).objs.size a (by rw [hsz]; exact Nat.ne_of_lt (Nat.lt_succ_of_lt hlt)) es ep hent,
    ⟨⟨_, Heap.get?_push_size _ rfl, rfl, rfl⟩, ⟨ob, Heap.get?_push_of_some _ (k1 _ _ ho), hx, hdat⟩⟩, fun b hb => ?_, hlen, CmpOf.ints_lt (fun i => is.getD i 0) hval, fun v h' tk hP hk => ?_⟩
  · show b < ((s1.heap.push _).push _).objs.size
    rw [Heap.size_push, Heap.size_push]
    rw [hsz] at hb
    rcases List.mem_cons.mp hb with e | hb
    · rw [e]
      exact Nat.lt_succ_self _
    · have e : b = a := List.mem_singleton.mp hb
      rw [e]
      exact Nat.lt_succ_of_lt (Nat.lt_succ_of_lt hlt)
  · obtain ⟨t, rfl⟩ := hval _ v hP
    obtain ⟨b1, b2⟩ := argBest_lt (fun i => is.getD i 0) (es.size - 1)
    refine ⟨.int _, H1, I1.kept (t' := tk) fun b u e => hk b u (fun hmem => ?_) (Heap.get?_push_of_some _ (k1 b u e)), ⟨t, rfl⟩, q _ ?_ fun j hj => ?_⟩
    · have e1 : b = (s1.heap.push { cls := .type "dict_values", data := .fields #[.ref a] }).objs.size := List.mem_singleton.mp hmem
      have e2 := Heap.lt_size e
      rw [hsz] at e1
      rw [e1] at e2
      exact absurd e2 (Nat.not_lt.mpr (Nat.le_succ _))
    · have hb : argBest (fun i j => decide (is.getD i 0 < is.getD j 0)) (es.size - 1) < is.length := by omega
      rw [List.getD_eq_getElem?_getD, List.getElem?_eq_getElem hb]
      exact List.getElem_mem hb
    · obtain ⟨i, hi, e⟩ := List.mem_iff_getElem.mp hj
      have e2 : is.getD i 0 = j := by rw [List.getD_eq_getElem?_getD, List.getElem?_eq_getElem hi, ← e] <;> rfl
      rw [← e2]
      exact b2 i (by omega)
def rMinN (td : RE) : RE := fun ρ S Q => td ρ S fun o S1 => match o with
  | .ref a => ∃ kvs is, S1 a = some (.dN kvs) ∧ kvs.map (fun kv => kv.2) = is.map D.int ∧ is ≠ [] ∧ ∀ m, m ∈ is → (∀ j ∈ is, m ≤ j) → Q (.int m) S1
  | _ => False
theorem pd_MinN {td : RE} (hc : X.calm = true) (hm : X.mg "min" = none) (hd : PD X y o td) (hg : Gl X "min" := by rfl) (hbase : attributeBase o "values" X.env (eval o X.env) = eval o X.env := by rfl) (hline : (apos.endLine == mpos.line) = true := by rfl)
    (hse : starEach [Expr.Call (.Attribute o "values" apos) [] [] mpos] X.env = [(false, eval (Expr.Call (.Attribute o "values" apos) [] [] mpos) X.env)] := by rfl) :
    PD X y (.Call (.Name "min" p) [.Call (.Attribute o "values" apos) [] [] mpos] [] pos) (rMinN td) := by
  refine PD.of (pe_MinN hc hg hm hd hbase hline hse) fun σ H Q h => ?_
  obtain ⟨ρ, S, R, sr, so, h, k⟩ := h
  refine ⟨ρ, S, _, sr, so, h, fun d S1 v H1 g dv hd => ?_⟩
  cases d with
  | ref a =>
    cases (show v = V.ref a from dv)
    obtain ⟨kvs, is, e1, hv, hne, h1⟩ := hd
    obtain ⟨xs, e2, n2, r⟩ := g.ok a _ e1
    refine ⟨a, xs, kvs, is, rfl, e2, r, ?_, hne, fun m hm hb => k (.int m) S1 _ H1 g rfl (h1 m hm hb)⟩
    apply List.ext_getElem?
    intro i
    rw [List.getElem?_map, List.getElem?_map]
    cases ei : kvs[i]? with
    | none =>
      have h2 : xs[i]? = none := List.getElem?_eq_none (by rw [← DKN.length r]; exact List.getElem?_eq_none_iff.mp ei)
      have h3 : is[i]? = none := by
        have := congrArg (fun l => l[i]?) hv
        rw [List.getElem?_map, List.getElem?_map, ei] at this
        cases e4 : is[i]? with
        | none => rfl
        | some _ => rw [e4] at this; cases this
      rw [h2, h3]
      rfl
    | some p =>
      obtain ⟨b, w, h2, _, dw⟩ := r.get ei
      have := congrArg (fun l => l[i]?) hv
      rw [List.getElem?_map, List.getElem?_map, ei] at this
      cases e4 : is[i]? with
      | none => rw [e4] at this; cases this
      | some j =>
        rw [e4] at this
        have e5 : p.2 = D.int j := Option.some.inj this
        rw [e5] at dw
        rw [h2]
        exact congrArg some (show w = V.int j from dw)
  | _ => exact False.elim hd

def tMaxN (K : PySem.W.Frag) (td : TE) : TE := fun σ H Q => td σ H fun x H1 => ∃ a xs kvs is, x = V.ref a ∧ H1 a = some (TN a xs) ∧ DKN K H1 kvs xs ∧ xs.map (fun x => x.2.2) = is.map V.int ∧ is ≠ [] ∧ ∀ m, m ∈ is → (∀ j ∈ is, j ≤ m) → Q (.int m) H1
theorem pe_MaxN {td : TE} (hc : X.calm = true) (hg : Gl X "max") (hm : X.mg "max" = none) (hd : PE X o td) (hbase : attributeBase o "values" X.env (eval o X.env) = eval o X.env := by rfl) (hline : (apos.endLine == mpos.line) = true := by rfl)
    (hse : starEach [Expr.Call (.Attribute o "values" apos) [] [] mpos] X.env = [(false, eval (Expr.Call (.Attribute o "values" apos) [] [] mpos) X.env)] := by rfl) :
    PE X (.Call (.Name "max" p) [.Call (.Attribute o "values" apos) [] [] mpos] [] pos) (tMaxN X.K td) := by
  refine ⟨fun pins s σ H Q I h => ?_⟩
  refine wpAny_Call_Name_kw (ld_blt I hg hm (u := .builtin "max") (by first | rfl | decide +kernel) ?_ (by first | decide +kernel | decide) (by first | decide +kernel | decide))
  rw [hse]
  refine PySem.callWith_builtin1 (wpAny_Call_method0_late hbase hline (thn (hd.run pins s σ H _ I h) fun v s1 ⟨x, H1, I1, r1, a, xs, kvs, is, ex, ha, dk, hv, hne, q⟩ => ?_))
  subst ex
  obtain rfl : v = Value.ref a := r1
  obtain ⟨us, dd, px, hsys, hl⟩ := tn_open I1 ha dk
  obtain ⟨ob, es, ep, ho, hx, hdat, hes, hdd⟩ := id dd
  refine ⟨"dict", "dict.values", F.plainAttrs_dict, F.slot_dict_values, F.type_dict_values, dd.typeIs, fun b e => ?_, Calls.callWith_builtin rfl (PySem.evalArgs_none ?_)⟩
  · cases e
    exact ⟨ob, ho, hx.2.1⟩
  refine call_meetsIn F.slot_dict_values dd.typeIs F.entry_dict_values (F.args_dict_values_1 _) (meets_dict_values_raw a hsys) ⟨⟨es, ep, ob, ho, hx, hdat⟩, ?_⟩
  have k1 : ∀ b u, s1.heap.get? b = some u → (s1.heap.push { cls := .type "dict_values", data := .fields #[.ref a] }).get? b = some u := fun b u e => Heap.get?_push_of_some _ e
  have raw1 : (s1.heap.push { cls := .type "dict_values", data := .fields #[.ref a] }).DictRaw a es ep := ⟨ob, k1 _ _ ho, hx, hdat⟩
  have hlu : us.length = is.length := by
    have e1 := congrArg List.length hv
    rw [List.length_map, List.length_map] at e1
    rw [← e1]
    exact (Paired.length px).symm
  have hle : es.size = us.length := by rw [← Array.length_toList, hes, List.length_map]
  have hlen : 0 < es.size := by
    rw [hle, hlu]
    exact List.length_pos_iff.mpr hne
  have hent : ∀ (i : Nat) (hi : i < es.size), ∃ u, us[i]? = some u ∧ es[i].key = .ref u.2.1 ∧ es[i].val = u.2.2 := fun i hi => by
    have hiu : i < us.length := by omega
    refine ⟨us[i], List.getElem?_eq_getElem hiu, ?_⟩
    have : es.toList[i]? = some (entryOfKey (nestedKind X.prog X.w) us[i]) := by rw [hes, List.getElem?_map, List.getElem?_eq_getElem hiu]; rfl
    rw [Array.getElem?_toList, Array.getElem?_eq_getElem hi] at this
    rw [Option.some.inj this]
    exact ⟨rfl, rfl⟩
  have hval : ∀ (i : Nat) (v : Value), (∃ u, us[i]? = some u ∧ v = u.2.2) → ∃ t, v = Value.int (is.getD i 0) t := fun i v ⟨u, hu, ev⟩ => by
    have hi : i < xs.length := by rw [Paired.length px]; exact (List.getElem?_eq_some_iff.mp hu).1
    obtain ⟨u', hu', _, _, rv⟩ := px_get px (List.getElem?_eq_getElem hi)
    rw [hu] at hu'
    cases hu'
    have e1 : (xs.map fun x => x.2.2)[i]? = some xs[i].2.2 := by rw [List.getElem?_map, List.getElem?_eq_getElem hi]; rfl
    rw [hv, List.getElem?_map] at e1
    obtain ⟨j, hj, e2⟩ := Option.map_eq_some_iff.mp e1
    rw [← e2] at rv
    obtain ⟨t, e3⟩ := rv
    refine ⟨t, ?_⟩
    rw [ev, e3, List.getD_eq_getElem?_getD, hj] <;> rfl
  refine call_max_walk (wpAny_pyIter_values_raw (v := s1.heap.objs.size) (d := a) ⟨_, Heap.get?_push_size _ rfl, rfl, rfl⟩ raw1 ?_)
  have hlt : a < s1.heap.objs.size := Heap.lt_size ho
  have hsz : (s1.heap.push { cls := .type "dict_values", data := .fields #[.ref a] }).objs.size = s1.heap.objs.size + 1 := Heap.size_push _ _
  refine ⟨_, _, _, _, _, _, _, rfl, Walks.valuesH (xs := us) (A := X.A.in1) (I1.ok.hd hc) (s1.heap.push { cls := .type "dict_values", data := .fields #[.ref a] }).objs.size a (by rw [hsz]; exact Nat.ne_of_lt (Nat.lt_succ_of_lt hlt)) es ep hent,
    ⟨⟨_, Heap.get?_push_size _ rfl, rfl, rfl⟩, ⟨ob, Heap.get?_push_of_some _ (k1 _ _ ho), hx, hdat⟩⟩, fun b hb => ?_, hlen, CmpOf.ints_gt (fun i => is.getD i 0) hval, fun v h' tk hP hk => ?_⟩
  · show b < ((s1.heap.push _).push _).objs.size
    rw [Heap.size_push, Heap.size_push]
    rw [hsz] at hb
    rcases List.mem_cons.mp hb with e | hb
    · rw [e]
      exact Nat.lt_succ_self _
    · have e : b = a := List.mem_singleton.mp hb
      rw [e]
      exact Nat.lt_succ_of_lt (Nat.lt_succ_of_lt hlt)
  · obtain ⟨t, rfl⟩ := hval _ v hP
    obtain ⟨b1, b2⟩ := argBest_gt (fun i => is.getD i 0) (es.size - 1)
    refine ⟨.int _, H1, I1.kept (t' := tk) fun b u e => hk b u (fun hmem => ?_) (Heap.get?_push_of_some _ (k1 b u e)), ⟨t, rfl⟩, q _ ?_ fun j hj => ?_⟩
    · have e1 : b = (s1.heap.push { cls := .type "dict_values", data := .fields #[.ref a] }).objs.size := List.mem_singleton.mp hmem
      have e2 := Heap.lt_size e
      rw [hsz] at e1
      rw [e1] at e2
      exact absurd e2 (Nat.not_lt.mpr (Nat.le_succ _))
    · have hb : argBest (fun i j => decide (is.getD i 0 > is.getD j 0)) (es.size - 1) < is.length := by omega
      rw [List.getD_eq_getElem?_getD, List.getElem?_eq_getElem hb]
      exact List.getElem_mem hb
    · obtain ⟨i, hi, e⟩ := List.mem_iff_getElem.mp hj
      have e2 : is.getD i 0 = j := by rw [List.getD_eq_getElem?_getD, List.getElem?_eq_getElem hi, ← e] <;> rfl
      rw [← e2]
      exact b2 i (by omega)
def rMaxN (td : RE) : RE := fun ρ S Q => td ρ S fun o S1 => match o with
  | .ref a => ∃ kvs is, S1 a = some (.dN kvs) ∧ kvs.map (fun kv => kv.2) = is.map D.int ∧ is ≠ [] ∧ ∀ m, m ∈ is → (∀ j ∈ is, j ≤ m) → Q (.int m) S1
  | _ => False
theorem pd_MaxN {td : RE} (hc : X.calm = true) (hm : X.mg "max" = none) (hd : PD X y o td) (hg : Gl X "max" := by rfl) (hbase : attributeBase o "values" X.env (eval o X.env) = eval o X.env := by rfl) (hline : (apos.endLine == mpos.line) = true := by rfl)
    (hse : starEach [Expr.Call (.Attribute o "values" apos) [] [] mpos] X.env = [(false, eval (Expr.Call (.Attribute o "values" apos) [] [] mpos) X.env)] := by rfl) :
    PD X y (.Call (.Name "max" p) [.Call (.Attribute o "values" apos) [] [] mpos] [] pos) (rMaxN td) := by
  refine PD.of (pe_MaxN hc hg hm hd hbase hline hse) fun σ H Q h => ?_
  obtain ⟨ρ, S, R, sr, so, h, k⟩ := h
  refine ⟨ρ, S, _, sr, so, h, fun d S1 v H1 g dv hd => ?_⟩
  cases d with
  | ref a =>
    cases (show v = V.ref a from dv)
    obtain ⟨kvs, is, e1, hv, hne, h1⟩ := hd
    obtain ⟨xs, e2, n2, r⟩ := g.ok a _ e1
    refine ⟨a, xs, kvs, is, rfl, e2, r, ?_, hne, fun m hm hb => k (.int m) S1 _ H1 g rfl (h1 m hm hb)⟩
    apply List.ext_getElem?
    intro i
    rw [List.getElem?_map, List.getElem?_map]
    cases ei : kvs[i]? with
    | none =>
      have h2 : xs[i]? = none := List.getElem?_eq_none (by rw [← DKN.length r]; exact List.getElem?_eq_none_iff.mp ei)
      have h3 : is[i]? = none := by
        have := congrArg (fun l => l[i]?) hv
        rw [List.getElem?_map, List.getElem?_map, ei] at this
        cases e4 : is[i]? with
        | none => rfl
        | some _ => rw [e4] at this; cases this
      rw [h2, h3]
      rfl
    | some p =>
      obtain ⟨b, w, h2, _, dw⟩ := r.get ei
      have := congrArg (fun l => l[i]?) hv
      rw [List.getElem?_map, List.getElem?_map, ei] at this
      cases e4 : is[i]? with
      | none => rw [e4] at this; cases this
      | some j =>
        rw [e4] at this
        have e5 : p.2 = D.int j := Option.some.inj this
        rw [e5] at dw
        rw [h2]
        exact congrArg some (show w = V.int j from dw)
  | _ => exact False.elim hd

/-! ### d.setdefault(k, x), d by ints -/
def rDSetd (td ti tx : RE) : RE := fun ρ S Q => td ρ S fun o S1 => (∃ a kvs, o = .ref a ∧ S1 a = some (.dK kvs)) ∧ ti ρ S1 fun k S2 => tx ρ S2 fun z S3 => isD S3 o k fun a kvs key => kvs.length < sizeLine ∧ (∀ d, dval kvs key = some d → Q d S3) ∧ (dval kvs key = none → Q z (sup S3 a (.dK (dput kvs key z))))
theorem pd_dsetd {e f : Expr} {cpos : Pos} {td ti tx : RE} (ho : PD X y o td) (he : PD X y e ti) (hf : PD X y f tx) (m : M2 X o "setdefault" apos e f cpos) : PD X y (.Call (.Attribute o "setdefault" apos) [e, f] [] cpos) (rDSetd td ti tx) :=
  PD.of (pe_dsetd ho he hf m) fun σ H Q h => by
    obtain ⟨ρ, S, R, sr, so, h, k⟩ := h
    refine ⟨ρ, S, _, sr, so, h, fun d S1 v H1 g1 dv h1 => ?_⟩
    obtain ⟨⟨a, kvs, rfl, e1⟩, h1⟩ := h1
    cases (show v = V.ref a from dv)
    obtain ⟨vs, e2, r2⟩ := g1.ok a _ e1
    refine ⟨a, rfl, .inl ⟨vs, .inl e2⟩, ρ, S1, _, sr.go g1, so.go g1, h1, fun z S2 w H2 g2 dw h2 => ⟨ρ, S2, _, (sr.go g1).go g2, (so.go g1).go g2, h2, fun z2 S3 w2 H3 g3 dw2 h3 => ?_⟩⟩
    obtain ⟨a', kvs3, vs3, key, ea, es3, e3, r, ew, h4, h5, h6⟩ := isD_of g3.ok (o := .ref a) (v := .ref a) rfl (DV.go g3 _ _ dw) h3
    cases ea
    have gA := (g1.trans g2).trans g3
    obtain ⟨rv1, rv2⟩ := r.val key
    refine ⟨vs3, key, e3, ew, by rw [← DKs.length r]; exact h4, fun v hv => ?_, fun hv => ?_⟩
    · cases hd : dval kvs3 key with
      | none => rw [hd, hv] at rv1; cases rv1
      | some d =>
        obtain ⟨u, hu', ru⟩ := rv2 d hd
        rw [hv] at hu'
        cases hu'
        exact k d S3 v H3 gA ru (h5 d hd)
    · have hd : dval kvs3 key = none := by
        cases hd : dval kvs3 key with
        | none => rfl
        | some d =>
          obtain ⟨u, hu', _⟩ := rv2 d hd
          rw [hv] at hu'
          cases hu'
      have g4 := Go.setDK g3.ok es3 (r.put key dw2)
      exact k z2 _ w2 _ (gA.trans g4) (DV.go g4 _ _ dw2) (h6 hd)
end
end DL
set_option Elab.async false
set_option linter.all false
set_option maxRecDepth 100000
set_option maxHeartbeats 4000000
/-! DN9: walks over d.items() of a dict by ints and texts (the dict is given up); len of a dict by nested tuples. -/
namespace DL
open PySem PySem.Spec PyProof.Rows L2
section
variable {X : Cx} {y : DXw}
/-- the dict is locked for good -/
def tLkK (td : TE) : TE := fun σ H Q => td σ H fun x H1 => ∃ d kvs, x = .ref d ∧ H1 d = some (.dK kvs) ∧ ∀ o, Q x (upd H1 d (.frz o (.dK kvs)))
theorem pe_lkK {e : Expr} {td : TE} (he : PE X e td) : PE X e (tLkK td) := by
  refine ⟨fun pins s σ H Q I h => thn (he.run pins s σ H _ I h) fun u s1 ⟨x, H1, I1, rx, d, kvs, ex, e1, q⟩ => ?_⟩
  obtain ⟨od, I2⟩ := I1.lock e1 True.intro
  exact ⟨x, _, I2, rx, q od⟩
theorem Go.giveK {K : PySem.W.Frag} {H : Hp} {S : Sto} (h : SOk K H S) {p : Addr} {kvs : List (Key × D)} (hp : S p = some (.dK kvs)) (o : HO) : Go K H S (upd H p o) (rem S p) := by
  obtain ⟨vs0, e0, _⟩ := h p _ hp
  have co : CO p (.dK vs0) := .inr (.inl ⟨_, rfl⟩)
  refine ⟨h, fun a c e => ?_, fun a q e z => ?_, fun a q e z => ?_⟩
  · unfold rem at e
    split at e
    · cases e
    · rename_i ha
      have := h a c e
      cases c with
      | lst xs => obtain ⟨ws, e1, r⟩ := this; exact ⟨ws, by rw [upd_ne ha]; exact e1, DVs.wr e0 co _ _ r⟩
      | dK kvs => obtain ⟨ws, e1, r⟩ := this; exact ⟨ws, by rw [upd_ne ha]; exact e1, DKs.wr e0 co r⟩
      | dN kvs => obtain ⟨ws, e1, n, r⟩ := this; exact ⟨ws, by rw [upd_ne ha]; exact e1, n, DKN.wr e0 co r⟩
  · rw [upd_ne (fun y => by rw [y, hp] at e; cases e)]
    exact z
  · unfold rem
    split
    · rfl
    · exact e
def itK (kvs : List (Key × D)) : List D := kvs.map fun kv => .tup [dkey kv.1, kv.2]
theorem dv_dkey {K : PySem.W.Frag} {H : Hp} : ∀ k : Key, DV K H (dkey k) (kV k)
  | .inl _ => rfl
  | .inr _ => rfl
theorem DKs.get {K : PySem.W.Frag} {H : Hp} {ds : List (Key × D)} {vs : List (Key × V)} (h : DKs K H ds vs) {i : Nat} {p : Key × D} (e : ds[i]? = some p) : ∃ v, vs[i]? = some (p.1, v) ∧ DV K H p.2 v := by
  induction h generalizing i with
  | nil => cases e
  | @cons k d v ds vs r _ ih =>
    cases i with
    | zero => cases e; exact ⟨v, rfl, r⟩
    | succ i =>
      rw [List.getElem?_cons_succ] at e
      obtain ⟨v', h1, h2⟩ := ih e
      exact ⟨v', by rw [List.getElem?_cons_succ]; exact h1, h2⟩
theorem jok_itemsK {K : PySem.W.Frag} {H1 : Hp} {S1 : Sto} {d : Addr} {o : Obj} {kvs : List (Key × D)} {vs : List (Key × V)} (hs : S1 d = none) (hd : H1 d = some (.frz o (.dK vs))) (r : DKs K H1 kvs vs) : JOk K H1 S1 (Iti d o vs) (itK kvs) (fun _ => True) := by
  intro i H S g _
  have h2 := g.frame d _ hs hd
  have r2 := DKs.go g r
  refine ⟨fun x hx => ?_, fun hn => ⟨h2, ?_⟩⟩
  · unfold itK at hx
    rw [List.getElem?_map] at hx
    cases e : kvs[i]? with
    | none => rw [e] at hx; cases hx
    | some p =>
      rw [e] at hx
      cases (Option.some.inj hx)
      obtain ⟨v, e2, dv⟩ := r2.get e
      refine ⟨⟨h2, (List.getElem?_eq_some_iff.mp e2).1⟩, fun w H' ⟨T, k, v', e3, ew, hT, eH⟩ => ?_⟩
      rw [e2] at e3
      cases (Option.some.inj e3)
      subst ew eH
      have g2 := Go.new (K := K) (o := .tup [kV p.1, v]) g.ok hT
      exact ⟨g2, T, _, rfl, .inl upd_same, DVs.cons (dv_dkey _) (DVs.cons (DV.go g2 _ _ dv) DVs.nil)⟩
  · unfold itK at hn
    rw [List.getElem?_map] at hn
    rw [← DKs.length r]
    cases e : kvs[i]? with
    | none => rw [List.getElem?_eq_none_iff] at e; exact e
    | some p => rw [e] at hn; cases hn
def rItemsK (td : RE) : RI := fun ρ S R => td ρ S fun o S1 => match o with
  | .ref a => ∃ kvs, S1 a = some (.dK kvs) ∧ R (itK kvs) (fun _ => True) (rem S1 a)
  | _ => False
theorem pdi_itemsK {e : Expr} {td : RE} {apos cpos : Pos} {elts : List Expr} {kk : Nat} {tpos : Pos} (he : PD X y e td) (hbase : attributeBase e "items" X.env (eval e X.env) = eval e X.env := by rfl) (hline : (apos.endLine == cpos.line) = true := by rfl) :
    PDI X y (.Tuple elts kk tpos) (.Call (.Attribute e "items" apos) [] [] cpos) (rItemsK td) := by
  refine PDI.of (pi_items (pe_lkK he) hbase hline) fun σ H R h => ?_
  obtain ⟨ρ, S, Rd, sr, so, h, k⟩ := h
  refine ⟨ρ, S, _, sr, so, h, fun d S1 v H1 g dv h1 => ?_⟩
  cases d with
  | ref a =>
    cases (show v = V.ref a from dv)
    obtain ⟨kvs, e1, h1⟩ := h1
    obtain ⟨vs, e2, r⟩ := g.ok a _ e1
    refine ⟨a, vs, rfl, e2, fun o => ⟨a, o, vs, rfl, upd_same, ?_⟩⟩
    have g2 := Go.giveK g.ok e1 (.frz o (.dK vs))
    refine k _ _ _ _ _ (g.trans g2) (jok_itemsK (by unfold rem; rw [if_pos rfl]) upd_same (DKs.go g2 r)) h1
  | _ => exact False.elim h1
/-- len of a dict by nested tuples -/
def dLenN : RCall := fun ds S Q => match ds with
  | [.ref a] => ∃ kvs, S a = some (.dN kvs) ∧ Q (.int ((kvs.length : Nat) : Int)) S
  | _ => False
theorem cd_lenN : CallR X (.builtin "len") (lcl X.K dLenN) := by
  intro pins s σ H vs us Q I rv h
  obtain ⟨ds, S, R, dv, so, h, k⟩ := h
  unfold dLenN at h
  split at h
  · rename_i a
    obtain ⟨kvs, e1, h⟩ := h
    obtain ⟨v, rfl, r⟩ := dvs1 dv
    cases (show v = V.ref a from r)
    obtain ⟨u, rfl, rx⟩ := vals1 rv
    cases (show u = Value.ref a from rx)
    obtain ⟨xs, e2, n2, r2⟩ := so a _ e1
    obtain ⟨ys, dd, px, hd, hl⟩ := tn_open I e2 r2
    have l1 : kvs.length = ys.length := (DKN.length r2).trans (Paired.length px)
    have l2 : xs.length = ys.length := Paired.length px
    have hs := sizeLine_eq
    refine call_len_dictH hd dd (by omega) ?_
    rw [← l1]
    exact ⟨.int ((kvs.length : Nat) : Int), H, I.tok _, ⟨_, rfl⟩, k (.int ((kvs.length : Nat) : Int)) S _ H (Go.refl so) rfl h⟩
  · exact h.elim
end
end DL
set_option Elab.async false
set_option linter.all false
set_option maxRecDepth 100000
set_option maxHeartbeats 4000000
/-! DN10: enumerate over a list. -/
namespace DL
open PySem PySem.Spec PyProof.Rows L2
section
variable {X : Cx} {y : DXw}
def rEnumL (t : RA) : RI := fun ρ S R => t ρ S fun ds S1 => match ds with
  | [d] => ∃ xs, RdL S1 d xs ∧ R (enD xs) (fun S' => RdL S' d xs) S1
  | _ => False
theorem jok_enumL {K : PySem.W.Frag} {H1 : Hp} {S1 : Sto} {a : Addr} {d : D} {xs : List D} (dv : DV K H1 d (.ref a)) : JOk K H1 S1 (Ite K a) (enD xs) (fun S' => RdL S' d xs) := by
  intro i H S g hs
  obtain ⟨a', vs, ea, sq, r⟩ := hs.sq g.ok (DV.go g _ _ dv)
  cases ea
  refine ⟨fun x hx => ?_, fun hn => ⟨vs, sq, ?_⟩⟩
  · rw [enD_get] at hx
    cases e : xs[i]? with
    | none => rw [e] at hx; cases hx
    | some d =>
      rw [e] at hx
      cases (Option.some.inj hx)
      obtain ⟨v, e2, dv⟩ := r.get e
      refine ⟨⟨vs, v, sq, e2⟩, fun w H' ⟨T, x, ew, hT, eH, hall⟩ => ?_⟩
      have := hall vs sq
      rw [e2] at this
      cases (Option.some.inj this)
      subst ew eH
      have g2 := Go.new (K := K) (o := .tup [.int (i : Nat), v]) g.ok hT
      exact ⟨g2, T, _, rfl, .inl upd_same, DVs.cons rfl (DVs.cons (DV.go g2 _ _ dv) DVs.nil)⟩
  · rw [enD_get] at hn
    rw [← r.length]
    cases e : xs[i]? with
    | none => rw [List.getElem?_eq_none_iff] at e; exact e
    | some d => rw [e] at hn; cases hn
theorem pdi_enumL {e : Expr} {ta : RA} {p pos tpos : Pos} {elts : List Expr} {kk : Nat} (hm : X.mg "enumerate" = none) (ha : PDA X y [e] ta) (hg : Gl X "enumerate" := by rfl) (hs : starEach [e] X.env = [(false, eval e X.env)] := by rfl) :
    PDI X y (.Tuple elts kk tpos) (.Call (.Name "enumerate" p) [e] [] pos) (rEnumL ta) := by
  refine PDI.of (pi_enum hg hm ha hs) fun σ H R h => ?_
  obtain ⟨ρ, S, Rd, sr, so, h, k⟩ := h
  refine ⟨ρ, S, _, sr, so, h, fun ds S1 vs H1 g dvs hn h1 => ?_⟩
  split at h1
  · rename_i d
    obtain ⟨v, ws, rfl, dv, q⟩ := dvs
    cases (show ws = [] from q)
    obtain ⟨xs, hd, h1⟩ := h1
    obtain ⟨a, us, rfl, sq, r⟩ := hd.sq g.ok dv
    exact ⟨a, us, rfl, sq, k _ _ _ _ _ g (jok_enumL dv) h1⟩
  · exact h1.elim
end
end DL
set_option Elab.async false
set_option linter.all false
set_option maxRecDepth 100000
set_option maxHeartbeats 4000000
/-! DN11: list.index of a tuple of ints, in a list of such. -/
namespace L2
open PySem PySem.Spec PyProof.Rows
theorem Room.units65 {k : Nat} {A : Around} (r : Room k A) : A.units + 65 < cLine := by have := r.un; omega
end L2
namespace DL
open PySem PySem.Spec PyProof.Rows L2
section
variable {X : Cx} {y : DXw}
def tuI (l : List Int) : D := .tup (l.map D.int)
def tuP (l : List Int) : PyData := .tuple (l.map PyData.int)
theorem pyrs_ints {S : Sto} : ∀ l : List Int, PyRs S (l.map D.int) (l.map PyData.int)
  | [] => .nil
  | i :: l => .cons (.int i) (pyrs_ints l)
theorem pyr_tuI {S : Sto} (l : List Int) : PyR S (tuI l) (tuP l) := .tup (pyrs_ints l)
theorem pyrs_tuI {S : Sto} : ∀ ls : List (List Int), PyRs S (ls.map tuI) (ls.map tuP)
  | [] => .nil
  | l :: ls => .cons (pyr_tuI l) (pyrs_tuI ls)
theorem lay_ints : ∀ l : List Int, PyData.canLayAll0 (l.map PyData.int) = true
  | [] => rfl
  | i :: l => by
    show (PyData.canLay0 (.int i) && PyData.canLayAll0 (l.map PyData.int)) = true
    rw [lay_ints l]
    rfl
theorem lay_tuP (l : List Int) : PyData.canLay0 (tuP l) = true := by
  unfold tuP
  rw [show PyData.canLay0 (.tuple (l.map PyData.int)) = PyData.canLayAll0 (l.map PyData.int) from by simp [PyData.canLay0]]
  exact lay_ints l
theorem lay_tuPs : ∀ ls : List (List Int), PyData.canLayAll0 (ls.map tuP) = true
  | [] => rfl
  | l :: ls => by
    show (PyData.canLay0 (tuP l) && PyData.canLayAll0 (ls.map tuP)) = true
    rw [lay_tuPs ls, lay_tuP l]
    rfl
theorem dep_ints : ∀ l : List Int, PyData.depthAll (l.map PyData.int) ≤ 1
  | [] => by simp [PyData.depthAll]
  | i :: l => by
    have := dep_ints l
    have h : PyData.depth (.int i) ≤ 1 := by simp [PyData.depth]
    simp only [List.map_cons, PyData.depthAll]
    omega
theorem dep_tuP (l : List Int) : PyData.depth (tuP l) ≤ 3 := by
  have := dep_ints l
  unfold tuP
  simp only [PyData.depth]
  omega
theorem dep_tuPs : ∀ ls : List (List Int), PyData.depthAll (ls.map tuP) ≤ 3
  | [] => by simp [PyData.depthAll]
  | l :: ls => by
    have := dep_tuPs ls
    have h := dep_tuP l
    simp only [List.map_cons, PyData.depthAll]
    omega
theorem shaped_tuP (l : List Int) : SeqAt.shaped (tuP l) = true := by
  have h1 := lay_tuP l
  have h2 := dep_tuP l
  unfold SeqAt.shaped
  rw [h1, Bool.true_and]
  apply decide_eq_true
  omega
theorem shaped_tuPs (ls : List (List Int)) : SeqAt.shaped (.list (ls.map tuP)) = true := by
  have h1 := lay_tuPs ls
  have h2 := dep_tuPs ls
  unfold SeqAt.shaped
  rw [show PyData.canLay0 (.list (ls.map tuP)) = PyData.canLayAll0 (ls.map tuP) from by simp [PyData.canLay0], h1, Bool.true_and]
  apply decide_eq_true
  simp only [PyData.depth]
  omega
theorem eqv_ints : ∀ a b : List Int, PyData.eqvAll (a.map PyData.int) (b.map PyData.int) = decide (a = b)
  | [], [] => rfl
  | [], _ :: _ => rfl
  | _ :: _, [] => rfl
  | x :: a, z :: b => by
    show (PyData.eqv (.int x) (.int z) && PyData.eqvAll (a.map PyData.int) (b.map PyData.int)) = _
    rw [eqv_ints a b, show PyData.eqv (.int x) (.int z) = (x == z) from by simp [PyData.eqv]]
    by_cases h : x = z
    · by_cases k : a = b <;> simp [h, k]
    · simp [h]
theorem eqv_tuP (a b : List Int) : PyData.eqv (tuP a) (tuP b) = decide (a = b) := by
  unfold tuP
  rw [show PyData.eqv (.tuple (a.map PyData.int)) (.tuple (b.map PyData.int)) = PyData.eqvAll (a.map PyData.int) (b.map PyData.int) from by simp [PyData.eqv]]
  exact eqv_ints a b
def dIndexT : RMt := fun o ds S R => match o, ds with
  | .ref a, [x] => ∃ (ls : List (List Int)) (l : List Int) (j : Nat), x = tuI l ∧ S a = some (.lst (ls.map tuI)) ∧ ls[j]? = some l ∧ (∀ m, m < j → ls[m]? ≠ some l) ∧ R (.int (j : Int)) S
  | _, _ => False
theorem md_indexT (hu : X.A.units + 65 < cLine) : MtR X "list.index" (lmt X.K dIndexT) := by
  intro pins s σ H v vs vv us Q I rv rs h
  obtain ⟨o, ds, S, R, dv, dvs, so, h, k⟩ := h
  refine mt_indexD hu pins s σ H v vs vv us Q I rv rs ?_
  unfold dIndexT at h
  split at h
  · rename_i a x
    cases (show v = V.ref a from dv)
    obtain ⟨w, rfl, dw⟩ := dvs1 dvs
    obtain ⟨ls, l, j, rfl, e, hj, hno, h⟩ := h
    refine ⟨a, w, tuP l, ls.map tuP, j, tuP l, rfl, rfl, PyR.dp so _ _ _ (.lst e (pyrs_tuI ls)) rfl, PyR.dp so _ _ _ (pyr_tuI l) dw, shaped_tuPs ls, shaped_tuP l, by rw [List.getElem?_map, hj]; rfl, by rw [eqv_tuP]; exact decide_eq_true rfl, fun m z hm hz => ?_, k (.int (j : Int)) S _ H (Go.refl so) rfl h⟩
    rw [List.getElem?_map] at hz
    cases q : ls[m]? with
    | none => rw [q] at hz; cases hz
    | some n =>
      rw [q] at hz
      cases (Option.some.inj hz)
      rw [eqv_tuP]
      exact decide_eq_false fun z => hno m hm (by rw [q, z])
  · exact h.elim
end
end DL
set_option Elab.async false
set_option linter.all false
set_option maxRecDepth 100000
set_option maxHeartbeats 4000000
/-! DN12: // of ints of any size, str of ints below 10 ^ 4300 (both want to know that nobody looks on: Seer), sep.join. -/
namespace DL
open PySem PySem.Spec PyProof.Rows L2
structure Seer (base : Heap) : Prop where
  seer : base.NoSeer
  dig : base.NoDigits
section
variable {X : Cx} {y : DXw}
/-- the def that runs is a plain one of the program -/
def StkOk (X : Cx) : Prop := X.prog.given.tree = none ∧ ∃ env l, X.stack = env :: l ∧ env.scope.isGenerator = false ∧ env.scope.isCoroutine = false ∧ env.builtins = builtinsNs ∧ env.globals = mainGlobals
theorem room_pylong {pins : List (Addr × Obj)} {σ : L2.St} {H : Hp} {s : Shared} (I : Inv X pins σ H s) (hs : Seer X.base) (hst : StkOk X) (hd : X.A.depth + 100 < 1000) : PylongRoom (model X.prog X.w) X.A s := by
  obtain ⟨ht, env, l, e, h1, h2, h3, h4⟩ := hst
  exact PylongRoom.of (I.env0.mod.nolimit.keeps fun b o e => (I.env0.bs b o e).1) hd (SeerAt.of (hs.seer.keeps fun b o e => (I.env0.bs b o e).1) ht (by rw [← e]; exact I.env0.frames) h1 h2 h3 h4)
theorem room_deep {j : Nat} {A : Around} (hr : Room j A) (h : 32 ≤ j) : A.depth + 100 < 1000 := by
  have := hr.dp
  have e : recursionLimit = 1000 := rfl
  omega
def dFdivS : ROp
  | .int i, .int j, S, R => 0 < j ∧ R (.int (i / j)) S
  | _, _, _, _ => False
theorem od_fdivS (hs : Seer X.base) (hst : StkOk X) (hd : X.A.depth + 100 < 1000) : OpR X (binaryOp .FloorDiv) (lop X.K dFdivS) := by
  intro pins s σ H v w vv ww Q I rv rw' h
  obtain ⟨x, y, S, R, dx, dy, so, h, k⟩ := h
  cases x <;> cases y <;> first | exact False.elim h | skip
  case int.int i j =>
    cases (show v = V.int i from dx); cases (show w = V.int j from dy)
    obtain ⟨t, rfl⟩ := rv
    obtain ⟨t', rfl⟩ := rw'
    have h1 : (0 : Int) < j := h.1
    refine floordiv_int (by omega) ?_ (.inr (room_pylong I hs hst hd))
    rw [Int.fdiv_eq_ediv_of_nonneg i (by omega)]
    exact ⟨.int (i / j), H, I.tok _, ⟨_, rfl⟩, k (.int (i / j)) S _ H (Go.refl so) rfl h.2⟩
def dStrB : RCall := fun ds S Q => match ds with
  | [.int i] => i.natAbs < 10 ^ 4300 ∧ Q (.str (toString i)) S
  | _ => False
theorem cd_strB (hc : X.A.handled = none) (hs : Seer X.base) : CallR X (.type "str") (lcl X.K dStrB) := by
  intro pins s σ H vs us Q I rv h
  obtain ⟨ds, S, R, dv, so, h, k⟩ := h
  unfold dStrB at h
  split at h
  · rename_i i
    obtain ⟨v, rfl, r⟩ := dvs1 dv
    cases (show v = V.int i from r)
    obtain ⟨u, rfl, ru⟩ := vals1 rv
    obtain ⟨t, rfl⟩ := ru
    exact str_of_int_or hc (hs.dig.keeps fun b o e => (I.env0.bs b o e).1) (fun _ => ⟨.str (toString i), H, I.tok _, ⟨_, rfl⟩, k (.str (toString i)) S _ H (Go.refl so) rfl h.2⟩) (fun z => absurd h.1 (Nat.not_lt.mpr z))
  · exact h.elim
/-! sep.join(a list of texts) -/
def dJoin : RMt := fun o ds S R => match o, ds with
  | .str a, [d] => ∃ ys : List Str, RdL S d (ys.map D.str) ∧ (ys.map (·.length)).sum + ys.length * a.length ≤ 16777216 ∧ R (.str (Txt.join a ys)) S
  | _, _ => False
theorem strs_of {K : PySem.W.Frag} {H : Hp} : ∀ {ys : List Str} {vs : List V}, DVs K H (ys.map D.str) vs → vs = ys.map V.str
  | [], vs, h => by cases (show vs = [] from h); rfl
  | y :: ys, vs, h => by
    obtain ⟨v, ws, rfl, r, q⟩ := h
    cases (show v = V.str y from r)
    rw [strs_of q]
    rfl
theorem md_join : MtR X "str.join" (lmt X.K dJoin) := by
  intro pins s σ H v vs vv us Q I rv rs h
  obtain ⟨o, ds, S, R, dv, dvs, so, h, k⟩ := h
  refine mt_join pins s σ H v vs vv us Q I rv rs ?_
  unfold dJoin at h
  split at h
  · rename_i a d
    cases (show v = V.str a from dv)
    obtain ⟨w, rfl, dw⟩ := dvs1 dvs
    obtain ⟨ys, hx, hl, h⟩ := h
    obtain ⟨p, ws, rfl, q, r⟩ := hx.sq so dw
    cases strs_of r
    exact ⟨a, p, ys, rfl, rfl, .inl q, hl, k (.str (Txt.join a ys)) S _ H (Go.refl so) rfl h⟩
  · exact h.elim
def isS : D → Prop
  | .str _ => True
  | _ => False
def rSM (q : RMt) (to : RE) (ta : RA) : RE := fun ρ S Q => to ρ S fun o S1 => isS o ∧ ta ρ S1 fun ds S2 => q o ds S2 Q
theorem isS_ty {K : PySem.W.Frag} {H : Hp} {d : D} {v : V} (dv : DV K H d v) (h : isS d) : tyV K "str" v H := by
  cases d with
  | str a =>
    cases (show v = V.str a from dv)
    rfl
  | _ => exact False.elim h
theorem pd_sm {o e : Expr} {es : List Expr} {to : RE} {ta : RA} {name : Str} {id : String} {apos cpos : Pos} {q : RMt} (slot : Slot "str" name id) (hty : typeOf (.builtin id) = pure (.type "method_descriptor")) (hm : MtR X id (lmt X.K q)) (ho : PD X y o to) (ha : PDA X y (e :: es) ta)
    (hbase : attributeBase o name X.env (eval o X.env) = eval o X.env := by rfl)
    (hfew : ((backTo cpos (starEach (e :: es) X.env)).all (fun x => !x.1) && (backToKw cpos (keywordEach [] X.env)).all (fun x => x.1.isSome)
      && decide ((e :: es).length + ([] : List Keyword).length + (if ([] : List Keyword).isEmpty then 0 else 1) < 30)) = true := by rfl)
    (hline : (apos.endLine == cpos.line) = true := by rfl) (hs : starEach (e :: es) X.env = (false, eval e X.env) :: starEach es X.env := by rfl) (hplain : (backTo cpos (starEach es X.env)).any (·.1) = false := by rfl) :
    PD X y (.Call (.Attribute o name apos) (e :: es) [] cpos) (rSM q to ta) :=
  PD.of (pe_bm PySem.F.plainAttrs_str slot hty hm ho ha hbase hfew hline hs hplain) fun σ H Q h => by
    obtain ⟨ρ, S, R, sr, so, h, k⟩ := h
    refine ⟨ρ, S, _, sr, so, h, fun d S1 v H1 g1 dv h1 => ⟨isS_ty dv h1.1, ρ, S1, _, sr.go g1, so.go g1, h1.2, fun ds S2 vs H2 g2 dvs hn h2 => ?_⟩⟩
    exact ⟨d, ds, S2, R, DV.go g2 _ _ dv, dvs, g2.ok, h2, fun d S' z H' g dz hz => k d S' z H' (g1.trans (g2.trans g)) dz hz⟩
/-! d[k], d a dict of the module with written texts for keys and values -/
def dIxC (z : Addr) (f : Str → Option Str) : ROp
  | .ref a, .str s, S, R => a = z ∧ ∃ v, f s = some v ∧ R (.str v) S
  | _, _, _, _ => False
theorem id_kd {z : Addr} {f : Str → Option Str} (hf : ∀ s v, f s = some v → KDct X.K X.w z s (.str v)) : IxR X (lop X.K (dIxC z f)) := by
  intro a b pins s σ H v w vv ww Q I rv rw' h hs
  obtain ⟨x, y, S, R, dx, dy, so, h, k⟩ := h
  cases x <;> cases y <;> first | exact False.elim h | skip
  case ref.str a t =>
    cases (show v = V.ref a from dx); cases (show w = V.str t from dy)
    obtain ⟨rfl, v, e, h⟩ := h
    exact ix_kdict _ _ pins s σ H _ _ vv ww Q I rv rw' ⟨a, t, .str v, rfl, rfl, hf t v e, k (.str v) S _ H (Go.refl so) rfl h⟩ hs
theorem pd_ixC {z : Addr} {f : Str → Option Str} {a b : Expr} {te ti : RE} {pos : Pos} (hf : ∀ s v, f s = some v → KDct X.K X.w z s (.str v)) (ha : PD X y a te) (hb : PD X y b ti) (hs : PlainIx b := by exact fun _ _ => rfl) : PD X y (.Subscript a b pos) (rBin (dIxC z f) te ti) :=
  PD.of (pe_ix (id_kd hf) ha hb hs) fun _ _ _ h => bin_of (fun _ _ _ _ z => z) h
end
/-! ### the law's own call -/
theorem top_callS {P : Program} {w : World} {K : PySem.W.Frag} {mg mb : Str → Option Value} {CX : CXT} {k : Nat} {fn a : Addr} {fd : FuncData} {x : Str} {sp : Sp} {t : Shared} {vs : List Value} {ns : List Int}
    (inK : K.In t.heap) (g1 : t.heap.Ns mainGlobals mg) (g2 : t.heap.Ns builtinsNs mb) (g3 : ∀ x : Str, x ≠ "__name__" → mb x = bootBuiltins x) (g4 : t.heap.NoLimit) (g5 : t.gens = #[])
    (obj : t.heap.get? a = some { cls := .type "list", data := .seq vs.toArray }) (areInts : IntsAre vs ns) (hshort : ns.length ≤ sizeLine) (room : Room k callerA)
    (hseer : t.heap.NoSeer) (hdig : t.heap.NoDigits) (F : ∀ base : Heap, K.In base → base.Ns mainGlobals mg → Seer base → FnOk P w K mg base CX k fn fd [x] sp) (bind : ∀ (s : Shared) (u : Value), BindsTo s fd ⟨[u], []⟩ [(x, u)])
    (promise : ∀ H : Hp, Only H → SqL K H a (ns.map V.int) → sp [.ref a] H (fun v _ => v = .bl true) fun _ _ _ => False)
    (noX : ∀ H e s', CX [] H t (fun _ _ _ => False) e s' → False) :
    codeAny (model P w) callerA (.call (.ref fn) ⟨[.ref a], []⟩) (fun r s' => r = .ok (.ret (.bool true)) ∧ OldK t.heap s'.heap ∧ s'.os = t.os ∧ AllBare s'.gens) t := by
  have vals := vals_ints areInts
  have vl := areInts.length
  suffices key : ∀ H : Hp, Only H → SqL K H a (ns.map V.int) → HOk P w H t.heap → (∀ b, H b ≠ none → b = a) → (H a ≠ none → K.lookup a = none) →
      codeAny (model P w) callerA (.call (.ref fn) ⟨[.ref a], []⟩) (fun r s' => r = .ok (.ret (.bool true)) ∧ OldK t.heap s'.heap ∧ s'.os = t.os ∧ AllBare s'.gens) t by
    cases look : K.lookup a with
    | some o =>
      have same := (inK a o look).symm.trans obj
      cases same
      exact key (fun _ => none) (fun _ => .inl rfl) (.inr ⟨_, vs.toArray, _, look, rfl, rfl, rfl, by rw [List.size_toArray, vl]; exact hshort, by simpa using vals⟩) (fun b u z => nomatch (show (none : Option HO) = some u from z)) (fun b z => absurd rfl z) (fun z => absurd rfl z)
    | none =>
      have at_a : ∀ b, b ≠ a → (if b = a then some (HO.frz { cls := .type "list", data := .seq vs.toArray } (.lst (ns.map V.int))) else none) = none := fun b z => if_neg z
      refine key (fun b => if b = a then some (.frz { cls := .type "list", data := .seq vs.toArray } (.lst (ns.map V.int))) else none) (fun b => ?_) (.inl (.inr ⟨_, if_pos rfl⟩)) (fun b u z => ?_) (fun b z => ?_) (fun _ => look)
      · rcases Classical.em (b = a) with y | y
        · exact .inr ⟨_, _, if_pos y⟩
        · exact .inl (at_a b y)
      · rcases Classical.em (b = a) with y | y
        · subst y
          cases (if_pos rfl).symm.trans z
          exact ⟨obj, by rw [List.length_map]; exact hshort, vs, _, vals, obj⟩
        · cases (at_a b y).symm.trans z
      · exact Classical.byContradiction fun y => z (at_a b y)
  intro H only sq hok onlyA freeA
  have under : ∀ {b : Addr} {o : Obj}, t.heap.get? b = some o → H b = none → (hidT t.heap H).get? b = some o := fun e n => hidT_get e n
  have noDict : ∀ {b : Addr} {o : Obj} {es : Array DictEntry} {ep : Nat}, t.heap.get? b = some o → o.data = .dict es ep → H b = none := by
    intro b o es ep e d
    refine Classical.byContradiction fun z => ?_
    have := onlyA b z
    subst this
    cases obj.symm.trans e
    cases d
  have nsU : ∀ {b : Addr} {m : Str → Option Value}, t.heap.Ns b m → (hidT t.heap H).Ns b m := by
    rintro b m ⟨o, es, ep, e, d, r⟩
    exact ⟨o, es, ep, under e (noDict e d), d, r⟩
  have inU : K.In (hidT t.heap H) := fun b o e => under (inK b o e) (Classical.byContradiction fun z => by
    have := onlyA b z
    subst this
    rw [freeA z] at e
    cases e)
  obtain ⟨mc, l1, l2⟩ := g4
  have md : Mod K mg (hidT t.heap H) := ⟨inU, nsU g1, ⟨mb, nsU g2, g3⟩, ⟨mc, nsU l1, l2⟩⟩
  have noMod : ∀ {b : Addr} {o : Obj}, t.heap.get? b = some o → o.cls = .type "module" → H b = none := by
    intro b o e d
    refine Classical.byContradiction fun z => ?_
    have := onlyA b z
    subst this
    have hc := congrArg Obj.cls (Option.some.inj (obj.symm.trans e))
    rw [d] at hc
    have hc : Value.type "list" = Value.type "module" := hc
    injection hc with hc
    exact absurd hc (by decide)
  have seer : Seer (hidT t.heap H) := by
    refine ⟨⟨?_, ?_, ?_, ?_⟩, ?_⟩
    · obtain ⟨mc, a1, a2⟩ := hseer.statics
      exact ⟨mc, nsU a1, a2⟩
    · obtain ⟨mm, a1, a2⟩ := hseer.mods
      exact ⟨mm, nsU a1, a2⟩
    · obtain ⟨mb, a1, a2⟩ := hseer.imp
      exact ⟨mb, nsU a1, a2⟩
    · obtain ⟨mg, bm, ob, a1, a2, a3, a4, a5⟩ := hseer.main
      exact ⟨mg, bm, ob, nsU a1, a2, under a3 (noMod a3 a4), a4, a5⟩
    · obtain ⟨mc, a1, a2⟩ := hdig
      exact ⟨mc, nsU a1, a2⟩
  have env : Env0 P w K mg (hidT t.heap H) callerA [] t H := ⟨rfl, md, fun b o e => of_hidT e, Nat.le_of_eq (hidT_size _ _), trivial, (fun b hb => absurd (List.mem_nil_iff b |>.mp hb) id), hok, .of_eq g5⟩
  refine codeAny_mono ((F _ inU (nsU g1) seer).run callerA [] t H ⟨[.ref a], []⟩ [.ref a] [.ref a] _ _ room env (bind t (.ref a)) (.cons rfl .nil) (promise H only sq)) fun r s' out => ?_
  cases r with
  | error e => exact (noX H e s' out).elim
  | ok fl =>
    cases fl with
    | ret u =>
      obtain ⟨v, H2, os, bare, un, hok2, rel, q⟩ := out
      cases (show v = .bl true from q)
      cases (show u = Value.bool true from rel)
      refine ⟨rfl, OldK.of_keep fun b o e => ?_, os, bare⟩
      cases hb : H b with
      | none => exact un.keep b o e hb (fun z => by cases z) (by simp)
      | some c =>
        rcases only b with z | ⟨ob, xs, z⟩
        · rw [hb] at z; cases z
        · have e1 := (hok b _ z).1
          have e2 := (hok2 b _ (un.frzs b ob _ z)).1
          cases e1.symm.trans e
          exact e2
    | next => exact False.elim out
    | brk => exact False.elim out
    | cont => exact False.elim out
theorem walk_ofS {l : PySem.W.OpenLaw} {n k : Nat} {q : Program} {loose : List Str} {XP : (Str → Option Value) → Heap → Prop} {YP : World → Heap → Prop} {d : DefRec} {K : Params → PySem.W.Frag} {CX : World → CXT} {sp : World → Sp} {x : Str}
    (himp : importsNone q = true) (hn : l.most = some n) (hn2 : n ≤ sizeLine) (hdf : d.params.defaults = []) (room : Room k callerA) (hY : ∀ (w : World) (h : Heap), YP w h → (K w.params).In h)
    (F : ∀ (w : World) (mg : Str → Option Value) (fn : Addr) (h : Heap), (K w.params).In h → h.Ns mainGlobals mg → mg d.name = some (.ref fn) →
      ∃ fd : FuncData, (∀ (s : Shared) (u : Value), BindsTo s fd ⟨[u], []⟩ [(x, u)]) ∧ ∀ base : Heap, (K w.params).In base → base.Ns mainGlobals mg → Seer base → FnOk l.prog w (K w.params) mg base (CX w) k fn fd [x] (sp w))
    (promise : ∀ (w : World) (H : Hp) (a : Addr) (ns : List Int), ns.length ≤ n → Only H → SqL (K w.params) H a (ns.map V.int) → sp w [.ref a] H (fun v _ => v = .bl true) fun _ _ _ => False)
    (noX : ∀ (w : World) (H : Hp) (s : Shared) (e : Value) (s' : Shared), CX w [] H s (fun _ _ _ => False) e s' → False) :
    PySem.W.WalkO q loose XP YP l.row.toRowW d [] (fun f vs => PySem.call f vs) :=
  Att.attach_call hn hdf fun w _ t mg mb fn _ _ _ _ a vs ns G Y _ _ _ named obj areInts hshort gens => by
    have inK := hY w _ Y
    obtain ⟨fd, b, FF⟩ := F w mg fn _ inK G.T.g named
    exact top_callS inK G.T.g G.T.b G.T.builtins G.T.nolimit gens obj areInts (Nat.le_trans hshort hn2) room (G.T.seer himp) G.T.nodigits FF b (fun H only sq => promise w H a ns hshort only sq) fun H e s' => noX w H t e s'
end DL
set_option Elab.async false
set_option linter.all false
set_option maxRecDepth 100000
set_option maxHeartbeats 4000000
/-! DN13: texts read: walks over a text, split, partition, startswith, endswith, in, int, slices; a call of a def that a slot holds. -/
namespace DL
open PySem PySem.Spec PyProof.Rows L2
/-- the signs of a text -/
def chD (x : Str) : List D := x.cps.toList.map fun c => D.str ⟨#[c]⟩
theorem chD_len {x : Str} : (chD x).length = x.length := by unfold chD; rw [List.length_map, Array.length_toList]; rfl
section
variable {X : Cx} {y : DXw}
def rItS (t : RE) : RI := fun ρ S R => t ρ S fun d S1 => match d with
  | .str x => R (chD x) (fun _ => True) S1
  | _ => False
theorem jok_str {K : PySem.W.Frag} {H1 : Hp} {S1 : Sto} {x : Str} : JOk K H1 S1 (Its x) (chD x) (fun _ => True) := by
  intro i H S g _
  refine ⟨fun d hd => ?_, fun hn => ?_⟩
  · unfold chD at hd
    rw [List.getElem?_map] at hd
    cases e : x.cps.toList[i]? with
    | none => rw [e] at hd; cases hd
    | some c =>
      rw [e] at hd
      cases (Option.some.inj hd)
      have e2 : x.cps[i]? = some c := by rw [← Array.getElem?_toList]; exact e
      refine ⟨(Array.getElem?_eq_some_iff.mp e2).1, fun v H' ⟨eH, c', e3, ev⟩ => ?_⟩
      rw [e2] at e3
      cases (Option.some.inj e3)
      subst eH ev
      exact ⟨Go.refl g.ok, rfl⟩
  · unfold chD at hn
    rw [List.getElem?_eq_none_iff, List.length_map, Array.length_toList] at hn
    exact hn
theorem pdi_str {tg e : Expr} {t : RE} (he : PD X y e t) : PDI X y tg e (rItS t) := by
  refine PDI.of (pi_str he) fun σ H R h => ?_
  obtain ⟨ρ, S, Rd, sr, so, h, k⟩ := h
  refine ⟨ρ, S, _, sr, so, h, fun d S1 v H1 g dv h1 => ?_⟩
  cases d with
  | str x =>
    cases (show v = V.str x from dv)
    exact ⟨x, rfl, k _ _ _ _ _ g jok_str h1⟩
  | _ => exact False.elim h1
/-! methods -/
def dSplit : RMt := fun o ds S R => match o, ds with
  | .str a, [.str b] => ((b.length == 0) = false ∧ a.length + 2 ≤ sizeLine) ∧ ∀ p, S p = none → R (.ref p) (sup S p (.lst ((Txt.split a b).map D.str)))
  | _, _ => False
theorem dvs_strs {K : PySem.W.Frag} {H : Hp} : ∀ ys : List Str, DVs K H (ys.map D.str) (ys.map V.str)
  | [] => DVs.nil
  | _ :: ys => DVs.cons rfl (dvs_strs ys)
theorem md_split : MtR X "str.split" (lmt X.K dSplit) := by
  intro pins s σ H v vs vv us Q I rv rs h
  obtain ⟨o, ds, S, R, dv, dvs, so, h, k⟩ := h
  refine mt_split pins s σ H v vs vv us Q I rv rs ?_
  unfold dSplit at h
  split at h
  · rename_i a b
    cases (show v = V.str a from dv)
    obtain ⟨w, rfl, dw⟩ := dvs1 dvs
    cases (show w = V.str b from dw)
    exact ⟨a, b, rfl, rfl, h.1.1, h.1.2, fun p hp => k (.ref p) _ _ _ (Go.newLst so hp (dvs_strs _)) rfl (h.2 p (so.free hp))⟩
  · exact h.elim
def dPart : RMt := fun o ds S R => match o, ds with
  | .str a, [.str b] => ((b.length == 0) = false ∧ a.length ≤ sizeLine) ∧ R (.tup [.str (Txt.partition a b).1, .str (Txt.partition a b).2.1, .str (Txt.partition a b).2.2]) S
  | _, _ => False
theorem md_partition : MtR X "str.partition" (lmt X.K dPart) := by
  intro pins s σ H v vs vv us Q I rv rs h
  obtain ⟨o, ds, S, R, dv, dvs, so, h, k⟩ := h
  refine mt_partition pins s σ H v vs vv us Q I rv rs ?_
  unfold dPart at h
  split at h
  · rename_i a b
    cases (show v = V.str a from dv)
    obtain ⟨w, rfl, dw⟩ := dvs1 dvs
    cases (show w = V.str b from dw)
    refine ⟨a, b, rfl, rfl, h.1.1, h.1.2, fun p hp => ?_⟩
    have g := Go.new (K := X.K) (o := .tup [V.str (Txt.partition a b).1, .str (Txt.partition a b).2.1, .str (Txt.partition a b).2.2]) so hp
    exact k (.tup [.str (Txt.partition a b).1, .str (Txt.partition a b).2.1, .str (Txt.partition a b).2.2]) S _ _ g ⟨p, _, rfl, .inl upd_same, DVs.cons rfl (DVs.cons rfl (DVs.cons rfl DVs.nil))⟩ h.2
  · exact h.elim
def dSB (f : Str → Str → Bool) : RMt := fun o ds S R => match o, ds with
  | .str a, [.str b] => R (.bl (f a b)) S
  | _, _ => False
theorem md_sb {id : String} {f : Str → Str → Bool} (hm : MtR X id (fun x xs H Q => ∃ a b, x = .str a ∧ xs = [.str b] ∧ Q (.bl (f a b)) H)) : MtR X id (lmt X.K (dSB f)) := by
  intro pins s σ H v vs vv us Q I rv rs h
  obtain ⟨o, ds, S, R, dv, dvs, so, h, k⟩ := h
  refine hm pins s σ H v vs vv us Q I rv rs ?_
  unfold dSB at h
  split at h
  · rename_i a b
    cases (show v = V.str a from dv)
    obtain ⟨w, rfl, dw⟩ := dvs1 dvs
    cases (show w = V.str b from dw)
    exact ⟨a, b, rfl, rfl, k (.bl (f a b)) S _ H (Go.refl so) rfl h⟩
  · exact h.elim
theorem md_startswith : MtR X "str.startswith" (lmt X.K (dSB Txt.startswith)) := md_sb mt_startswith
theorem md_endswith : MtR X "str.endswith" (lmt X.K (dSB Txt.endswith)) := md_sb mt_endswith
/-! in -/
def inS (a b : Str) : Bool := !(Builtin.Str.occurrences b a 0 b.length 1).isEmpty
def dInS : ROp
  | .str i, .str j, S, R => R (.bl (inS i j)) S
  | _, _, _, _ => False
theorem od_inS : OpR X (compareOp .In) (lop X.K dInS) := by
  intro pins s σ H v w vv ww Q I rv rw' h
  obtain ⟨x, z, S, R, dx, dz, so, h, k⟩ := h
  cases x <;> cases z <;> first | exact False.elim h | skip
  case str.str i j =>
    cases (show v = V.str i from dx); cases (show w = V.str j from dz)
    exact op_in_str pins s σ H _ _ vv ww Q I rv rw' ⟨i, j, rfl, rfl, k (.bl (inS i j)) S _ H (Go.refl so) rfl h⟩
/-! int(text) -/
def dIntS : RCall := fun ds S Q => match ds with
  | [.str a] => ∃ n, PySem.intText? a = some n ∧ a.length ≤ 640 ∧ Q (.int n) S
  | _ => False
theorem cd_intS : CallR X (.type "int") (lcl X.K dIntS) := by
  intro pins s σ H vs us Q I rv h
  obtain ⟨ds, S, R, dv, so, h, k⟩ := h
  refine call_int_str pins s σ H vs us Q I rv ?_
  unfold dIntS at h
  split at h
  · rename_i a
    obtain ⟨v, rfl, r⟩ := dvs1 dv
    cases (show v = V.str a from r)
    obtain ⟨n, h1, h2, h3⟩ := h
    exact ⟨a, n, rfl, h1, h2, k (.int n) S _ H (Go.refl so) rfl h3⟩
  · exact h.elim
/-! slices -/
def dSlS : RSl := fun d lo hi S R => match d with
  | .str z => z.length ≤ sizeLine ∧ R (.str (cutS z lo hi)) S
  | _ => False
theorem sd_slS : SlR X (lsl X.K dSlS) := by
  intro pins s σ H x v vl vu lo hi sl Q I rx hs pl pu h
  obtain ⟨d, S, R, dv, so, h, k⟩ := h
  refine sl_str pins s σ H x v vl vu lo hi sl Q I rx hs pl pu ?_
  cases d with
  | str z =>
    cases (show x = V.str z from dv)
    exact ⟨z, rfl, h.1, k (.str _) S _ H (Go.refl so) rfl h.2⟩
  | _ => exact False.elim h
def rSlT (te : RE) (tl th : RO) : RE := fun ρ S Q => te ρ S fun d S1 => tl ρ S1 fun l S2 => th ρ S2 fun u S3 => dSlS d l u S3 Q
theorem pd_sliceS {e : Expr} {te : RE} {lo hi : Option Expr} {tl th : RO} {pos p2 : Pos} (he : PD X y e te) (hl : PDO X y lo tl) (hu : PDO X y hi th) : PD X y (.Subscript e (.Slice lo hi none p2) pos) (rSlT te tl th) := by
  refine PD.of (pe_slice sd_slS he hl hu) fun σ H Q h => ?_
  obtain ⟨ρ, S, R, sr, so, h, k⟩ := h
  refine ⟨ρ, S, _, sr, so, h, fun d S1 v H1 g1 dv h1 => ⟨ρ, S1, _, sr.go g1, so.go g1, h1, fun l S2 H2 g2 h2 => ⟨ρ, S2, _, (sr.go g1).go g2, (so.go g1).go g2, h2, fun u S3 H3 g3 h3 => ?_⟩⟩⟩
  exact ⟨d, S3, R, DV.go (g2.trans g3) _ _ dv, g3.ok, h3, fun d S' z H' g dz hz => k d S' z H' (g1.trans (g2.trans (g3.trans g))) dz hz⟩
/-! a call of a def that a slot holds: one of several -/
def rCallV (y : DXw) (i : Nat) (Fs : Addr → DSp → Prop) (ta : RA) : RE := fun ρ S Q => ∃ f spec, ρ[i]? = some (some (.ref f)) ∧ Fs f spec ∧ ta ρ S fun ds S1 => spec ds S1 Q fun C d S' => y.d C d ρ S'
theorem pd_callV {x : Str} {p pos : Pos} {e : Expr} {es : List Expr} {k : Nat} (i : Nat) {Fs : Addr → DSp → Prop} {ta : RA} (tk : Takes X y.W)
    (A : ∀ f spec, Fs f spec → ∃ k' fd ps, k' ≤ k ∧ FnOk X.prog X.w X.K X.mg X.base (L2.CX X.prog X.w) k' f fd ps (toSp X.K spec) ∧ PySem.W.keepIn X.K (.ref f) = true ∧ Binds X.K fd ps [])
    (hr : Room k X.A) (ha : PDA X y (e :: es) ta) (hN : X.N[i]? = some x := by rfl) (hv : Vis X.env.scope x := by first | exact Or.inl rfl | exact Or.inr (Or.inl rfl) | exact Or.inr (Or.inr rfl))
    (hdb : (x == ("__debug__" : Str)) = false := by decide) (hcd : (x == ("__classdict__" : Str)) = false := by decide)
    (he : starEach (e :: es) X.env = (false, eval e X.env) :: starEach es X.env := by rfl) (hpl : (backTo pos (starEach es X.env)).any (·.1) = false := by rfl) :
    PD X y (.Call (.Name x p) (e :: es) [] pos) (rCallV y i Fs ta) := by
  refine ⟨fun pins s σ H Q I h => ?_⟩
  obtain ⟨ρ, S, R, sr, so, ⟨f, spec, hs, hF, ht⟩, kk⟩ := h
  obtain ⟨k', fd, ps, hk', F, hkp, hb⟩ := A f spec hF
  obtain ⟨v0, hs0, dv0⟩ := sr.2 i _ hs
  cases (show v0 = V.ref f from dv0)
  refine wpAny_Call_Name_kw (thn ((pe_var (pos := p) hN hv hdb hcd).run pins s σ H (fun v H1 => v = .ref f ∧ H1 = H) I ⟨.ref f, hs0, rfl, rfl⟩) fun u s1 ⟨v, H1, I1, r1, q1⟩ => ?_)
  obtain ⟨rfl, rfl⟩ := q1
  cases r1
  refine PySem.W.callWith_K (h₀ := X.base) I.ok.mod.kin hkp (thn (ha.run pos pins s1 σ _ (fun vs H1 => toSp X.K spec vs H1 Q (WE y.W σ)) I1 ?_) fun us s2 ⟨vs, H2, I2, r, q⟩ => ⟨I2.kIn, ?_⟩) he hpl
  · exact ⟨ρ, S, _, sr, so, ht, fun ds S1 vs H1 g1 dvs hn h1 => ⟨ds, S1, R, _, dvs, g1.ok, h1, fun d S2 v H2 g2 dv q => kk d S2 v H2 (g1.trans g2) dv q, fun C d S2 dx w H2 g2 e dw q => (so.go g1).xo C d ρ S2 dx w σ H2 g2 (sr.go (g1.trans g2)) e dw q⟩⟩
  · exact run_fnS (E := WE y.W) F (hr.mono hk') hb (passAt tk σ) I2 r q
end
end DL
set_option Elab.async false
set_option linter.all false
set_option maxRecDepth 100000
set_option maxHeartbeats 4000000
/-! DN14: a, *b = a list; (*t, x); dict comprehensions over the items of a written dict of texts; len(set(list of ints)). -/
namespace DL
open PySem PySem.Spec PySem.W PyProof.Rows L2
section
variable {X : Cx} {y : DXw} {pos : Pos}
/-! a, *b = list -/
theorem pgs_consStar {e : Expr} {es : List Expr} {p : Pos} {t : TG} {u : TGs} (h1 : PG X e t) (h2 : PGs X es u)
    (hs : (assignEach (.Starred e p :: es) X.env).map (·.2) = assign e X.env :: (assignEach es X.env).map (·.2) := by rfl) : PGs X (.Starred e p :: es) (gCons t u) := by
  refine ⟨fun pins s σ H vs us Q I r h => ?_⟩
  obtain ⟨v, vr, e1, h⟩ := h
  subst e1
  cases r with
  | cons r rr =>
    rw [hs]
    refine assignInOrder_cons (thn (h1.run pins s σ H _ _ _ I r h) fun _ s1 ⟨σ1, H1, I1, q1⟩ => ?_)
    exact h2.run pins s1 σ1 H1 _ _ Q I1 rr q1
def gStarL (K : PySem.W.Frag) (t : TGs) : TG := fun v σ H Q => ∃ a x xs, v = .ref a ∧ SqL K H a (x :: xs) ∧ xs.length + 1 ≤ 16384 ∧ ∀ p, H p = none → t [x, .ref p] σ (upd H p (.lst xs)) Q
theorem pg_starL {es : List Expr} {k : Nat} {t : TGs} (hc : X.calm = true) (h : PGs X es t) (hn : (assignEach es X.env).length = 2 := by rfl) (hst : (assignEach es X.env).findIdx? (·.1) = some 1 := by rfl) : PG X (.Tuple es k pos) (gStarL X.K t) := by
  refine ⟨fun pins s σ H v u Q I r hw => ?_⟩
  obtain ⟨a, x, xs, e1, hq, hz, hw⟩ := hw
  subst e1
  cases r
  obtain ⟨its, rv, pl, hzz⟩ := I.list hq
  have hl := pl.isList
  obtain ⟨x0, us, rfl, rx, rr⟩ : ∃ x0 us, its = x0 :: us ∧ RelV x x0 ∧ Vals xs us := by
    cases rv with
    | cons a b => exact ⟨_, _, rfl, a, b⟩
  have hlen : us.length = xs.length := rr.length.symm
  have hsz : ((x0 :: us).toArray).size = us.length + 1 := by simp
  have hh := I.ok.hd hc
  have hlt : a ≠ s.heap.objs.size := by obtain ⟨o, ho, _⟩ := hl; exact Nat.ne_of_lt (Heap.lt_size ho)
  rw [assign_Tuple]
  refine wpAny_bind (wpAny_standAt ?_)
  unfold unpack
  rw [hn, hst]
  refine wpAny_bind (wpAny_holding ?_)
  unfold unpackItems
  refine wpAny_bind ?_
  unfold notIterableAtAll
  refine wpAny_bind (wpAny_specialOf hl.typeIs slot_list_iter.lookup ?_)
  refine wpAny_pure ?_
  simp only [Bool.false_eq_true, if_false]
  refine wpAny_bind (wpAny_holding (wpAny_pyIter_list hl ?_))
  refine wpAny_bind (wpAny_holding (kun_draw hlt 1 0 _ _ ⟨_, Heap.get?_push_size _ rfl, rfl, rfl⟩ (hl.push _) (by omega) fun h₁ hit₁ hs₁ => ?_))
  have hl₁ : h₁.IsList a (x0 :: us).toArray := (hl.push _).extBut hs₁.extBut hlt
  rw [Nat.zero_add] at hit₁
  have hit₁' := hit₁
  obtain ⟨oi, hoi, _⟩ := hit₁'
  have hl₁' := hl₁
  obtain ⟨ol, hol, _⟩ := hl₁'
  rw [List.drop_zero]
  have e1 : (x0 :: us).toArray.toList.take 1 = [x0] := by simp
  have e2 : (x0 :: us).toArray.toList.drop 1 = us := by simp
  rw [e1, if_neg (show ¬ ([x0].length < 1) by simp)]
  refine wpAny_bind (wpAny_holding (kun_collect (s := { s with heap := h₁ }) (T := "list_iterator") (.inr (.inr (.inl rfl))) (Walks.list (A := X.A.in1) hh s.heap.objs.size a hlt (x0 :: us).toArray) (fun j u st => st.1.typeIs) (k := 1) (by omega) ⟨hit₁, hl₁⟩ (Heap.lt_size hoi) (Heap.lt_size hol) (fun h₂ tk hk => ?_) (by rw [sizeLine_eq]; omega)))
  rw [e2]
  show wpAny _ _ (if us.length < 2 - 1 - 1 then _ else _) _ _ _
  rw [if_neg (by omega)]
  show wpAny _ _ (newList (us.take (us.length - (2 - 1 - 1))) >>= fun d => pure ([x0] ++ [d] ++ us.drop (us.length - (2 - 1 - 1)))) _ _ _
  have e3 : us.length - (2 - 1 - 1) = us.length := by omega
  rw [e3, List.take_length, List.drop_length]
  have he : ∀ b o, s.heap.get? b = some o → h₂.get? b = some o := fun b o e => hk b o (Nat.ne_of_lt (Heap.lt_size e)) (hs₁.extBut b o (Nat.ne_of_lt (Heap.lt_size e)) (Heap.get?_push_of_some _ e))
  have I2 : Inv X pins σ H { s with heap := h₂, toks := tk } := I.kept he
  have hf : H h₂.objs.size = none := I2.hok.fresh (Nat.le_refl _)
  refine wpAny_bind (wpAny_newList (wpAny_pure ?_))
  have I3 : Inv X pins σ (upd H h₂.objs.size (.lst xs)) { s with heap := h₂.push { cls := .type "list", data := .seq us.toArray }, toks := tk } :=
    I2.laid (t' := tk) (fun b u q => Heap.get?_push_of_some _ q) (Nat.le_refl _) ⟨by have := sizeLine_eq; omega, us, _, rr, Heap.get?_push_size _ rfl⟩
  exact h.run pins _ σ _ [x, .ref h₂.objs.size] [x0, .ref h₂.objs.size] Q I3 (.cons rx (.cons rfl .nil)) (hw _ hf)
def gStar2 (i j : Nat) : RG := fun d ρ S Q => ∃ x xs, RdL S d (x :: xs) ∧ xs.length + 1 ≤ 16384 ∧ ∀ p, S p = none → Q ((ρ.set i (some x)).set j (some (.ref p))) (sup S p (.lst xs))
theorem pdg_star2 (i j : Nat) {a b : Str} {pa pb ps : Pos} {k : Nat} (hc : X.calm = true) (hN : X.N.Nodup) (hi : X.N[i]? = some a := by rfl) (hj : X.N[j]? = some b := by rfl)
    (hx : Loc X.env.scope a := by first | exact Or.inl rfl | exact Or.inr rfl) (hy : Loc X.env.scope b := by first | exact Or.inl rfl | exact Or.inr rfl)
    (hf : X.fn a = true ∨ X.env.scope.names.lookup a = some .local := by first | exact .inl rfl | exact .inr rfl) (hg : X.fn b = true ∨ X.env.scope.names.lookup b = some .local := by first | exact .inl rfl | exact .inr rfl)
    (hn : (assignEach [.Name a pa, .Starred (.Name b pb) ps] X.env).length = 2 := by rfl) (hst : (assignEach [.Name a pa, .Starred (.Name b pb) ps] X.env).findIdx? (·.1) = some 1 := by rfl)
    (h1 : (assignEach [.Name a pa, .Starred (.Name b pb) ps] X.env).map (·.2) = assign (.Name a pa) X.env :: (assignEach [.Starred (.Name b pb) ps] X.env).map (·.2) := by rfl)
    (h2 : (assignEach [.Starred (.Name b pb) ps] X.env).map (·.2) = assign (.Name b pb) X.env :: (assignEach [] X.env).map (·.2) := by rfl) :
    PDG X y (.Tuple [.Name a pa, .Starred (.Name b pb) ps] k pos) (gStar2 i j) :=
  PDG.of (pg_starL hc (pgs_cons (pg_name (pos := pa) hN hi hx hf) (pgs_consStar (pg_name (pos := pb) hN hj hy hg) pgs_nil h2) h1) hn hst) fun v σ H Q h => by
    obtain ⟨d, ρ, S, R, dv, sr, so, ⟨x, xs, hd, hl, h⟩, k⟩ := h
    obtain ⟨p, vs, rfl, q, r⟩ := hd.sq so.so dv
    obtain ⟨v0, ws, rfl, dv0, rw'⟩ := r
    refine ⟨p, v0, ws, rfl, q, by rw [← rw'.length]; exact hl, fun l hl0 => ?_⟩
    have g := Go.newLst (K := X.K) so.so hl0 rw'
    refine ⟨v0, _, rfl, .ref l, [], rfl, rfl, k _ _ _ _ g (((sr.go g).set (DV.go g _ _ dv0) i).set (d := .ref l) (v := V.ref l) rfl j) (h l (so.so.free hl0))⟩
/-! (*t, x) -/
def rTupS (te tu : RE) : RE := fun ρ S Q => te ρ S fun d S1 => ∃ xs, d = .tup xs ∧ tu ρ S1 fun e S2 => xs.length + 1 ≤ sizeLine ∧ Q (.tup (xs ++ [e])) S2
theorem pd_tupS {e f : Expr} {p : Pos} {k : Nat} {te tu : RE} (he : PD X y e te) (hf : PD X y f tu) (hs : starEach [.Starred e p, f] X.env = (true, eval e X.env) :: starEach [f] X.env := by rfl) (h1 : starEach [f] X.env = (false, eval f X.env) :: starEach [] X.env := by rfl) :
    PD X y (.Tuple [.Starred e p, f] k pos) (rTupS te tu) :=
  PD.of (pe_tup (StX.pa_star he (pa_cons hf pa_nil h1) hs)) fun σ H Q h => by
    obtain ⟨ρ, S, R, sr, so, h, kk⟩ := h
    refine ⟨ρ, S, _, sr, so, h, fun d S1 v H1 g1 dv h1 => ?_⟩
    obtain ⟨xs, rfl, h1⟩ := h1
    obtain ⟨a, vs, rfl, q, r⟩ := dv
    refine ⟨a, vs, rfl, .inl q.sq, ρ, S1, _, sr.go g1, so.go g1, h1, fun d2 S2 w H2 g2 dw h2 => ⟨?_, fun l hl => ?_⟩⟩
    · rw [List.length_append, ← r.length]
      exact h2.1
    · have g := Go.new (K := X.K) (o := .tup (vs ++ [w])) g2.ok hl
      exact kk (.tup (xs ++ [d2])) S2 _ _ (g1.trans (g2.trans g)) ⟨l, _, rfl, .inl upd_same, DVs.go g _ _ ((DVs.go g2 _ _ r).append (DVs.cons dw DVs.nil))⟩ h2.2
/-! len(set(list of ints)) -/
def metI (ns : List Int) : List Int := PyProof.Rows.firstMet (fun i => ns.getD i 0) ns.length
def tLenSetJ (K : PySem.W.Frag) (ta : TE) : TE := fun σ H Q => ta σ H fun x H1 => ∃ (l : Addr) (ns : List Int), x = .ref l ∧ SqL K H1 l (ns.map V.int) ∧ ns.length ≤ 4000 ∧ Q (.int ((metI ns).length : Nat)) H1
theorem firstMet_le (f : Nat → Int) : ∀ n, (PyProof.Rows.firstMet f n).length ≤ n
  | 0 => Nat.le_refl _
  | n + 1 => by
    rw [PyProof.Rows.firstMet_succ]
    have := firstMet_le f n
    show (if (PyProof.Rows.firstMet f n).any (· == f n) = true then PyProof.Rows.firstMet f n else PyProof.Rows.firstMet f n ++ [f n]).length ≤ n + 1
    split
    · omega
    · rw [List.length_append]
      show _ + 1 ≤ n + 1
      omega
theorem pe_lenSetJ {a : Expr} {ta : TE} {p p2 q pos : Pos} (hg : Gl X "len") (hm : X.mg "len" = none) (hg2 : Gl X "set") (hm2 : X.mg "set" = none) (ha : PE X a ta) (hc : X.calm = true)
    (na : starEach [a] X.env = (false, eval a X.env) :: starEach [] X.env := by rfl)
    (nb : starEach [.Call (.Name "set" p2) [a] [] q] X.env = (false, eval (.Call (.Name "set" p2) [a] [] q) X.env) :: starEach [] X.env := by rfl) : PE X (.Call (.Name "len" p) [.Call (.Name "set" p2) [a] [] q] [] pos) (tLenSetJ X.K ta) := by
  refine ⟨fun pins s σ H Q I h => ?_⟩
  refine Call_ (ld_blt I hg hm boot_len ?_)
  refine PyProof.Rows.callWith_builtin1 (PyProof.Rows.args_cons ?_ nb) nb rfl
  refine Call_ (ld_blt I hg2 hm2 boot_set ?_)
  refine PyProof.Rows.callWith_type1 (PyProof.Rows.args_cons (thn (ha.run pins s σ H _ I h) fun v s1 ⟨x, H1, I1, r1, q1⟩ => PyProof.Rows.args_nil ?_) na) na rfl
  obtain ⟨l, ns, rfl, hq, hl, q1⟩ := q1
  cases r1
  obtain ⟨its, r, pl, hz⟩ := I1.list hq
  have hlen : its.toArray.size = ns.length := by rw [List.size_toArray, ← r.length, List.length_map]
  refine call_set_list (I1.ok.hd hc) pl.isList (by simpa using RZ.intsAre_vals r) (by rw [hlen]; unfold scanBound; omega) fun h' tk hS hk => ?_
  refine PyProof.Rows.args_nil ?_
  rw [hlen] at hS
  obtain ⟨o, es, ep, t, ho, hex, hd, _, _, _, hf, hn⟩ := hS
  have I2 : Inv X pins σ H1 { s1 with heap := h', toks := tk } := I1.kept fun b o e => hk b o (Heap.lt_size e) e
  have hle := firstMet_le (fun i => ns.getD i 0) ns.length
  exact call_len_set ho hex hd hf (by rw [hn]; omega) ⟨.int ((metI ns).length : Nat), H1, I2.tok _, ⟨_, by rw [hn]; rfl⟩, q1⟩
def rLenSet (te : RE) : RE := fun ρ S Q => te ρ S fun d S1 => ∃ ns : List Int, RdL S1 d (ns.map D.int) ∧ ns.length ≤ 4000 ∧ Q (.int ((metI ns).length : Nat)) S1
theorem pd_lenSet {a : Expr} {te : RE} {p p2 q pos : Pos} (hc : X.calm = true) (hm : X.mg "len" = none) (hm2 : X.mg "set" = none) (he : PD X y a te) (hg : Gl X "len" := by rfl) (hg2 : Gl X "set" := by rfl)
    (na : starEach [a] X.env = (false, eval a X.env) :: starEach [] X.env := by rfl)
    (nb : starEach [.Call (.Name "set" p2) [a] [] q] X.env = (false, eval (.Call (.Name "set" p2) [a] [] q) X.env) :: starEach [] X.env := by rfl) : PD X y (.Call (.Name "len" p) [.Call (.Name "set" p2) [a] [] q] [] pos) (rLenSet te) :=
  PD.of (pe_lenSetJ hg hm hg2 hm2 he hc na nb) fun σ H Q h => by
    obtain ⟨ρ, S, R, sr, so, h, k⟩ := h
    refine ⟨ρ, S, _, sr, so, h, fun d S1 v H1 g1 dv h1 => ?_⟩
    obtain ⟨ns, hd, hl, h1⟩ := h1
    obtain ⟨l, ws, rfl, q, r⟩ := hd.sq g1.ok dv
    rw [DVs.ints r] at q
    exact ⟨l, ns, rfl, q, hl, k (.int _) S1 _ H1 g1 rfl h1⟩
theorem met_const {ns : List Int} {c : Int} (h : ∀ i ∈ ns, i = c) (hne : ns ≠ []) : (metI ns).length = 1 := by
  have key : ∀ n, n < ns.length → PyProof.Rows.firstMet (fun i => ns.getD i 0) (n + 1) = [c] := by
    intro n
    have at_ : ∀ j, j < ns.length → ns.getD j 0 = c := fun j hj => by
      rw [List.getD_eq_getElem?_getD, List.getElem?_eq_getElem hj]
      exact h _ (List.getElem_mem hj)
    induction n with
    | zero =>
      intro hn
      rw [PyProof.Rows.firstMet_succ]
      show (if (([] : List Int).any (· == ns.getD 0 0)) = true then [] else [] ++ [ns.getD 0 0]) = [c]
      rw [at_ 0 hn]
      rfl
    | succ n ih =>
      intro hn
      rw [PyProof.Rows.firstMet_succ, ih (by omega)]
      show (if ([c].any (· == ns.getD (n + 1) 0)) = true then [c] else [c] ++ [ns.getD (n + 1) 0]) = [c]
      rw [at_ _ hn]
      simp
  have h0 : 0 < ns.length := List.length_pos_iff.mpr hne
  unfold metI
  rw [show ns.length = (ns.length - 1) + 1 by omega, key _ (by omega)]
  rfl
end
end DL
set_option Elab.async false
set_option linter.all false
set_option maxRecDepth 100000
set_option maxHeartbeats 4000000
/-! DN15: dict comprehensions; walks over the items of a written dict of texts of the module. -/
namespace DL
open PySem PySem.Spec PyProof.Rows L2
section
variable {X : Cx} {y : DXw} {pos : Pos}
def rDc (wi : RI) (p : Pat) (tt : RT) (tk tv : RE) (vs : List Nat) : RE := fun ρ S Q => wi ρ S fun xs src S1 => ∃ W : Nat → List (Key × D) → Sto → Prop, W 0 [] S1 ∧ ∀ i acc S', W i acc S' → src S' ∧
  (∀ x, xs[i]? = some x → Pat.put p x (dwipe ρ vs) fun ρ2 => tt ρ2 S' fun b S3 => IFB b (tk ρ2 S3 fun dk S4 => tv ρ2 S4 fun d S5 => ∃ key, keyD dk = some key ∧ acc.length < sizeLine ∧ W (i + 1) (dput acc key d) S5) (W (i + 1) acc S3)) ∧
  (i = xs.length → ∀ p, S' p = none → Q (.ref p) (sup S' p (.dK acc)))
theorem dc_of {wi : RI} {p : Pat} {tt : RT} {tk tv : RE} {vs : List Nat} {σ : L2.St} {H : Hp} {Q : VK} (ha : Pat.all vs p = true) (h : lE X.K y (rDc wi p tt tk tv vs) σ H Q) : tDc (lI X.K y wi) (Pat.g X.K p) (lT X.K y0 tt) (lE X.K y0 tk) (lE X.K y0 tv) vs σ H Q := by
  obtain ⟨ρ, S, R, sr, so, h, k⟩ := h
  refine ⟨ρ, S, _, sr, so, h, fun xs src S1 J H1 g1 jo ⟨W, w0, hs⟩ D hD => ?_⟩
  -- the new list lies beside the store
  have gD := Go.new (K := X.K) (o := .dK []) g1.ok hD
  have swap : ∀ {H2 : Hp} {S2 : Sto} {ws ws' : List (Key × V)}, SOk X.K H2 S2 → S2 D = none → H2 D = some (.dK ws) → SOk X.K (upd H2 D (.dK ws')) S2 := fun {H2 S2 ws ws'} so2 e e2 a c q => by
    have ne : a ≠ D := fun z => by rw [z, e] at q; cases q
    have := so2 a c q
    cases c with
    | lst xs => obtain ⟨us, e1, r⟩ := this; exact ⟨us, by rw [upd_ne ne]; exact e1, DVs.wr e2 (.inr (.inl ⟨_, rfl⟩)) _ _ r⟩
    | dK kvs => obtain ⟨us, e1, r⟩ := this; exact ⟨us, by rw [upd_ne ne]; exact e1, DKs.wr e2 (.inr (.inl ⟨_, rfl⟩)) r⟩
    | dN kvs => obtain ⟨us, e1, n, r⟩ := this; exact ⟨us, by rw [upd_ne ne]; exact e1, n, DKN.wr e2 (.inr (.inl ⟨_, rfl⟩)) r⟩
  -- what stands beside the store, but the new list, from H1 on
  refine ⟨fun i m H2 => ∃ S2 acc ws, m = xs.length - i ∧ i ≤ xs.length ∧ Go X.K H1 S1 H2 S2 ∧ H2 D = some (.dK ws) ∧ S2 D = none ∧ DKs X.K H2 acc ws ∧ W i acc S2, ⟨_, S1, [], [], rfl, Nat.zero_le _, gD, upd_same, g1.ok.free hD, DKs.nil, w0⟩, ?_⟩
  rintro i m H2 ⟨S2, acc, ws, rfl, hi, g2, hD2, sD2, r2, w2⟩
  obtain ⟨hsrc, hturn, hend⟩ := hs i acc S2 w2
  obtain ⟨j1, j2⟩ := jo i H2 S2 g2 hsrc
  by_cases hlt : i < xs.length
  · have hx : xs[i]? = some xs[i] := List.getElem?_eq_getElem hlt
    obtain ⟨jg, jy⟩ := j1 _ hx
    refine .inr ⟨jg, fun H3 => ∃ S3 acc3 ws3, Go X.K H1 S1 H3 S3 ∧ H3 D = some (.dK ws3) ∧ S3 D = none ∧ DKs X.K H3 acc3 ws3 ∧ W (i + 1) acc3 S3, fun H3 ⟨S3, acc3, ws3, g3, a1, a2, a3, a4⟩ => ⟨xs.length - (i + 1), by omega, S3, acc3, ws3, rfl, hlt, g3, a1, a2, a3, a4⟩, fun v H3 hy => ?_⟩
    obtain ⟨g3, dv⟩ := jy v H3 hy
    have gA := g2.trans g3
    have hD3 : H3 D = some (.dK ws) := g3.frame D _ sD2 hD2
    refine Pat.ok p _ v _ _ _ ha dv (((sr.go g1).go gA).wipe vs) (hturn _ hx) fun ρ3 σ3 sr3 hw h3 => ⟨by
      have e : ∀ (l : List Nat), L2.wipe (L2.wipe σ l) l = L2.wipe σ l := by
        intro l
        have gen : ∀ (l l' : List Nat), (∀ i ∈ l, i ∈ l') → L2.wipe (L2.wipe σ l') l = L2.wipe σ l' := by
          intro l
          induction l with
          | nil => intro l' _; rfl
          | cons a l ih =>
            intro l' hl
            show (L2.wipe (L2.wipe σ l') l).set a none = L2.wipe σ l'
            rw [ih l' fun i hi => hl i (List.mem_cons_of_mem _ hi)]
            have ha' := hl a List.mem_cons_self
            apply List.ext_getElem?
            intro j
            by_cases hj : a = j
            · subst hj
              by_cases hb : a < (L2.wipe σ l').length
              · rw [List.getElem?_set_self hb]
                cases q : (L2.wipe σ l')[a]? with
                | none => rw [List.getElem?_eq_none_iff] at q; omega
                | some o =>
                  cases o with
                  | none => rfl
                  | some x => exact absurd ha' (wipe_some q).2
              · rw [List.getElem?_eq_none (by simpa using hb), List.getElem?_eq_none (by simpa using hb)]
            · rw [List.getElem?_set_ne hj]
        exact gen l l fun _ h => h
      rw [hw, e], ?_⟩
    refine ⟨ρ3, S2, _, sr3, sx0 gA.ok, h3, fun b S4 H4 g4 h4 => ?_⟩
    have hD4 : H4 D = some (.dK ws) := g4.frame D _ sD2 hD3
    have sD4 : S4 D = none := g4.ex D _ sD2 hD3
    refine ite_of_IFB h4 (fun z => ⟨ρ3, S4, _, sr3.go g4, sx0 g4.ok, z, fun dk S5 wk H5 g5 dvk h5 => ⟨ρ3, S5, _, (sr3.go g4).go g5, sx0 g5.ok, h5, fun d S6 w H6 g6 dv6 h6 => ?_⟩⟩) fun z => ?_
    · have hD5 : H5 D = some (.dK ws) := g5.frame D _ sD4 hD4
      have sD5 : S5 D = none := g5.ex D _ sD4 hD4
      have hD6 : H6 D = some (.dK ws) := g6.frame D _ sD5 hD5
      have sD6 : S6 D = none := g6.ex D _ sD5 hD5
      have gB := ((gA.trans g4).trans g5).trans g6
      have r6 : DKs X.K H6 acc ws := DKs.go (((g3.trans g4).trans g5).trans g6) r2
      obtain ⟨key, ek, hl, hW⟩ := h6
      refine ⟨ws, key, keyD_v ek dvk, hD6, by rw [← r6.length]; exact hl, S6, dput acc key d, putK ws key w, ⟨g1.ok, swap gB.ok sD6 hD6, fun a o e q => ?_, gB.ex⟩, upd_same, sD6, DKs.wr hD6 (.inr (.inl ⟨_, rfl⟩)) (r6.put key dv6), hW⟩
      rw [upd_ne (ne_of_none q hD)]
      exact gB.frame a o e q
    · exact ⟨S4, acc, ws, gA.trans g4, hD4, sD4, DKs.go (g3.trans g4) r2, z⟩
  · have e : i = xs.length := by omega
    subst e
    refine .inl ⟨j2 (by simp), ?_⟩
    have sok : SOk X.K H2 (sup S2 D (.dK acc)) := fun a c q => by
      by_cases ha : a = D
      · subst ha
        rw [sup_same] at q; cases q
        exact ⟨ws, hD2, r2⟩
      · rw [sup_ne ha] at q
        exact g2.ok a c q
    have gE : Go X.K H1 S1 H2 (sup S2 D (.dK acc)) := ⟨g1.ok, sok, g2.frame, fun a o e q => by rw [sup_ne (ne_of_none q hD)]; exact g2.ex a o e q⟩
    exact k (.ref D) _ _ _ (g1.trans gE) rfl (hend rfl D sD2)
theorem pd_dc {kx vx tg iter : Expr} {ifs : List Expr} {scope : Scope} {own : List (Str × Nat)} {wi : RI} {p : Pat} {tt : RT} {tk tv : RE} (hc : X.calm = true) (hN : X.N.Nodup) (hi : PDI X y tg iter wi) (ok : BlkOk X.N X.env.scope scope own)
    (hg : ∀ (s : Shared) (H : Hp) (C : Addr) (cl : List (Str × Addr)) (fp : List Addr), PG (X.blk s H scope (compEnvC scope cl C X.env) fp) tg (Pat.g X.K p)) (ht : ∀ (s : Shared) (H : Hp) (C : Addr) (cl : List (Str × Addr)) (fp : List Addr), PDTs (X.blk s H scope (compEnvC scope cl C X.env) fp) y0 ifs tt)
    (hk : ∀ (s : Shared) (H : Hp) (C : Addr) (cl : List (Str × Addr)) (fp : List Addr), PD (X.blk s H scope (compEnvC scope cl C X.env) fp) y0 kx tk)
    (he : ∀ (s : Shared) (H : Hp) (C : Addr) (cl : List (Str × Addr)) (fp : List Addr), PD (X.blk s H scope (compEnvC scope cl C X.env) fp) y0 vx tv) (hv : Pat.all (own.map (·.2)) p = true := by rfl) (hs : ∀ x, foldedSetIterable iter X.env x = pure x := by intro _; rfl) :
    PD X y (.DictComp kx vx [⟨tg, iter, ifs, 0⟩] scope pos) (rDc wi p tt tk tv (own.map (·.2))) :=
  PD.of (pe_dc (tt := lT X.K y0 tt) (tk := lE X.K y0 tk) (tv := lE X.K y0 tv) hc hN hi ok hg ht hk he hs) fun σ H Q h => dc_of hv h
end
/-! name = {..} on one line, the name a local -/
theorem ps_setDc {X : Cx} {i : Nat} {y : Str} {py : Pos} {kx vx tg iter : Expr} {ifs : List Expr} {scope : Scope} {own : List (Str × Nat)} {pos spos : Pos} {wi : TI} {g : TG} {tt : TT} {tk tv : TE} (hc : X.calm = true) (hN : X.N.Nodup) (hy : X.N[i]? = some y) (hyl : X.env.scope.names.lookup y = some .local)
    (hsw : swapsWith (.DictComp kx vx [⟨tg, iter, ifs, 0⟩] scope pos) (some (.Name y py)) spos.line X.env = pure true) (hi : PI X tg iter wi) (ok : BlkOk X.N X.env.scope scope own)
    (hg : ∀ (s : Shared) (H : Hp) (C : Addr) (cl : List (Str × Addr)) (fp : List Addr), PG (X.blk s H scope (compEnvC scope cl C X.env) fp) tg g) (ht : ∀ (s : Shared) (H : Hp) (C : Addr) (cl : List (Str × Addr)) (fp : List Addr), PTs (X.blk s H scope (compEnvC scope cl C X.env) fp) ifs tt)
    (hk : ∀ (s : Shared) (H : Hp) (C : Addr) (cl : List (Str × Addr)) (fp : List Addr), PE (X.blk s H scope (compEnvC scope cl C X.env) fp) kx tk)
    (he : ∀ (s : Shared) (H : Hp) (C : Addr) (cl : List (Str × Addr)) (fp : List Addr), PE (X.blk s H scope (compEnvC scope cl C X.env) fp) vx tv) (hs : ∀ x, foldedSetIterable iter X.env x = pure x := by intro _; rfl) :
    PS X (.Assign [.Name y py] (.DictComp kx vx [⟨tg, iter, ifs, 0⟩] scope pos) spos) (tAsg (tDc wi g tt tk tv (own.map (·.2))) (gName i)) := by
  refine ⟨fun pins s σ H D I h => ?_⟩
  rw [exec_Assign_Name_used _ _ _ _ hsw]
  refine wpAny_bind (wpAny_standAt (wpAny_bind ?_))
  show wpAny _ X.A (do let _ ← comprehension (.DictComp kx vx [⟨tg, iter, ifs, 0⟩] scope pos) scope X.env (firstIterPos [⟨tg, iter, ifs, 0⟩] pos) newDict false (eval iter X.env) (some (assign (.Name y py) X.env))) _ _ s
  have h : tDc wi g tt tk tv (own.map (·.2)) σ H (fun x H1 => gName i x σ H1 D.nx) := h
  refine wpAny_bind (thn (dc_core (Qf := fun _ s' => SP X pins D .next s') hc hN I hi ok hg ht hk he hs h fun L C s' m H' I' q hn f => ?_) fun _ s' hq => wpAny_pure (wpAny_pure hq))
  show wpAny _ _ (assign (.Name y py) X.env (.ref L)) _ _ _
  refine wpAny_assign_Name (store_ok2 (v := V.ref L) I' hN hy (.inl hyl) rfl (fun s2 I2 ⟨a, sb, ha⟩ => ?_) (.inr hyl))
  obtain ⟨f0, f1, f2, f3, f4, f5⟩ := f
  have haC : C ≠ a := by
    rcases ha with z | z
    · rw [z]; exact f1
    · exact fun e => f4 y a z e.symm
  refine ⟨m, hn.sameBut sb haC, fun h3 sb3 => ?_⟩
  exact ⟨_, H', I2.turned (t' := s2.toks) (fun b o hb e => (sb3.2 b hb).trans e) f0 f1 f3 f4 f5, q⟩
theorem sw_trueD {kx vx : Expr} {gs : List Comprehension} {scope : Scope} {pos py : Pos} {y : Str} {l : Nat} {env : Env} (hk : env.scope.kind = .function) (hy : env.scope.names.lookup y = some .local) (hl : (py.line == pos.line) = true)
    (ha : (scope.names.any fun (n, k) => n == y && (k == .local || k == .cell)) = false) : swapsWith (.DictComp kx vx gs scope pos) (some (.Name y py)) l env = pure true := by
  have ky : env.kindOf y = some .local := hy
  have hb : env.blockKind = .function := by unfold Env.blockKind; rw [hk]; rfl
  unfold swapsWith
  simp only [hb, ky, ha, Expr.pos, hl]
  rfl
theorem pd_setDc {X : Cx} {y : DXw} (i : Nat) {yn : Str} {py pos : Pos} {kx vx tg iter : Expr} {ifs : List Expr} {scope : Scope} {own : List (Str × Nat)} {spos : Pos} {wi : RI} {p : Pat} {tt : RT} {tk tv : RE} (hc : X.calm = true) (hN : X.N.Nodup) (hy : X.N[i]? = some yn) (hyl : X.env.scope.names.lookup yn = some .local)
    (hsw : swapsWith (.DictComp kx vx [⟨tg, iter, ifs, 0⟩] scope pos) (some (.Name yn py)) spos.line X.env = pure true) (hi : PDI X y tg iter wi) (ok : BlkOk X.N X.env.scope scope own)
    (hg : ∀ (s : Shared) (H : Hp) (C : Addr) (cl : List (Str × Addr)) (fp : List Addr), PG (X.blk s H scope (compEnvC scope cl C X.env) fp) tg (Pat.g X.K p)) (ht : ∀ (s : Shared) (H : Hp) (C : Addr) (cl : List (Str × Addr)) (fp : List Addr), PDTs (X.blk s H scope (compEnvC scope cl C X.env) fp) y0 ifs tt)
    (hk : ∀ (s : Shared) (H : Hp) (C : Addr) (cl : List (Str × Addr)) (fp : List Addr), PD (X.blk s H scope (compEnvC scope cl C X.env) fp) y0 kx tk)
    (he : ∀ (s : Shared) (H : Hp) (C : Addr) (cl : List (Str × Addr)) (fp : List Addr), PD (X.blk s H scope (compEnvC scope cl C X.env) fp) y0 vx tv) (hv : Pat.all (own.map (·.2)) p = true := by rfl) (hs : ∀ x, foldedSetIterable iter X.env x = pure x := by intro _; rfl) :
    PDS X y (.Assign [.Name yn py] (.DictComp kx vx [⟨tg, iter, ifs, 0⟩] scope pos) spos) (rAsg (rDc wi p tt tk tv (own.map (·.2))) (gN i)) :=
  PDS.of (ps_setDc (tt := lT X.K y0 tt) (tk := lE X.K y0 tk) (tv := lE X.K y0 tv) hc hN hy hyl hsw hi ok hg ht hk he hs) fun D σ H h => by
    obtain ⟨ρ, S, E, sr, so, h, eo⟩ := h
    exact dc_of hv ⟨ρ, S, _, sr, so, h, fun d S1 v H1 g1 dv h1 => eo.nx _ S1 _ H1 g1 ((sr.go g1).set dv i) h1⟩
/-! the items of a written dict -/
def KIt (K : PySem.W.Frag) (z : Addr) (ds : List (Str × Str)) : Prop := (z == sysModules) = false ∧ ∃ (es : Array DictEntry) (n : Nat), K.lookup z = some ⟨.type "dict", none, .dict es n, #[]⟩ ∧ es.size = ds.length ∧
  ∀ (i : Nat) k v, ds[i]? = some (k, v) → ∃ e : DictEntry, es[i]? = some e ∧ RelV (.str k) e.key ∧ RelV (.str v) e.val
def ItiC (ds : List (Str × Str)) : It := ⟨fun i H => i < ds.length, fun i H x H' => ∃ T k v, ds[i]? = some (k, v) ∧ x = .ref T ∧ H T = none ∧ H' = upd H T (.tup [.str k, .str v]), fun i H => ds.length ≤ i⟩
theorem turn_itemsC {P : Program} {w : World} {K : PySem.W.Frag} {d : Addr} {es : Array DictEntry} {ep : Nat} {ds : List (Str × Str)} {elts : List Expr} {kk : Nat} {tpos : Pos} (it : Addr)
    (hl : K.lookup d = some ⟨.type "dict", none, .dict es ep, #[]⟩) (hz : es.size = ds.length) (hx : ∀ (i : Nat) k v, ds[i]? = some (k, v) → ∃ e : DictEntry, es[i]? = some e ∧ RelV (.str k) e.key ∧ RelV (.str v) e.val) :
    Turn P w K (.Tuple elts kk tpos) (ItiC ds) [it] it (fun i h => ∃ ok ov, IsItemIter h it d i es.size ep ok ov) where
  mem := by simp
  obj := fun i h st b hb => by
    have e : b = it := by simpa using hb
    subst e
    obtain ⟨ok, ov, e⟩ := st
    exact ⟨_, e, fun v z => nomatch z⟩
  keep := fun i h h' st k => let ⟨ok, ov, e⟩ := st; ⟨ok, ov, k it (by simp) _ e⟩
  item := by
    intro X hP hw hK hc i pins s σ H E I hf st hg
    subst hP hw hK
    have hi : i < ds.length := hg
    have hm : s.heap.DictRaw d es ep := ⟨_, I.kIn d _ hl, ⟨rfl, rfl, rfl⟩, rfl⟩
    obtain ⟨⟨k, v⟩, hkv⟩ : ∃ p, ds[i]? = some p := ⟨ds[i], List.getElem?_eq_getElem hi⟩
    obtain ⟨e, he0, rk, rv⟩ := hx i k v hkv
    have hi2 : i < es.size := by omega
    have ee : es[i] = e := by
      have := Array.getElem?_eq_getElem hi2
      rw [this] at he0
      exact Option.some.inj he0
    obtain ⟨ok, ov, he⟩ := st
    have hlt : it < s.heap.objs.size := Heap.lt_size he
    refine wpAny_pyNext_items_item_raw he hm hi2 fun h' ho hT hz2 hk => ?_
    refine ⟨_, rfl, wpAny_letOwnedTupleGo_items (s := { s with heap := h' }) ho fun h'' he' sb => ?_⟩
    have hT2 : h''.get? s.heap.objs.size = some { cls := .type "tuple", data := .seq #[es[i].key, es[i].val] } := (sb.2 _ (Nat.ne_of_gt hlt)).trans hT
    have new : ObjOk X.prog X.w (upd H s.heap.objs.size (.tup [.str k, .str v])) h'' s.heap.objs.size (.tup [.str k, .str v]) :=
      ⟨by show 2 ≤ sizeLine; decide, [es[i].key, es[i].val], .cons (by rw [ee]; exact rk) (.cons (by rw [ee]; exact rv) .nil), ⟨_, hT2, rfl, _, rfl⟩⟩
    have I1 : Inv X pins σ (upd H s.heap.objs.size (.tup [.str k, .str v])) { s with heap := h'' } :=
      I.turnedNew (t' := s.toks) (ch := [it]) (fun b ob hb e => (sb.2 b (by simpa using hb)).trans (hk b ob (by simpa using hb) e)) hf (Nat.le_refl _) new
    refine ⟨.ref s.heap.objs.size, _, I1, rfl, ⟨_, k, v, hkv, rfl, I.hok.fresh (Nat.le_refl _), rfl⟩, ⟨es[i].key, es[i].val, he'⟩, fun b hb => ?_⟩
    have e : b = it := by simpa using hb
    rw [e, upd_ne (Nat.ne_of_lt hlt)]
    exact (hf it (by simp)).1
  done := by
    intro X hP hw hK hc i pins s σ H E I hf st hg
    subst hP hw hK
    have hi : ds.length ≤ i := hg
    obtain ⟨f0, f1, f2, f3, f4, f5⟩ := hf it (by simp)
    have hm : s.heap.DictRaw d es ep := ⟨_, I.kIn d _ hl, ⟨rfl, rfl, rfl⟩, rfl⟩
    obtain ⟨ok, ov, he⟩ := st
    exact wpAny_pyNext_items_end_raw (I.ok.hd hc) he hm (by omega) fun h' eb => ⟨rfl, I.turned (t' := s.toks) (fun b ob hb e => eb b ob hb e) f0 f1 f3 f4 f5⟩
  self := fun A i s Q E st h => let ⟨_, _, e⟩ := st; PySem.W.kcp_self e h
section
variable {X : Cx} {y : DXw}
def iItemsC (K : PySem.W.Frag) (td : TE) : TI := fun σ H R => td σ H fun x H1 => ∃ d ds, x = .ref d ∧ KIt K d ds ∧ R (ItiC ds) H1
theorem pi_itemsC {e : Expr} {td : TE} {apos cpos : Pos} {elts : List Expr} {kk : Nat} {tpos : Pos} (he : PE X e td) (hbase : attributeBase e "items" X.env (eval e X.env) = eval e X.env := by rfl) (hline : (apos.endLine == cpos.line) = true := by rfl) :
    PI X (.Tuple elts kk tpos) (.Call (.Attribute e "items" apos) [] [] cpos) (iItemsC X.K td) := by
  refine ⟨fun pins s σ H R I h => ?_⟩
  refine wpAny_Call_method (T := "dict") (id := "dict.items") hbase rfl hline F.plainAttrs_dict F.slot_dict_items F.type_dict_items (thn (he.run pins s σ H _ I h) fun u s1 ⟨x, H1, I1, rx, d, ds, ex, hk, q⟩ => ?_)
  subst ex
  obtain rfl : u = Value.ref d := rx
  obtain ⟨hs, es, ep, hl, hz, hx⟩ := hk
  have hm : s1.heap.DictRaw d es ep := ⟨_, I1.kIn d _ hl, ⟨rfl, rfl, rfl⟩, rfl⟩
  refine ⟨hm.typeIs, fun b hb => by cases hb; exact ⟨_, I1.kIn d _ hl, rfl⟩, ?_⟩
  have I2 : Inv X pins σ H1 { s1 with heap := s1.heap.push { cls := .type "dict_items", data := .fields #[.ref d] } } := I1.kept (t' := s1.toks) fun b ob q => Heap.get?_push_of_some _ q
  have fin : wpAny (model X.prog X.w) X.A (pyIter (.ref s1.heap.objs.size)) (PIE X pins σ (.Tuple elts kk tpos) R) X.xe { s1 with heap := s1.heap.push { cls := .type "dict_items", data := .fields #[.ref d] } } := by
    refine wpAny_pyIter_items_raw (d := d) ⟨_, Heap.get?_push_size _ rfl, rfl, rfl⟩ (hm.at fun o q => Heap.get?_push_of_some _ q) (pi_one (tk := s1.toks) I2 _ (turn_itemsC _ hl hz hx) ⟨.none, .none, ?_⟩ q)
    exact Heap.get?_push_size _ rfl
  show wpAny _ _ (callWith cpos (.builtin "dict.items") [.ref d] [] []) _ X.xe s1
  exact method_meetsIn F.slot_dict_items F.entry_dict_items rfl (PySem.evalArgs_none ⟨rfl, hm.typeIs, F.args_dict_items_1 _, _, meets_dict_items_raw d hs, ⟨⟨es, ep, hm⟩, fin⟩⟩)
def itC (ds : List (Str × Str)) : List D := ds.map fun p => .tup [.str p.1, .str p.2]
theorem jok_itemsC {K : PySem.W.Frag} {H1 : Hp} {S1 : Sto} {ds : List (Str × Str)} : JOk K H1 S1 (ItiC ds) (itC ds) (fun _ => True) := by
  intro i H S g _
  refine ⟨fun x hx => ?_, fun hn => ?_⟩
  · unfold itC at hx
    rw [List.getElem?_map] at hx
    cases e : ds[i]? with
    | none => rw [e] at hx; cases hx
    | some p =>
      rw [e] at hx
      cases (Option.some.inj hx)
      refine ⟨(List.getElem?_eq_some_iff.mp e).1, fun w H' ⟨T, k, v', e3, ew, hT, eH⟩ => ?_⟩
      rw [e] at e3
      cases (Option.some.inj e3)
      subst ew eH
      exact ⟨Go.new (K := K) (o := .tup [V.str k, V.str v']) g.ok hT, T, _, rfl, .inl upd_same, DVs.cons rfl (DVs.cons rfl DVs.nil)⟩
  · unfold itC at hn
    rw [List.getElem?_eq_none_iff, List.length_map] at hn
    exact hn
def rItemsC (z : Addr) (ds : List (Str × Str)) (td : RE) : RI := fun ρ S R => td ρ S fun o S1 => o = .ref z ∧ R (itC ds) (fun _ => True) S1
theorem pdi_itemsC {z : Addr} {ds : List (Str × Str)} {e : Expr} {td : RE} {apos cpos : Pos} {elts : List Expr} {kk : Nat} {tpos : Pos} (hk : KIt X.K z ds) (he : PD X y e td) (hbase : attributeBase e "items" X.env (eval e X.env) = eval e X.env := by rfl) (hline : (apos.endLine == cpos.line) = true := by rfl) :
    PDI X y (.Tuple elts kk tpos) (.Call (.Attribute e "items" apos) [] [] cpos) (rItemsC z ds td) := by
  refine PDI.of (pi_itemsC he hbase hline) fun σ H R h => ?_
  obtain ⟨ρ, S, Rd, sr, so, h, k⟩ := h
  refine ⟨ρ, S, _, sr, so, h, fun d S1 v H1 g dv h1 => ?_⟩
  obtain ⟨rfl, h1⟩ := h1
  cases (show v = V.ref z from dv)
  exact ⟨z, ds, rfl, hk, k _ _ _ _ _ g jok_itemsC h1⟩
end
end DL
set_option Elab.async false
set_option linter.all false
set_option maxRecDepth 100000
set_option maxHeartbeats 4000000
namespace K41
open PySem PySem.Spec PyProof.Rows L2 DL
local macro_rules | `(tactic| walk_at "w") => `(tactic| conv => whnf)
local macro_rules | `(tactic| walk_at "g") => `(tactic| ((conv => whnf); repeat' (first | (refine IFB.t ?_ ?_; rfl; conv => whnf) | (refine IFB.f ?_ ?_; rfl; conv => whnf))))
def topS (i : Nat) : Stmt := PySem.Challenge.pw_wholeplays_k41_whole_texts_there_and_bac.main.body.getD i (.Pass ⟨0, 0, 0, 0⟩)
abbrev s_init : Stmt := inCls (topS 2) 0
theorem sc_init : FnScope ["self", "value"] ["self", "value"] (defScope s_init) := ⟨rfl, rfl, rfl, by decide +kernel, rfl, by decide +kernel, by decide +kernel⟩
abbrev s_is_integer : Stmt := topS 7
theorem sc_is_integer : FnScope ["value"] ["value"] (defScope s_is_integer) := ⟨rfl, rfl, rfl, by decide +kernel, rfl, by decide +kernel, by decide +kernel⟩
abbrev s_is_natural : Stmt := topS 8
theorem sc_is_natural : FnScope ["value"] ["value"] (defScope s_is_natural) := ⟨rfl, rfl, rfl, by decide +kernel, rfl, by decide +kernel, by decide +kernel⟩
abbrev s_is_below : Stmt := topS 9
theorem sc_is_below : FnScope ["value", "many"] ["value", "many"] (defScope s_is_below) := ⟨rfl, rfl, rfl, by decide +kernel, rfl, by decide +kernel, by decide +kernel⟩
abbrev s_is_pair : Stmt := topS 10
theorem sc_is_pair : FnScope ["value"] ["value"] (defScope s_is_pair) := ⟨rfl, rfl, rfl, by decide +kernel, rfl, by decide +kernel, by decide +kernel⟩
abbrev s_lowest : Stmt := topS 11
theorem sc_lowest : FnScope ["top", "bottom", "common"] ["top", "bottom"] (defScope s_lowest) := ⟨rfl, rfl, rfl, by decide +kernel, rfl, by decide +kernel, by decide +kernel⟩
abbrev s_is_number_of : Stmt := topS 12
theorem sc_is_number_of : FnScope ["told"] ["told"] (defScope s_is_number_of) := ⟨rfl, rfl, rfl, by decide +kernel, rfl, by decide +kernel, by decide +kernel⟩
abbrev s_sum_of_two : Stmt := topS 13
theorem sc_sum_of_two : FnScope ["a", "b"] ["a", "b"] (defScope s_sum_of_two) := ⟨rfl, rfl, rfl, by decide +kernel, rfl, by decide +kernel, by decide +kernel⟩
abbrev s_sum_of_all : Stmt := topS 14
theorem sc_sum_of_all : FnScope ["numbers", "total", "a"] ["numbers"] (defScope s_sum_of_all) := ⟨rfl, rfl, rfl, by decide +kernel, rfl, by decide +kernel, by decide +kernel⟩
abbrev s_is_number : Stmt := topS 16
theorem sc_is_number : FnScope ["told"] ["told"] (defScope s_is_number) := ⟨rfl, rfl, rfl, by decide +kernel, rfl, by decide +kernel, by decide +kernel⟩
abbrev s_is_shares_of : Stmt := topS 17
theorem sc_is_shares_of : FnScope ["told", "share"] ["told"] (defScope s_is_shares_of) := ⟨rfl, rfl, rfl, by decide +kernel, rfl, by decide +kernel, by decide +kernel⟩
abbrev s_is_shares : Stmt := topS 18
theorem sc_is_shares : FnScope ["told"] ["told"] (defScope s_is_shares) := ⟨rfl, rfl, rfl, by decide +kernel, rfl, by decide +kernel, by decide +kernel⟩
abbrev s_joined : Stmt := topS 28
theorem sc_joined : FnScope ["signs", "sign"] ["signs"] (defScope s_joined) := ⟨rfl, rfl, rfl, by decide +kernel, rfl, by decide +kernel, by decide +kernel⟩
abbrev s_show_number : Stmt := topS 29
theorem sc_show_number : FnScope ["number", "top", "bottom"] ["number"] (defScope s_show_number) := ⟨rfl, rfl, rfl, by decide +kernel, rfl, by decide +kernel, by decide +kernel⟩
abbrev s_show_shares : Stmt := topS 30
theorem sc_show_shares : FnScope ["shares", "share"] ["shares"] (defScope s_show_shares) := ⟨rfl, rfl, rfl, by decide +kernel, rfl, by decide +kernel, by decide +kernel⟩
abbrev s_show_figures : Stmt := topS 31
theorem sc_show_figures : FnScope ["told", "ahead", "again"] ["told"] (defScope s_show_figures) := ⟨rfl, rfl, rfl, by decide +kernel, rfl, by decide +kernel, by decide +kernel⟩
abbrev s_show_rows : Stmt := topS 32
theorem sc_show_rows : FnScope ["rows", "row", "many"] ["rows"] (defScope s_show_rows) := ⟨rfl, rfl, rfl, by decide +kernel, rfl, by decide +kernel, by decide +kernel⟩
abbrev s_show_leaves : Stmt := topS 33
theorem sc_show_leaves : FnScope ["leaves", "ahead", "again"] ["leaves"] (defScope s_show_leaves) := ⟨rfl, rfl, rfl, by decide +kernel, rfl, by decide +kernel, by decide +kernel⟩
abbrev s_show_place : Stmt := topS 34
theorem sc_show_place : FnScope ["place"] ["place"] (defScope s_show_place) := ⟨rfl, rfl, rfl, by decide +kernel, rfl, by decide +kernel, by decide +kernel⟩
abbrev s_show_machine : Stmt := topS 35
theorem sc_show_machine : FnScope ["machine", "n", "begin", "rows", "lines", "zero", "one"] ["machine"] (defScope s_show_machine) := ⟨rfl, rfl, rfl, by decide +kernel, rfl, by decide +kernel, by decide +kernel⟩
abbrev s_show_tosses : Stmt := topS 36
theorem sc_show_tosses : FnScope ["tosses"] ["tosses"] (defScope s_show_tosses) := ⟨rfl, rfl, rfl, by decide +kernel, rfl, by decide +kernel, by decide +kernel⟩
abbrev s_show_table : Stmt := topS 37
theorem sc_show_table : FnScope ["table", "i", "bar", "j"] ["table"] (defScope s_show_table) := ⟨rfl, rfl, rfl, by decide +kernel, rfl, by decide +kernel, by decide +kernel⟩
abbrev s_is_place : Stmt := topS 22
theorem sc_is_place : FnScope ["n", "many", "told"] ["n", "many", "told"] (defScope s_is_place) := ⟨rfl, rfl, rfl, by decide +kernel, rfl, by decide +kernel, by decide +kernel⟩
abbrev s_is_machine_of : Stmt := topS 23
theorem sc_is_machine_of : FnScope ["told", "n", "begin", "rows", "row", "place"] ["told"] (defScope s_is_machine_of) := ⟨rfl, rfl, rfl, by decide +kernel, rfl, by decide +kernel, by decide +kernel⟩
abbrev s_is_machine : Stmt := topS 24
theorem sc_is_machine : FnScope ["told"] ["told"] (defScope s_is_machine) := ⟨rfl, rfl, rfl, by decide +kernel, rfl, by decide +kernel, by decide +kernel⟩
abbrev s_integer_of : Stmt := topS 42
theorem sc_integer_of : FnScope ["text", "sign"] ["text"] (defScope s_integer_of) := ⟨rfl, rfl, rfl, by decide +kernel, rfl, by decide +kernel, by decide +kernel⟩
abbrev s_whole : Stmt := topS 43
theorem sc_whole : FnScope ["parts", "part"] ["parts"] (defScope s_whole) := ⟨rfl, rfl, rfl, by decide +kernel, rfl, by decide +kernel, by decide +kernel⟩
abbrev s_integers_of : Stmt := topS 44
theorem sc_integers_of : FnScope ["text", "word"] ["text"] (defScope s_integers_of) := ⟨rfl, rfl, rfl, by decide +kernel, rfl, by decide +kernel, by decide +kernel⟩
abbrev s_number_of : Stmt := topS 45
theorem sc_number_of : FnScope ["word", "top", "slash", "bottom", "found"] ["word"] (defScope s_number_of) := ⟨rfl, rfl, rfl, by decide +kernel, rfl, by decide +kernel, by decide +kernel⟩
abbrev s_shares_of : Stmt := topS 46
theorem sc_shares_of : FnScope ["line", "found", "word"] ["line"] (defScope s_shares_of) := ⟨rfl, rfl, rfl, by decide +kernel, rfl, by decide +kernel, by decide +kernel⟩
abbrev s_signs_of : Stmt := topS 47
theorem sc_signs_of : FnScope ["text", "sign"] ["text"] (defScope s_signs_of) := ⟨rfl, rfl, rfl, by decide +kernel, rfl, by decide +kernel, by decide +kernel⟩
abbrev s_figures_of : Stmt := topS 48
theorem sc_figures_of : FnScope ["line", "ahead", "gap", "rest"] ["line"] (defScope s_figures_of) := ⟨rfl, rfl, rfl, by decide +kernel, rfl, by decide +kernel, by decide +kernel⟩
abbrev s_rows_of : Stmt := topS 49
theorem sc_rows_of : FnScope ["text", "part"] ["text"] (defScope s_rows_of) := ⟨rfl, rfl, rfl, by decide +kernel, rfl, by decide +kernel, by decide +kernel⟩
abbrev s_leaves_of : Stmt := topS 50
theorem sc_leaves_of : FnScope ["line", "ahead", "gap", "again", "found", "row"] ["line"] (defScope s_leaves_of) := ⟨rfl, rfl, rfl, by decide +kernel, rfl, by decide +kernel, by decide +kernel⟩
abbrev s_tosses_of : Stmt := topS 51
theorem sc_tosses_of : FnScope ["line"] ["line"] (defScope s_tosses_of) := ⟨rfl, rfl, rfl, by decide +kernel, rfl, by decide +kernel, by decide +kernel⟩
abbrev s_cell_of : Stmt := topS 52
theorem sc_cell_of : FnScope ["text", "words", "found", "i", "top", "bottom", "j"] ["text"] (defScope s_cell_of) := ⟨rfl, rfl, rfl, by decide +kernel, rfl, by decide +kernel, by decide +kernel⟩
abbrev s_table_of : Stmt := topS 53
theorem sc_table_of : FnScope ["line", "part"] ["line"] (defScope s_table_of) := ⟨rfl, rfl, rfl, by decide +kernel, rfl, by decide +kernel, by decide +kernel⟩
abbrev s_place_of : Stmt := topS 54
theorem sc_place_of : FnScope ["word", "words", "number", "name", "sign"] ["word"] (defScope s_place_of) := ⟨rfl, rfl, rfl, by decide +kernel, rfl, by decide +kernel, by decide +kernel⟩
abbrev s_row_of : Stmt := topS 55
theorem sc_row_of : FnScope ["line", "words", "word"] ["line"] (defScope s_row_of) := ⟨rfl, rfl, rfl, by decide +kernel, rfl, by decide +kernel, by decide +kernel⟩
abbrev s_head_of : Stmt := topS 56
theorem sc_head_of : FnScope ["line", "words"] ["line"] (defScope s_head_of) := ⟨rfl, rfl, rfl, by decide +kernel, rfl, by decide +kernel, by decide +kernel⟩
abbrev s_only : Stmt := topS 57
theorem sc_only : FnScope ["told", "text", "line", "gap", "rest", "found"] ["told", "text"] (defScope s_only) := ⟨rfl, rfl, rfl, by decide +kernel, rfl, by decide +kernel, by decide +kernel⟩
abbrev s_read_number : Stmt := topS 58
theorem sc_read_number : FnScope ["text"] ["text"] (defScope s_read_number) := ⟨rfl, rfl, rfl, by decide +kernel, rfl, by decide +kernel, by decide +kernel⟩
abbrev s_read_shares : Stmt := topS 59
theorem sc_read_shares : FnScope ["text"] ["text"] (defScope s_read_shares) := ⟨rfl, rfl, rfl, by decide +kernel, rfl, by decide +kernel, by decide +kernel⟩
abbrev s_read_figures : Stmt := topS 60
theorem sc_read_figures : FnScope ["text"] ["text"] (defScope s_read_figures) := ⟨rfl, rfl, rfl, by decide +kernel, rfl, by decide +kernel, by decide +kernel⟩
abbrev s_read_leaves : Stmt := topS 61
theorem sc_read_leaves : FnScope ["text"] ["text"] (defScope s_read_leaves) := ⟨rfl, rfl, rfl, by decide +kernel, rfl, by decide +kernel, by decide +kernel⟩
abbrev s_read_tosses : Stmt := topS 62
theorem sc_read_tosses : FnScope ["text"] ["text"] (defScope s_read_tosses) := ⟨rfl, rfl, rfl, by decide +kernel, rfl, by decide +kernel, by decide +kernel⟩
abbrev s_read_table : Stmt := topS 63
theorem sc_read_table : FnScope ["text"] ["text"] (defScope s_read_table) := ⟨rfl, rfl, rfl, by decide +kernel, rfl, by decide +kernel, by decide +kernel⟩
abbrev s_read_machine : Stmt := topS 64
theorem sc_read_machine : FnScope ["text", "first", "lines", "head", "rows", "at", "line", "row", "machine"] ["text"] (defScope s_read_machine) := ⟨rfl, rfl, rfl, by decide +kernel, rfl, by decide +kernel, by decide +kernel⟩
abbrev s_law_well : Stmt := topS 66
theorem sc_law_well : FnScope ["script", "place", "cell"] ["script", "place"] (defScope s_law_well) := ⟨rfl, rfl, rfl, by decide +kernel, rfl, by decide +kernel, by decide +kernel⟩
abbrev s_law_draw : Stmt := topS 67
theorem sc_law_draw : FnScope ["well", "many", "found", "mixed"] ["well", "many"] (defScope s_law_draw) := ⟨rfl, rfl, rfl, by decide +kernel, rfl, by decide +kernel, by decide +kernel⟩
abbrev s_law_same : Stmt := topS 68
theorem sc_law_same : FnScope ["told", "due", "k"] ["told", "due"] (defScope s_law_same) := ⟨rfl, rfl, rfl, by decide +kernel, rfl, by decide +kernel, by decide +kernel⟩
abbrev s_law_power : Stmt := topS 69
theorem sc_law_power : FnScope ["b", "many", "found", "turn"] ["b", "many"] (defScope s_law_power) := ⟨rfl, rfl, rfl, by decide +kernel, rfl, by decide +kernel, by decide +kernel⟩
abbrev s_law_low : Stmt := topS 70
theorem sc_law_low : FnScope ["top", "bottom", "one", "two"] ["top", "bottom"] (defScope s_law_low) := ⟨rfl, rfl, rfl, by decide +kernel, rfl, by decide +kernel, by decide +kernel⟩
abbrev s_law_integer : Stmt := topS 71
theorem sc_law_integer : FnScope ["well", "digits", "kind"] ["well", "digits"] (defScope s_law_integer) := ⟨rfl, rfl, rfl, by decide +kernel, rfl, by decide +kernel, by decide +kernel⟩
abbrev s_law_number : Stmt := topS 72
theorem sc_law_number : FnScope ["well", "digits", "bottom"] ["well", "digits"] (defScope s_law_number) := ⟨rfl, rfl, rfl, by decide +kernel, rfl, by decide +kernel, by decide +kernel⟩
abbrev s_law_shares : Stmt := topS 73
theorem sc_law_shares : FnScope ["well", "many", "digits", "whole_v", "left", "found", "turn", "room", "weight"] ["well", "many", "digits"] (defScope s_law_shares) := ⟨rfl, rfl, rfl, by decide +kernel, rfl, by decide +kernel, by decide +kernel⟩
abbrev s_law_signs : Stmt := topS 74
theorem sc_law_signs : FnScope ["well", "many", "alike", "turn"] ["well", "many"] (defScope s_law_signs) := ⟨rfl, rfl, rfl, by decide +kernel, rfl, by decide +kernel, by decide +kernel⟩
abbrev s_law_rows : Stmt := topS 75
theorem sc_law_rows : FnScope ["well", "many", "wide", "digits", "row", "turn"] ["well", "many", "wide", "digits"] (defScope s_law_rows) := ⟨rfl, rfl, rfl, by decide +kernel, rfl, by decide +kernel, by decide +kernel⟩
abbrev s_law_place : Stmt := topS 76
theorem sc_law_place : FnScope ["well", "things", "states"] ["well", "things", "states"] (defScope s_law_place) := ⟨rfl, rfl, rfl, by decide +kernel, rfl, by decide +kernel, by decide +kernel⟩
abbrev s_law_machine : Stmt := topS 77
theorem sc_law_machine : FnScope ["well", "most", "more", "things", "states", "rows", "row"] ["well", "most", "more"] (defScope s_law_machine) := ⟨rfl, rfl, rfl, by decide +kernel, rfl, by decide +kernel, by decide +kernel⟩
abbrev s_law_cell : Stmt := topS 78
theorem sc_law_cell : FnScope ["well", "digits", "i", "far", "bottom", "bar", "j"] ["well", "digits"] (defScope s_law_cell) := ⟨rfl, rfl, rfl, by decide +kernel, rfl, by decide +kernel, by decide +kernel⟩
abbrev s_law_said_number : Stmt := topS 79
theorem sc_law_said_number : FnScope ["number"] ["number"] (defScope s_law_said_number) := ⟨rfl, rfl, rfl, by decide +kernel, rfl, by decide +kernel, by decide +kernel⟩
abbrev s_law_said_all : Stmt := topS 80
theorem sc_law_said_all : FnScope ["numbers", "number"] ["numbers"] (defScope s_law_said_all) := ⟨rfl, rfl, rfl, by decide +kernel, rfl, by decide +kernel, by decide +kernel⟩
abbrev s_law_said_signs : Stmt := topS 81
theorem sc_law_said_signs : FnScope ["signs", "sign"] ["signs"] (defScope s_law_said_signs) := ⟨rfl, rfl, rfl, by decide +kernel, rfl, by decide +kernel, by decide +kernel⟩
abbrev s_law_said_rows : Stmt := topS 82
theorem sc_law_said_rows : FnScope ["rows", "row", "one"] ["rows"] (defScope s_law_said_rows) := ⟨rfl, rfl, rfl, by decide +kernel, rfl, by decide +kernel, by decide +kernel⟩
abbrev s_law_said_place : Stmt := topS 83
theorem sc_law_said_place : FnScope ["place"] ["place"] (defScope s_law_said_place) := ⟨rfl, rfl, rfl, by decide +kernel, rfl, by decide +kernel, by decide +kernel⟩
abbrev s_law_said_machine : Stmt := topS 84
theorem sc_law_said_machine : FnScope ["machine", "lines", "zero", "one"] ["machine"] (defScope s_law_said_machine) := ⟨rfl, rfl, rfl, by decide +kernel, rfl, by decide +kernel, by decide +kernel⟩
abbrev s_law_said_table : Stmt := topS 85
theorem sc_law_said_table : FnScope ["table", "i", "bar", "j"] ["table"] (defScope s_law_said_table) := ⟨rfl, rfl, rfl, by decide +kernel, rfl, by decide +kernel, by decide +kernel⟩
abbrev s_law_door : Stmt := topS 86
theorem sc_law_door : FnScope ["well", "door", "digits", "most", "many", "thing", "ahead", "again", "figures", "first", "far", "turn"] ["well", "door", "digits", "most"] (defScope s_law_door) := ⟨rfl, rfl, rfl, by decide +kernel, rfl, by decide +kernel, by decide +kernel⟩
abbrev s_law_read : Stmt := topS 87
theorem sc_law_read : FnScope ["door", "said", "named"] ["door", "said", "named"] (defScope s_law_read) := ⟨rfl, rfl, rfl, by decide +kernel, rfl, by decide +kernel, by decide +kernel⟩
abbrev s_law_shown : Stmt := topS 88
theorem sc_law_shown : FnScope ["door", "thing"] ["door", "thing"] (defScope s_law_shown) := ⟨rfl, rfl, rfl, by decide +kernel, rfl, by decide +kernel, by decide +kernel⟩
abbrev s_law : Stmt := topS 89
theorem sc_law : FnScope ["script", "rows", "place", "well", "door", "thing", "said", "told"] ["script"] (defScope s_law) := ⟨rfl, rfl, rfl, by decide +kernel, rfl, by decide +kernel, by decide +kernel⟩
structure Txt (K : PySem.W.Frag) (mg : Str → Option Value) where
  a_is_integer : Addr
  fd_is_integer : FuncData
  m_is_integer : mg "is_integer" = some (.ref a_is_integer)
  F_is_integer : Fun K "is_integer" "is_integer" s_is_integer a_is_integer fd_is_integer
  d_is_integer : Binds K fd_is_integer ["value"] []
  a_is_natural : Addr
  fd_is_natural : FuncData
  m_is_natural : mg "is_natural" = some (.ref a_is_natural)
  F_is_natural : Fun K "is_natural" "is_natural" s_is_natural a_is_natural fd_is_natural
  d_is_natural : Binds K fd_is_natural ["value"] []
  a_is_below : Addr
  fd_is_below : FuncData
  m_is_below : mg "is_below" = some (.ref a_is_below)
  F_is_below : Fun K "is_below" "is_below" s_is_below a_is_below fd_is_below
  d_is_below : Binds K fd_is_below ["value", "many"] []
  a_is_pair : Addr
  fd_is_pair : FuncData
  m_is_pair : mg "is_pair" = some (.ref a_is_pair)
  F_is_pair : Fun K "is_pair" "is_pair" s_is_pair a_is_pair fd_is_pair
  d_is_pair : Binds K fd_is_pair ["value"] []
  a_lowest : Addr
  fd_lowest : FuncData
  m_lowest : mg "lowest" = some (.ref a_lowest)
  F_lowest : Fun K "lowest" "lowest" s_lowest a_lowest fd_lowest
  d_lowest : Binds K fd_lowest ["top", "bottom"] []
  a_is_number_of : Addr
  fd_is_number_of : FuncData
  m_is_number_of : mg "is_number_of" = some (.ref a_is_number_of)
  F_is_number_of : Fun K "is_number_of" "is_number_of" s_is_number_of a_is_number_of fd_is_number_of
  d_is_number_of : Binds K fd_is_number_of ["told"] []
  a_sum_of_two : Addr
  fd_sum_of_two : FuncData
  m_sum_of_two : mg "sum_of_two" = some (.ref a_sum_of_two)
  F_sum_of_two : Fun K "sum_of_two" "sum_of_two" s_sum_of_two a_sum_of_two fd_sum_of_two
  d_sum_of_two : Binds K fd_sum_of_two ["a", "b"] []
  a_sum_of_all : Addr
  fd_sum_of_all : FuncData
  m_sum_of_all : mg "sum_of_all" = some (.ref a_sum_of_all)
  F_sum_of_all : Fun K "sum_of_all" "sum_of_all" s_sum_of_all a_sum_of_all fd_sum_of_all
  d_sum_of_all : Binds K fd_sum_of_all ["numbers"] []
  a_is_number : Addr
  fd_is_number : FuncData
  m_is_number : mg "is_number" = some (.ref a_is_number)
  F_is_number : Fun K "is_number" "is_number" s_is_number a_is_number fd_is_number
  d_is_number : Binds K fd_is_number ["told"] []
  a_is_shares_of : Addr
  fd_is_shares_of : FuncData
  m_is_shares_of : mg "is_shares_of" = some (.ref a_is_shares_of)
  F_is_shares_of : Fun K "is_shares_of" "is_shares_of" s_is_shares_of a_is_shares_of fd_is_shares_of
  d_is_shares_of : Binds K fd_is_shares_of ["told"] []
  a_is_shares : Addr
  fd_is_shares : FuncData
  m_is_shares : mg "is_shares" = some (.ref a_is_shares)
  F_is_shares : Fun K "is_shares" "is_shares" s_is_shares a_is_shares fd_is_shares
  d_is_shares : Binds K fd_is_shares ["told"] []
  a_joined : Addr
  fd_joined : FuncData
  m_joined : mg "joined" = some (.ref a_joined)
  F_joined : Fun K "joined" "joined" s_joined a_joined fd_joined
  d_joined : Binds K fd_joined ["signs"] []
  a_show_number : Addr
  fd_show_number : FuncData
  m_show_number : mg "show_number" = some (.ref a_show_number)
  F_show_number : Fun K "show_number" "show_number" s_show_number a_show_number fd_show_number
  d_show_number : Binds K fd_show_number ["number"] []
  a_show_shares : Addr
  fd_show_shares : FuncData
  m_show_shares : mg "show_shares" = some (.ref a_show_shares)
  F_show_shares : Fun K "show_shares" "show_shares" s_show_shares a_show_shares fd_show_shares
  d_show_shares : Binds K fd_show_shares ["shares"] []
  a_show_figures : Addr
  fd_show_figures : FuncData
  m_show_figures : mg "show_figures" = some (.ref a_show_figures)
  F_show_figures : Fun K "show_figures" "show_figures" s_show_figures a_show_figures fd_show_figures
  d_show_figures : Binds K fd_show_figures ["told"] []
  a_show_rows : Addr
  fd_show_rows : FuncData
  m_show_rows : mg "show_rows" = some (.ref a_show_rows)
  F_show_rows : Fun K "show_rows" "show_rows" s_show_rows a_show_rows fd_show_rows
  d_show_rows : Binds K fd_show_rows ["rows"] []
  a_show_leaves : Addr
  fd_show_leaves : FuncData
  m_show_leaves : mg "show_leaves" = some (.ref a_show_leaves)
  F_show_leaves : Fun K "show_leaves" "show_leaves" s_show_leaves a_show_leaves fd_show_leaves
  d_show_leaves : Binds K fd_show_leaves ["leaves"] []
  a_show_place : Addr
  fd_show_place : FuncData
  m_show_place : mg "show_place" = some (.ref a_show_place)
  F_show_place : Fun K "show_place" "show_place" s_show_place a_show_place fd_show_place
  d_show_place : Binds K fd_show_place ["place"] []
  a_show_machine : Addr
  fd_show_machine : FuncData
  m_show_machine : mg "show_machine" = some (.ref a_show_machine)
  F_show_machine : Fun K "show_machine" "show_machine" s_show_machine a_show_machine fd_show_machine
  d_show_machine : Binds K fd_show_machine ["machine"] []
  a_show_tosses : Addr
  fd_show_tosses : FuncData
  m_show_tosses : mg "show_tosses" = some (.ref a_show_tosses)
  F_show_tosses : Fun K "show_tosses" "show_tosses" s_show_tosses a_show_tosses fd_show_tosses
  d_show_tosses : Binds K fd_show_tosses ["tosses"] []
  a_show_table : Addr
  fd_show_table : FuncData
  m_show_table : mg "show_table" = some (.ref a_show_table)
  F_show_table : Fun K "show_table" "show_table" s_show_table a_show_table fd_show_table
  d_show_table : Binds K fd_show_table ["table"] []
  a_is_place : Addr
  fd_is_place : FuncData
  m_is_place : mg "is_place" = some (.ref a_is_place)
  F_is_place : Fun K "is_place" "is_place" s_is_place a_is_place fd_is_place
  d_is_place : Binds K fd_is_place ["n", "many", "told"] []
  a_is_machine_of : Addr
  fd_is_machine_of : FuncData
  m_is_machine_of : mg "is_machine_of" = some (.ref a_is_machine_of)
  F_is_machine_of : Fun K "is_machine_of" "is_machine_of" s_is_machine_of a_is_machine_of fd_is_machine_of
  d_is_machine_of : Binds K fd_is_machine_of ["told"] []
  a_is_machine : Addr
  fd_is_machine : FuncData
  m_is_machine : mg "is_machine" = some (.ref a_is_machine)
  F_is_machine : Fun K "is_machine" "is_machine" s_is_machine a_is_machine fd_is_machine
  d_is_machine : Binds K fd_is_machine ["told"] []
  a_integer_of : Addr
  fd_integer_of : FuncData
  m_integer_of : mg "integer_of" = some (.ref a_integer_of)
  F_integer_of : Fun K "integer_of" "integer_of" s_integer_of a_integer_of fd_integer_of
  d_integer_of : Binds K fd_integer_of ["text"] []
  a_whole : Addr
  fd_whole : FuncData
  m_whole : mg "whole" = some (.ref a_whole)
  F_whole : Fun K "whole" "whole" s_whole a_whole fd_whole
  d_whole : Binds K fd_whole ["parts"] []
  a_integers_of : Addr
  fd_integers_of : FuncData
  m_integers_of : mg "integers_of" = some (.ref a_integers_of)
  F_integers_of : Fun K "integers_of" "integers_of" s_integers_of a_integers_of fd_integers_of
  d_integers_of : Binds K fd_integers_of ["text"] []
  a_number_of : Addr
  fd_number_of : FuncData
  m_number_of : mg "number_of" = some (.ref a_number_of)
  F_number_of : Fun K "number_of" "number_of" s_number_of a_number_of fd_number_of
  d_number_of : Binds K fd_number_of ["word"] []
  a_shares_of : Addr
  fd_shares_of : FuncData
  m_shares_of : mg "shares_of" = some (.ref a_shares_of)
  F_shares_of : Fun K "shares_of" "shares_of" s_shares_of a_shares_of fd_shares_of
  d_shares_of : Binds K fd_shares_of ["line"] []
  a_signs_of : Addr
  fd_signs_of : FuncData
  m_signs_of : mg "signs_of" = some (.ref a_signs_of)
  F_signs_of : Fun K "signs_of" "signs_of" s_signs_of a_signs_of fd_signs_of
  d_signs_of : Binds K fd_signs_of ["text"] []
  a_figures_of : Addr
  fd_figures_of : FuncData
  m_figures_of : mg "figures_of" = some (.ref a_figures_of)
  F_figures_of : Fun K "figures_of" "figures_of" s_figures_of a_figures_of fd_figures_of
  d_figures_of : Binds K fd_figures_of ["line"] []
  a_rows_of : Addr
  fd_rows_of : FuncData
  m_rows_of : mg "rows_of" = some (.ref a_rows_of)
  F_rows_of : Fun K "rows_of" "rows_of" s_rows_of a_rows_of fd_rows_of
  d_rows_of : Binds K fd_rows_of ["text"] []
  a_leaves_of : Addr
  fd_leaves_of : FuncData
  m_leaves_of : mg "leaves_of" = some (.ref a_leaves_of)
  F_leaves_of : Fun K "leaves_of" "leaves_of" s_leaves_of a_leaves_of fd_leaves_of
  d_leaves_of : Binds K fd_leaves_of ["line"] []
  a_tosses_of : Addr
  fd_tosses_of : FuncData
  m_tosses_of : mg "tosses_of" = some (.ref a_tosses_of)
  F_tosses_of : Fun K "tosses_of" "tosses_of" s_tosses_of a_tosses_of fd_tosses_of
  d_tosses_of : Binds K fd_tosses_of ["line"] []
  a_cell_of : Addr
  fd_cell_of : FuncData
  m_cell_of : mg "cell_of" = some (.ref a_cell_of)
  F_cell_of : Fun K "cell_of" "cell_of" s_cell_of a_cell_of fd_cell_of
  d_cell_of : Binds K fd_cell_of ["text"] []
  a_table_of : Addr
  fd_table_of : FuncData
  m_table_of : mg "table_of" = some (.ref a_table_of)
  F_table_of : Fun K "table_of" "table_of" s_table_of a_table_of fd_table_of
  d_table_of : Binds K fd_table_of ["line"] []
  a_place_of : Addr
  fd_place_of : FuncData
  m_place_of : mg "place_of" = some (.ref a_place_of)
  F_place_of : Fun K "place_of" "place_of" s_place_of a_place_of fd_place_of
  d_place_of : Binds K fd_place_of ["word"] []
  a_row_of : Addr
  fd_row_of : FuncData
  m_row_of : mg "row_of" = some (.ref a_row_of)
  F_row_of : Fun K "row_of" "row_of" s_row_of a_row_of fd_row_of
  d_row_of : Binds K fd_row_of ["line"] []
  a_head_of : Addr
  fd_head_of : FuncData
  m_head_of : mg "head_of" = some (.ref a_head_of)
  F_head_of : Fun K "head_of" "head_of" s_head_of a_head_of fd_head_of
  d_head_of : Binds K fd_head_of ["line"] []
  a_only : Addr
  fd_only : FuncData
  m_only : mg "only" = some (.ref a_only)
  F_only : Fun K "only" "only" s_only a_only fd_only
  d_only : Binds K fd_only ["told", "text"] []
  a_read_number : Addr
  fd_read_number : FuncData
  m_read_number : mg "read_number" = some (.ref a_read_number)
  F_read_number : Fun K "read_number" "read_number" s_read_number a_read_number fd_read_number
  d_read_number : Binds K fd_read_number ["text"] []
  a_read_shares : Addr
  fd_read_shares : FuncData
  m_read_shares : mg "read_shares" = some (.ref a_read_shares)
  F_read_shares : Fun K "read_shares" "read_shares" s_read_shares a_read_shares fd_read_shares
  d_read_shares : Binds K fd_read_shares ["text"] []
  a_read_figures : Addr
  fd_read_figures : FuncData
  m_read_figures : mg "read_figures" = some (.ref a_read_figures)
  F_read_figures : Fun K "read_figures" "read_figures" s_read_figures a_read_figures fd_read_figures
  d_read_figures : Binds K fd_read_figures ["text"] []
  a_read_leaves : Addr
  fd_read_leaves : FuncData
  m_read_leaves : mg "read_leaves" = some (.ref a_read_leaves)
  F_read_leaves : Fun K "read_leaves" "read_leaves" s_read_leaves a_read_leaves fd_read_leaves
  d_read_leaves : Binds K fd_read_leaves ["text"] []
  a_read_tosses : Addr
  fd_read_tosses : FuncData
  m_read_tosses : mg "read_tosses" = some (.ref a_read_tosses)
  F_read_tosses : Fun K "read_tosses" "read_tosses" s_read_tosses a_read_tosses fd_read_tosses
  d_read_tosses : Binds K fd_read_tosses ["text"] []
  a_read_table : Addr
  fd_read_table : FuncData
  m_read_table : mg "read_table" = some (.ref a_read_table)
  F_read_table : Fun K "read_table" "read_table" s_read_table a_read_table fd_read_table
  d_read_table : Binds K fd_read_table ["text"] []
  a_read_machine : Addr
  fd_read_machine : FuncData
  m_read_machine : mg "read_machine" = some (.ref a_read_machine)
  F_read_machine : Fun K "read_machine" "read_machine" s_read_machine a_read_machine fd_read_machine
  d_read_machine : Binds K fd_read_machine ["text"] []
  a_law_well : Addr
  fd_law_well : FuncData
  m_law_well : mg "_law_well" = some (.ref a_law_well)
  F_law_well : Fun K "_law_well" "_law_well" s_law_well a_law_well fd_law_well
  d_law_well : Binds K fd_law_well ["script", "place"] []
  a_law_draw : Addr
  fd_law_draw : FuncData
  m_law_draw : mg "_law_draw" = some (.ref a_law_draw)
  F_law_draw : Fun K "_law_draw" "_law_draw" s_law_draw a_law_draw fd_law_draw
  d_law_draw : Binds K fd_law_draw ["well", "many"] []
  a_law_same : Addr
  fd_law_same : FuncData
  m_law_same : mg "_law_same" = some (.ref a_law_same)
  F_law_same : Fun K "_law_same" "_law_same" s_law_same a_law_same fd_law_same
  d_law_same : Binds K fd_law_same ["told", "due"] []
  a_law_power : Addr
  fd_law_power : FuncData
  m_law_power : mg "_law_power" = some (.ref a_law_power)
  F_law_power : Fun K "_law_power" "_law_power" s_law_power a_law_power fd_law_power
  d_law_power : Binds K fd_law_power ["b", "many"] []
  a_law_low : Addr
  fd_law_low : FuncData
  m_law_low : mg "_law_low" = some (.ref a_law_low)
  F_law_low : Fun K "_law_low" "_law_low" s_law_low a_law_low fd_law_low
  d_law_low : Binds K fd_law_low ["top", "bottom"] []
  a_law_integer : Addr
  fd_law_integer : FuncData
  m_law_integer : mg "_law_integer" = some (.ref a_law_integer)
  F_law_integer : Fun K "_law_integer" "_law_integer" s_law_integer a_law_integer fd_law_integer
  d_law_integer : Binds K fd_law_integer ["well", "digits"] []
  a_law_number : Addr
  fd_law_number : FuncData
  m_law_number : mg "_law_number" = some (.ref a_law_number)
  F_law_number : Fun K "_law_number" "_law_number" s_law_number a_law_number fd_law_number
  d_law_number : Binds K fd_law_number ["well", "digits"] []
  a_law_shares : Addr
  fd_law_shares : FuncData
  m_law_shares : mg "_law_shares" = some (.ref a_law_shares)
  F_law_shares : Fun K "_law_shares" "_law_shares" s_law_shares a_law_shares fd_law_shares
  d_law_shares : Binds K fd_law_shares ["well", "many", "digits"] []
  a_law_signs : Addr
  fd_law_signs : FuncData
  m_law_signs : mg "_law_signs" = some (.ref a_law_signs)
  F_law_signs : Fun K "_law_signs" "_law_signs" s_law_signs a_law_signs fd_law_signs
  d_law_signs : Binds K fd_law_signs ["well", "many"] []
  a_law_rows : Addr
  fd_law_rows : FuncData
  m_law_rows : mg "_law_rows" = some (.ref a_law_rows)
  F_law_rows : Fun K "_law_rows" "_law_rows" s_law_rows a_law_rows fd_law_rows
  d_law_rows : Binds K fd_law_rows ["well", "many", "wide", "digits"] []
  a_law_place : Addr
  fd_law_place : FuncData
  m_law_place : mg "_law_place" = some (.ref a_law_place)
  F_law_place : Fun K "_law_place" "_law_place" s_law_place a_law_place fd_law_place
  d_law_place : Binds K fd_law_place ["well", "things", "states"] []
  a_law_machine : Addr
  fd_law_machine : FuncData
  m_law_machine : mg "_law_machine" = some (.ref a_law_machine)
  F_law_machine : Fun K "_law_machine" "_law_machine" s_law_machine a_law_machine fd_law_machine
  d_law_machine : Binds K fd_law_machine ["well", "most", "more"] []
  a_law_cell : Addr
  fd_law_cell : FuncData
  m_law_cell : mg "_law_cell" = some (.ref a_law_cell)
  F_law_cell : Fun K "_law_cell" "_law_cell" s_law_cell a_law_cell fd_law_cell
  d_law_cell : Binds K fd_law_cell ["well", "digits"] []
  a_law_said_number : Addr
  fd_law_said_number : FuncData
  m_law_said_number : mg "_law_said_number" = some (.ref a_law_said_number)
  F_law_said_number : Fun K "_law_said_number" "_law_said_number" s_law_said_number a_law_said_number fd_law_said_number
  d_law_said_number : Binds K fd_law_said_number ["number"] []
  a_law_said_all : Addr
  fd_law_said_all : FuncData
  m_law_said_all : mg "_law_said_all" = some (.ref a_law_said_all)
  F_law_said_all : Fun K "_law_said_all" "_law_said_all" s_law_said_all a_law_said_all fd_law_said_all
  d_law_said_all : Binds K fd_law_said_all ["numbers"] []
  a_law_said_signs : Addr
  fd_law_said_signs : FuncData
  m_law_said_signs : mg "_law_said_signs" = some (.ref a_law_said_signs)
  F_law_said_signs : Fun K "_law_said_signs" "_law_said_signs" s_law_said_signs a_law_said_signs fd_law_said_signs
  d_law_said_signs : Binds K fd_law_said_signs ["signs"] []
  a_law_said_rows : Addr
  fd_law_said_rows : FuncData
  m_law_said_rows : mg "_law_said_rows" = some (.ref a_law_said_rows)
  F_law_said_rows : Fun K "_law_said_rows" "_law_said_rows" s_law_said_rows a_law_said_rows fd_law_said_rows
  d_law_said_rows : Binds K fd_law_said_rows ["rows"] []
  a_law_said_place : Addr
  fd_law_said_place : FuncData
  m_law_said_place : mg "_law_said_place" = some (.ref a_law_said_place)
  F_law_said_place : Fun K "_law_said_place" "_law_said_place" s_law_said_place a_law_said_place fd_law_said_place
  d_law_said_place : Binds K fd_law_said_place ["place"] []
  a_law_said_machine : Addr
  fd_law_said_machine : FuncData
  m_law_said_machine : mg "_law_said_machine" = some (.ref a_law_said_machine)
  F_law_said_machine : Fun K "_law_said_machine" "_law_said_machine" s_law_said_machine a_law_said_machine fd_law_said_machine
  d_law_said_machine : Binds K fd_law_said_machine ["machine"] []
  a_law_said_table : Addr
  fd_law_said_table : FuncData
  m_law_said_table : mg "_law_said_table" = some (.ref a_law_said_table)
  F_law_said_table : Fun K "_law_said_table" "_law_said_table" s_law_said_table a_law_said_table fd_law_said_table
  d_law_said_table : Binds K fd_law_said_table ["table"] []
  a_law_door : Addr
  fd_law_door : FuncData
  m_law_door : mg "_law_door" = some (.ref a_law_door)
  F_law_door : Fun K "_law_door" "_law_door" s_law_door a_law_door fd_law_door
  d_law_door : Binds K fd_law_door ["well", "door", "digits", "most"] []
  a_law_read : Addr
  fd_law_read : FuncData
  m_law_read : mg "_law_read" = some (.ref a_law_read)
  F_law_read : Fun K "_law_read" "_law_read" s_law_read a_law_read fd_law_read
  d_law_read : Binds K fd_law_read ["door", "said", "named"] []
  a_law_shown : Addr
  fd_law_shown : FuncData
  m_law_shown : mg "_law_shown" = some (.ref a_law_shown)
  F_law_shown : Fun K "_law_shown" "_law_shown" s_law_shown a_law_shown fd_law_shown
  d_law_shown : Binds K fd_law_shown ["door", "thing"] []
  a_law : Addr
  fd_law : FuncData
  m_law : mg "law" = some (.ref a_law)
  F_law : Fun K "law" "law" s_law a_law fd_law
  d_law : Binds K fd_law ["script"] []
  b_abs : mg "abs" = none
  b_all : mg "all" = none
  b_any : mg "any" = none
  b_bool : mg "bool" = none
  b_enumerate : mg "enumerate" = none
  b_int : mg "int" = none
  b_isinstance : mg "isinstance" = none
  b_len : mg "len" = none
  b_list : mg "list" = none
  b_max : mg "max" = none
  b_min : mg "min" = none
  b_range : mg "range" = none
  b_set : mg "set" = none
  b_str : mg "str" = none
  b_tuple : mg "tuple" = none
  z_ONE : Addr
  m_ONE : mg "ONE" = some (.ref z_ONE)
  v_ONE : ∀ H, DV K H (.tup [.int 1, .int 1]) (.ref z_ONE)
  z_ZERO : Addr
  m_ZERO : mg "ZERO" = some (.ref z_ZERO)
  v_ZERO : ∀ H, DV K H (.tup [.int 0, .int 1]) (.ref z_ZERO)
  i_gcd : mg "gcd" = some (.builtin "math.gcd")
  z_SIGNS : Addr
  m_SIGNS : mg "SIGNS" = some (.ref z_SIGNS)
  t_DIGITS : Tok
  m_DIGITS : mg "DIGITS" = some (.str "0123456789" t_DIGITS)
  t_HEAD : Tok
  m_HEAD : mg "HEAD" = some (.str "machine " t_HEAD)
  t_IS : Tok
  m_IS : mg "IS" = some (.str "is" t_IS)
  t_NONE : Tok
  m_NONE : mg "NONE" = some (.str "-" t_NONE)
  t_TO : Tok
  m_TO : mg "TO" = some (.str "to" t_TO)
  t_MOST_DIGITS : Tok
  m_MOST_DIGITS : mg "MOST_DIGITS" = some (.int 30 t_MOST_DIGITS)

def sgF (s : Str) : Option Str := if s = "to" then some "s" else if s = "is" then some "i" else none
structure HM {K : PySem.W.Frag} {mg : Str → Option Value} (T : Txt K mg) (P : Program) (w : World) (base : Heap) : Prop where
  seer : Seer base
  tree : P.given.tree = none
  it_SIGNS : KIt K T.z_SIGNS [("to", "s"), ("is", "i")]
  sg : ∀ s v, sgF s = some v → KDct K w T.z_SIGNS s (.str v)
theorem kb_read_figures_0_text {K : PySem.W.Frag} {mg : Str → Option Value} (T : Txt K mg) : KBD K T.fd_read_figures ["text"] ["text"] (gk 0 1 [0]) (gk 0 1 [0]) := KBD.of 0 1 [0] T.F_read_figures (by decide) fun _ _ _ _ _ _ us ws h1 h2 => match us, ws, h1, h2 with | [], [_], _, _ => rfl
theorem kb_read_leaves_0_text {K : PySem.W.Frag} {mg : Str → Option Value} (T : Txt K mg) : KBD K T.fd_read_leaves ["text"] ["text"] (gk 0 1 [0]) (gk 0 1 [0]) := KBD.of 0 1 [0] T.F_read_leaves (by decide) fun _ _ _ _ _ _ us ws h1 h2 => match us, ws, h1, h2 with | [], [_], _, _ => rfl
theorem kb_read_machine_0_text {K : PySem.W.Frag} {mg : Str → Option Value} (T : Txt K mg) : KBD K T.fd_read_machine ["text"] ["text"] (gk 0 1 [0]) (gk 0 1 [0]) := KBD.of 0 1 [0] T.F_read_machine (by decide) fun _ _ _ _ _ _ us ws h1 h2 => match us, ws, h1, h2 with | [], [_], _, _ => rfl
theorem kb_read_number_0_text {K : PySem.W.Frag} {mg : Str → Option Value} (T : Txt K mg) : KBD K T.fd_read_number ["text"] ["text"] (gk 0 1 [0]) (gk 0 1 [0]) := KBD.of 0 1 [0] T.F_read_number (by decide) fun _ _ _ _ _ _ us ws h1 h2 => match us, ws, h1, h2 with | [], [_], _, _ => rfl
theorem kb_read_shares_0_text {K : PySem.W.Frag} {mg : Str → Option Value} (T : Txt K mg) : KBD K T.fd_read_shares ["text"] ["text"] (gk 0 1 [0]) (gk 0 1 [0]) := KBD.of 0 1 [0] T.F_read_shares (by decide) fun _ _ _ _ _ _ us ws h1 h2 => match us, ws, h1, h2 with | [], [_], _, _ => rfl
theorem kb_read_table_0_text {K : PySem.W.Frag} {mg : Str → Option Value} (T : Txt K mg) : KBD K T.fd_read_table ["text"] ["text"] (gk 0 1 [0]) (gk 0 1 [0]) := KBD.of 0 1 [0] T.F_read_table (by decide) fun _ _ _ _ _ _ us ws h1 h2 => match us, ws, h1, h2 with | [], [_], _, _ => rfl
theorem kb_read_tosses_0_text {K : PySem.W.Frag} {mg : Str → Option Value} (T : Txt K mg) : KBD K T.fd_read_tosses ["text"] ["text"] (gk 0 1 [0]) (gk 0 1 [0]) := KBD.of 0 1 [0] T.F_read_tosses (by decide) fun _ _ _ _ _ _ us ws h1 h2 => match us, ws, h1, h2 with | [], [_], _, _ => rfl
end K41
set_option Elab.async false
set_option linter.all false
set_option maxRecDepth 100000
set_option maxHeartbeats 4000000
namespace K41
open PySem PySem.Spec PyProof.Rows L2 DL
set_option exponentiation.threshold 20000
/-! the texts -/
def itS (i : Int) : Str := Str.ofString (toString i)
def numS (t b : Int) : Str := if b = 1 then itS t else itS t ++ "/" ++ itS b
def allS (l : List (Int × Int)) : Str := Txt.join " " (l.map fun q => numS q.1 q.2)
def signS (l : List Int) : Str := Txt.join "" (l.map itS)
def lineS (l : List Int) : Str := Txt.join " " (l.map itS)
def rowS (rs : List (List Int)) : Str := Txt.join "; " (rs.map lineS)
def plS (p : Bool × Int) : Str := (if p.1 then ("s" : Str) else "i") ++ itS p.2
def stS (q : (Bool × Int) × (Bool × Int)) : Str := plS q.1 ++ " " ++ plS q.2
def machS (n : Int) (b : Bool × Int) (rs : List ((Bool × Int) × (Bool × Int))) : Str := Txt.join "\n" (("machine " ++ itS n ++ " " ++ plS b) :: rs.map stS)
def cellS (c : Int × (Int × Int) × Int) : Str := itS c.1 ++ " " ++ numS c.2.1.1 c.2.1.2 ++ " " ++ itS c.2.2
def tabS (cs : List (Int × (Int × Int) × Int)) : Str := Txt.join ", " (cs.map cellS)
def figS (a b : List Int) : Str := signS a ++ "(" ++ signS b ++ ")"
def lvS (a b : List (List Int)) : Str := (if a = [] then ("-" : Str) else rowS a) ++ " | " ++ rowS b
def tossS (l : List Int) : Str := if l = [] then ("-" : Str) else signS l
/-! the values -/
def nD (q : Int × Int) : D := .tup [.int q.1, .int q.2]
def tI (l : List Int) : D := .tup (l.map D.int)
def pD (p : Bool × Int) : D := .tup [.str (if p.1 then "to" else "is"), .int p.2]
def sD (q : (Bool × Int) × (Bool × Int)) : D := .tup [pD q.1, pD q.2]
def cD (c : Int × (Int × Int) × Int) : D := .tup [.int c.1, nD c.2.1, .int c.2.2]
/-! lengths -/
def TB (k : Nat) (i : Int) : Prop := i.natAbs < 10 ^ k
theorem TB.mono {j k : Nat} {i : Int} (h : TB j i) (hk : j ≤ k) : TB k i := Nat.lt_of_lt_of_le h (Nat.pow_le_pow_right (by decide) hk)
theorem itS_len {i : Int} {k : Nat} (hk : 0 < k) (h : TB k i) : (itS i).length ≤ k + 1 := by
  unfold itS
  rw [PySem.ofString_length]
  exact int_text_length_le10 hk h
theorem app_len (a b : Str) : (a ++ b).length = a.length + b.length := Array.size_append
theorem numS_len {t b : Int} {k : Nat} (hk : 0 < k) (h1 : TB k t) (h2 : TB k b) : (numS t b).length ≤ 2 * k + 3 := by
  have a := itS_len hk h1
  have c := itS_len hk h2
  have e : ("/" : Str).length = 1 := by decide +kernel
  unfold numS
  split
  · omega
  · rw [app_len, app_len]
    omega
theorem sum_le {ys : List Str} {L : Nat} (h : ∀ y ∈ ys, y.length ≤ L) : (ys.map (·.length)).sum ≤ ys.length * L := by
  induction ys with
  | nil => simp
  | cons y ys ih =>
    have h1 := h y (by simp)
    have h2 := ih fun z hz => h z (List.mem_cons_of_mem _ hz)
    rw [List.map_cons, List.sum_cons, List.length_cons, Nat.add_mul]
    omega
theorem join_fits {ys : List Str} {sep : Str} {L n s : Nat} (h : ∀ y ∈ ys, y.length ≤ L) (hn : ys.length ≤ n) (hs : sep.length ≤ s) : (ys.map (·.length)).sum + ys.length * sep.length ≤ n * (L + s) := by
  have h1 := sum_le h
  have h2 : ys.length * L ≤ n * L := Nat.mul_le_mul_right _ hn
  have h3 : ys.length * sep.length ≤ n * s := Nat.mul_le_mul hn hs
  rw [Nat.mul_add]
  omega
theorem join_len {ys : List Str} {sep : Str} {L n s : Nat} (h : ∀ y ∈ ys, y.length ≤ L) (hn : ys.length ≤ n) (hs : sep.length ≤ s) : (Txt.join sep ys).length ≤ n * (L + s) := by
  have e : Txt.join sep ys = Str.join sep ys := StrLaws.glued_eq_join _ _
  rw [e]
  exact Nat.le_trans (StrLaws.join_length_le sep ys) (join_fits h hn hs)
end K41
set_option Elab.async false
set_option linter.all false
set_option maxRecDepth 100000
set_option maxHeartbeats 4000000
namespace K41
open PySem PySem.Spec PyProof.Rows L2 DL
set_option exponentiation.threshold 20000
/-! the texts read: signs -/
abbrev tl (x : Str) : List Nat := TL.tl x
theorem tl_lit (s : String) : tl (Str.ofString s) = s.toList.map Char.toNat := TL.tl_ofString s
theorem t_sl : tl "/" = [47] := by decide +kernel
theorem t_sp : tl " " = [32] := by decide +kernel
theorem t_em : tl "" = [] := by decide +kernel
theorem t_op : tl "(" = [40] := by decide +kernel
theorem t_cl : tl ")" = [41] := by decide +kernel
theorem t_mi : tl "-" = [45] := by decide +kernel
theorem t_se : tl "; " = [59, 32] := by decide +kernel
theorem t_co : tl ", " = [44, 32] := by decide +kernel
theorem t_ba : tl " | " = [32, 124, 32] := by decide +kernel
theorem t_nl : tl "\n" = [10] := by decide +kernel
theorem t_s : tl "s" = [115] := by decide +kernel
theorem t_i : tl "i" = [105] := by decide +kernel
theorem t_ma : tl "machine " = [109, 97, 99, 104, 105, 110, 101, 32] := by decide +kernel
theorem sep256 {y : String} (h : (Str.ofString y).cps.all (· < 256) = true) : (Str.ofString y).cps.all (· < 256) = true := h
theorem tl_app (x y : Str) : tl (x ++ y) = tl x ++ tl y := TL.tl_append x y
theorem len_tl (x : Str) : x.length = (tl x).length := TL.len_tl x
theorem ext_tl {x y : Str} (h : tl x = tl y) : x = y := TL.ext_tl h
theorem mem_join {c : Nat} {S : List Nat} : ∀ {ps : List (List Nat)}, c ∈ TL.joinL S ps → c ∈ S ∨ ∃ p ∈ ps, c ∈ p
  | [], h => (List.not_mem_nil h).elim
  | [p], h => .inr ⟨p, List.mem_singleton.mpr rfl, h⟩
  | p :: q :: r, h => by
    have h : c ∈ p ++ (S ++ TL.joinL S (q :: r)) := h
    rcases List.mem_append.mp h with h | h
    · exact .inr ⟨p, List.mem_cons_self .., h⟩
    rcases List.mem_append.mp h with h | h
    · exact .inl h
    · rcases mem_join h with h | ⟨z, hz, h⟩
      · exact .inl h
      · exact .inr ⟨z, List.mem_cons_of_mem _ hz, h⟩
theorem tl_join (y : Str) (l : List Str) : tl (Txt.join y l) = TL.joinL (tl y) (l.map tl) := by rw [TL.join_eq]; exact TL.tl_join y l
theorem join_free {c : Nat} {y : Str} {l : List Str} (hy : c ∉ tl y) (h : ∀ s ∈ l, c ∉ tl s) : c ∉ tl (Txt.join y l) := fun hm => by
  rw [tl_join] at hm
  rcases mem_join hm with h1 | ⟨p, hp, h1⟩
  · exact hy h1
  · obtain ⟨s, hs, rfl⟩ := List.mem_map.mp hp
    exact h s hs h1
/-! numbers -/
theorem itS_tl {i : Int} (h : 0 ≤ i) : tl (itS i) = TL.numL i.toNat := by
  obtain ⟨n, rfl⟩ := Int.eq_ofNat_of_zero_le h
  exact TL.tl_num n
theorem itS_dig {i : Int} (h : 0 ≤ i) {c : Nat} (hc : c ∈ tl (itS i)) : 48 ≤ c ∧ c ≤ 57 := by
  rw [itS_tl h] at hc
  exact TL.numL_digits _ c hc
theorem itS_free {i : Int} (h : 0 ≤ i) {c : Nat} (hc : c < 48 ∨ 57 < c) : c ∉ tl (itS i) := fun z => by
  have := itS_dig h z
  omega
theorem itS_pos {i : Int} (h : 0 ≤ i) : 0 < (itS i).length := by
  rw [len_tl, itS_tl h]
  exact List.length_pos_iff.mpr (TL.numL_ne _)
theorem itS_le {i : Int} {k : Nat} (hk : 0 < k) (h : 0 ≤ i) (ht : TB k i) : (itS i).length ≤ k := by
  rw [len_tl, itS_tl h]
  exact TL.numL_len hk (by unfold TB at ht; omega)
theorem itS_int {i : Int} (h : 0 ≤ i) (ht : TB 4000 i) : PySem.intText? (itS i) = some i := by
  have hl : (TL.numL i.toNat).length ≤ 4300 := Nat.le_trans (TL.numL_len (k := 4000) (by decide) (by unfold TB at ht; omega)) (by decide)
  have e := TL.int_num hl
  have e2 : ((i.toNat : Nat) : Int) = i := Int.toNat_of_nonneg h
  rw [e2] at e
  exact e
theorem dig_in : ∀ c, 48 ≤ c → c ≤ 57 → inS ⟨#[c]⟩ "0123456789" = true := by
  have key : ∀ d : Fin 10, inS ⟨#[48 + d.val]⟩ "0123456789" = true := by decide +kernel
  intro c h1 h2
  have := key ⟨c - 48, by omega⟩
  rw [show 48 + (c - 48) = c by omega] at this
  exact this
/-- the signs of a text that are all of one kind -/
theorem chD_map {x : Str} {f : D → Bool} (h : ∀ c ∈ tl x, f (.str ⟨#[c]⟩) = true) : (chD x).map (fun d => D.bl (f d)) = (chD x).map fun _ => D.bl true := by
  unfold chD
  rw [List.map_map, List.map_map]
  exact List.map_congr_left fun c hc => by show D.bl (f (.str ⟨#[c]⟩)) = D.bl true; rw [h c hc]
theorem numS_free {t b : Int} (ht : 0 ≤ t) (hb : 0 ≤ b) {c : Nat} (hc : c < 47 ∨ 57 < c) : c ∉ tl (numS t b) := by
  unfold numS
  split
  · exact itS_free ht (by omega)
  · rw [tl_app, tl_app, t_sl]
    intro h
    rcases List.mem_append.mp h with h | h
    · rcases List.mem_append.mp h with h | h
      · exact itS_free ht (by omega) h
      · have := List.mem_singleton.mp h; omega
    · exact itS_free hb (by omega) h
theorem part_num1 {t : Int} (ht : 0 ≤ t) : Txt.partition (itS t) "/" = (itS t, Str.empty, Str.empty) := TL.partition_none (y := "/") (s := 47) (S := []) t_sl (itS_free ht (by omega))
theorem part_num2 {t b : Int} (ht : 0 ≤ t) : Txt.partition (itS t ++ "/" ++ itS b) "/" = (itS t, ("/" : Str), itS b) := TL.partition_app (y := "/") (s := 47) (S := []) t_sl (itS_free ht (by omega))
theorem empty_ne : (Str.empty == ("/" : Str)) = false := by decide +kernel
/-! joined words -/
theorem split_sp {l : List Str} (hne : l ≠ []) (h : ∀ s ∈ l, 32 ∉ tl s) : Txt.split (Txt.join " " l) " " = l := TL.split_join (y := " ") (s := 32) (S := []) t_sp (by decide +kernel) hne h
theorem split_se {l : List Str} (hne : l ≠ []) (h : ∀ s ∈ l, 59 ∉ tl s) : Txt.split (Txt.join "; " l) "; " = l := TL.split_join (y := "; ") (s := 59) (S := [32]) t_se (by decide +kernel) hne h
theorem split_co {l : List Str} (hne : l ≠ []) (h : ∀ s ∈ l, 44 ∉ tl s) : Txt.split (Txt.join ", " l) ", " = l := TL.split_join (y := ", ") (s := 44) (S := [32]) t_co (by decide +kernel) hne h
theorem split_nl {l : List Str} (hne : l ≠ []) (h : ∀ s ∈ l, 10 ∉ tl s) : Txt.split (Txt.join "\n" l) "\n" = l := TL.split_join (y := "\n") (s := 10) (S := []) t_nl (by decide +kernel) hne h
/-! right things -/
def Nn (i : Int) : Prop := 0 ≤ i ∧ TB 30 i
def ZO (i : Int) : Prop := i = 0 ∨ i = 1
/-- a number from 0 on in lowest terms -/
def Nm (p : Int × Int) : Prop := ∃ q : Rat, p = (q.num, (q.den : Int)) ∧ 0 ≤ q ∧ TB 30 p.1 ∧ TB 30 p.2
theorem Nm.top {p : Int × Int} (h : Nm p) : 0 ≤ p.1 := by
  obtain ⟨q, rfl, h0, _⟩ := h
  exact Rat.num_nonneg.mpr h0
theorem Nm.bot {p : Int × Int} (h : Nm p) : 0 < p.2 := by
  obtain ⟨q, rfl, _⟩ := h
  exact Int.natCast_pos.mpr q.den_pos
theorem Nm.tb {p : Int × Int} (h : Nm p) : TB 30 p.1 ∧ TB 30 p.2 := by
  obtain ⟨q, _, _, h1, h2⟩ := h
  exact ⟨h1, h2⟩
theorem Nn.free {i : Int} (h : Nn i) {c : Nat} (hc : c < 48 ∨ 57 < c) : c ∉ tl (itS i) := itS_free h.1 hc
theorem Nm.free {p : Int × Int} (h : Nm p) {c : Nat} (hc : c < 47 ∨ 57 < c) : c ∉ tl (numS p.1 p.2) := numS_free h.top (Int.le_of_lt h.bot) hc
def Ln (l : List Int) : Prop := l ≠ [] ∧ l.length ≤ 60 ∧ ∀ i ∈ l, Nn i
theorem Ln.split {l : List Int} (h : Ln l) : Txt.split (lineS l) " " = l.map itS := split_sp (fun e => h.1 (List.map_eq_nil_iff.mp e)) fun s hs => by
  obtain ⟨i, hi, rfl⟩ := List.mem_map.mp hs
  exact (h.2.2 i hi).free (by omega)
theorem line_free {l : List Int} (h : ∀ i ∈ l, Nn i) {c : Nat} (hc : c < 48 ∨ 57 < c) (h32 : c ≠ 32) : c ∉ tl (lineS l) := join_free (by rw [t_sp]; intro z; exact h32 (List.mem_singleton.mp z)) fun s hs => by
  obtain ⟨i, hi, rfl⟩ := List.mem_map.mp hs
  exact (h i hi).free hc
def Ns (l : List (Int × Int)) : Prop := l ≠ [] ∧ l.length ≤ 60 ∧ ∀ p ∈ l, Nm p
theorem Ns.split {l : List (Int × Int)} (h : Ns l) : Txt.split (allS l) " " = l.map fun q => numS q.1 q.2 := split_sp (fun e => h.1 (List.map_eq_nil_iff.mp e)) fun s hs => by
  obtain ⟨i, hi, rfl⟩ := List.mem_map.mp hs
  exact (h.2.2 i hi).free (by omega)
def Rws (rs : List (List Int)) : Prop := rs ≠ [] ∧ rs.length ≤ 60 ∧ ∀ r ∈ rs, Ln r
theorem Rws.split {rs : List (List Int)} (h : Rws rs) : Txt.split (rowS rs) "; " = rs.map lineS := split_se (fun e => h.1 (List.map_eq_nil_iff.mp e)) fun s hs => by
  obtain ⟨r, hr, rfl⟩ := List.mem_map.mp hs
  exact line_free (h.2.2 r hr).2.2 (by omega) (by decide)
theorem row_free {rs : List (List Int)} (h : ∀ r ∈ rs, Ln r) {c : Nat} (hc : c < 48 ∨ 57 < c) (h32 : c ≠ 32) (h59 : c ≠ 59) : c ∉ tl (rowS rs) := join_free (by
  rw [t_se]
  intro z
  rcases List.mem_cons.mp z with e | z
  · exact h59 e
  · exact h32 (List.mem_singleton.mp z)) fun s hs => by
  obtain ⟨r, hr, rfl⟩ := List.mem_map.mp hs
  exact line_free (h r hr).2.2 hc h32
/-! signs -/
theorem zo_tl {i : Int} (h : ZO i) : tl (itS i) = [48 + i.toNat] := by
  rcases h with rfl | rfl <;> decide +kernel
theorem tl_signs : ∀ {l : List Int}, (∀ i ∈ l, ZO i) → tl (signS l) = l.map fun i => 48 + i.toNat := by
  intro l h
  unfold signS
  rw [tl_join, t_em, List.map_map]
  induction l with
  | nil => rfl
  | cons a l ih =>
    have ih := ih fun i hi => h i (List.mem_cons_of_mem _ hi)
    cases l with
    | nil => exact zo_tl (h a (List.mem_cons_self ..))
    | cons b l =>
      show tl (itS a) ++ ([] ++ TL.joinL [] ((b :: l).map (tl ∘ itS))) = _
      rw [ih, zo_tl (h a (List.mem_cons_self ..))]
      rfl
theorem sign_free {l : List Int} (h : ∀ i ∈ l, ZO i) {c : Nat} (hc : c < 48 ∨ 49 < c) : c ∉ tl (signS l) := fun hm => by
  rw [tl_signs h] at hm
  obtain ⟨i, hi, e⟩ := List.mem_map.mp hm
  rcases h i hi with rfl | rfl
  · have : c = 48 := e.symm; omega
  · have : c = 49 := e.symm; omega
theorem sign_in : ∀ i : Int, ZO i → inS ⟨#[48 + i.toNat]⟩ "01" = true := by
  rintro i (rfl | rfl) <;> decide +kernel
theorem sign_int : ∀ i : Int, ZO i → PySem.intText? ⟨#[48 + i.toNat]⟩ = some i := by
  rintro i (rfl | rfl) <;> decide +kernel
theorem ch_signs {l : List Int} (h : ∀ i ∈ l, ZO i) : chD (signS l) = l.map fun i => D.str ⟨#[48 + i.toNat]⟩ := by
  unfold chD
  rw [show (signS l).cps.toList = tl (signS l) from rfl, tl_signs h, List.map_map]
  rfl
theorem sign_len {l : List Int} (h : ∀ i ∈ l, ZO i) : (signS l).length = l.length := by
  rw [len_tl, tl_signs h, List.length_map]
theorem part_fig {a b : List Int} (h : ∀ i ∈ a, ZO i) : Txt.partition (figS a b) "(" = (signS a, ("(" : Str), signS b ++ ")") := by
  have e : figS a b = signS a ++ "(" ++ (signS b ++ ")") := ext_tl (by unfold figS; simp only [tl_app, List.append_assoc])
  rw [e]
  exact TL.partition_app (y := "(") (s := 40) (S := []) t_op (sign_free h (by omega))
theorem ends_app {x y : Str} (hy : tl y ≠ []) : Txt.endswith (x ++ y) y = true := by
  have h0 : (x ++ y).length = x.length + y.length := app_len x y
  have hn := TL.len_tl x
  have h := (TL.at_iff (x := x ++ y) hy x.length).mpr (by
    rw [TL.tl_append, hn]
    show TL.pre (TL.tl y) ((TL.tl x ++ TL.tl y).drop (TL.tl x).length) = true
    rw [List.drop_left]
    have := TL.pre_self (TL.tl y) []
    rw [List.append_nil] at this
    exact this)
  unfold Txt.endswith
  rw [Bool.and_eq_true]
  refine ⟨decide_eq_true (by omega), ?_⟩
  rw [show (x ++ y).length - y.length = x.length by omega]
  exact h.2
theorem starts_app {x y : Str} (hy : tl y ≠ []) : Txt.startswith (y ++ x) y = true := by
  have h := (TL.at_iff (x := y ++ x) hy 0).mpr (by
    rw [TL.tl_append, List.drop_zero]
    exact TL.pre_self _ _)
  unfold Txt.startswith
  rw [Bool.and_eq_true]
  exact ⟨decide_eq_true h.1, h.2⟩
theorem cut_tl (z : Str) (lo hi : Option Int) : tl (cutS z lo hi) = ((tl z).drop (HT.sIx z.length 0 lo)).take (HT.sIx z.length z.length hi - HT.sIx z.length 0 lo) := rfl
theorem sIx_m1 (n d : Nat) : HT.sIx n d (some (-1)) = ((-1 : Int) + (n : Int)).toNat := by
  show (if (-1 : Int) < 0 then ((-1 : Int) + (n : Int)).toNat else min (-1 : Int).toNat n) = _
  exact if_pos (by decide)
theorem cut_last (x : Str) : cutS (x ++ ")") none (some (-1)) = x := ext_tl (by
  have hn : (x ++ (")" : Str)).length = x.length + 1 := by rw [app_len]; rfl
  have e1 : HT.sIx (x ++ (")" : Str)).length 0 none = 0 := rfl
  have e2 : HT.sIx (x ++ (")" : Str)).length (x ++ (")" : Str)).length (some (-1)) = x.length := by
    refine (sIx_m1 _ _).trans ?_
    rw [hn]
    omega
  rw [cut_tl, e1, e2, List.drop_zero, Nat.sub_zero, tl_app, len_tl x]
  exact List.take_left)
theorem cut_from {y x : Str} {k : Int} (hk : k = (y.length : Int)) : cutS (y ++ x) (some k) none = x := ext_tl (by
  have hn := app_len y x
  subst hk
  have e1 : HT.sIx (y ++ x).length 0 (some (y.length : Int)) = y.length := by rw [HT.sIx_nat, hn]; omega
  have e2 : HT.sIx (y ++ x).length (y ++ x).length none = (y ++ x).length := rfl
  rw [cut_tl, e1, e2, hn, Nat.add_sub_cancel_left, tl_app, len_tl y, len_tl x, List.drop_left]
  exact List.take_of_length_le (Nat.le_refl _))
/-! a cut at " | " -/
theorem bar_free {p q : List Nat} (h : 124 ∉ p) : ∀ i, i < p.length → TL.pre [32, 124, 32] ((p ++ ([32, 124, 32] ++ q)).drop i) = false := fun i hi => by
  have e : ((p ++ ([32, 124, 32] ++ q)).drop i) = p.drop i ++ ([32, 124, 32] ++ q) := by rw [List.drop_append_of_le_length (by omega)]
  rw [e]
  cases hp : TL.pre [32, 124, 32] (p.drop i ++ ([32, 124, 32] ++ q)) with
  | false => rfl
  | true =>
    have e2 : (p.drop i ++ ([32, 124, 32] ++ q)).take 3 = [32, 124, 32] := eq_of_beq hp
    have hl : 0 < (p.drop i).length := by rw [List.length_drop]; omega
    cases hd : p.drop i with
    | nil => rw [hd] at hl; exact absurd hl (Nat.lt_irrefl _)
    | cons a r =>
      rw [hd] at e2
      cases r with
      | nil =>
        simp at e2
      | cons b r =>
        have : b = 124 := by
          have := congrArg (fun z : List Nat => z[1]?) e2
          simpa using this
        subst this
        exact absurd (List.mem_of_mem_drop (by rw [hd]; simp : 124 ∈ p.drop i)) h
theorem part_bar {a b : Str} (h : 124 ∉ tl a) : Txt.partition (a ++ " | " ++ b) " | " = (a, (" | " : Str), b) := by
  rw [TL.partition_par _ (" | " : Str) (by rw [show TL.tl (" | " : Str) = [32, 124, 32] from t_ba]; simp), TL.tl_append, TL.tl_append, List.append_assoc, show TL.tl (" | " : Str) = [32, 124, 32] from t_ba, TL.par_part (by simp) (bar_free h)]
  show ((⟨([] ++ TL.tl a).toArray⟩ : Str), (" | " : Str), (⟨(TL.tl b).toArray⟩ : Str)) = _
  rw [List.nil_append, TL.mk_tl, TL.mk_tl]
end K41
set_option Elab.async false
set_option linter.all false
set_option maxRecDepth 100000
set_option maxHeartbeats 4000000
namespace K41
open PySem PySem.Spec PyProof.Rows L2 DL
local macro_rules | `(tactic| walk_at "w") => `(tactic| conv => whnf)
local macro_rules | `(tactic| walk_at "g") => `(tactic| ((conv => whnf); repeat' (first | (refine IFB.t ?_ ?_; rfl; conv => whnf) | (refine IFB.f ?_ ?_; rfl; conv => whnf))))
set_option exponentiation.threshold 20000
theorem sup_of {S S' : Sto} {p : Addr} {c : Cell} (h : DL.sup S p c = S') : S' p = some c ∧ (S p = none → Ext S S') ∧ ∀ b, b ≠ p → S' b = S b := by
  subst h
  exact ⟨sup_same, fun e => Ext.new e c, fun b hb => sup_ne hb⟩
theorem lc_rgW {lo : Int} {n : Nat} {p : Pat} {tt : RT} {te : RE} {vs : List Nat} {ρ : Ro} {S : Sto} {G : Addr → Sto → List D → Prop} (W : Nat → List D → Sto → Prop) (h0 : W 0 [] S)
    (hs : ∀ (i : Nat) acc S', i < n → W i acc S' → Pat.put p (.int (lo + (i : Int))) (dwipe ρ vs) fun ρ2 => tt ρ2 S' fun b S3 => IFB b (te ρ2 S3 fun d S4 => acc.length < sizeLine ∧ W (i + 1) (acc ++ [d]) S4) (W (i + 1) acc S3))
    (hd : ∀ S' q acc, W n acc S' → S' q = none → G q S' acc) :
    ∃ W : Nat → List D → Sto → Prop, W 0 [] S ∧ ∀ i acc S', W i acc S' → (fun (_ : Sto) => True) S' ∧
      (∀ x, (rgI lo n)[i]? = some x → Pat.put p x (dwipe ρ vs) fun ρ2 => tt ρ2 S' fun b S3 => IFB b (te ρ2 S3 fun d S4 => acc.length < sizeLine ∧ W (i + 1) (acc ++ [d]) S4) (W (i + 1) acc S3)) ∧
      (i = (rgI lo n).length → ∀ p, S' p = none → G p S' acc) := by
  refine ⟨W, h0, fun i acc S' w => ⟨trivial, fun x hx => ?_, fun h q hq => ?_⟩⟩
  · obtain ⟨hi, rfl⟩ := rgI_inv hx
    exact hs i acc S' hi w
  · rw [rgI_len] at h
    subst h
    exact hd S' q acc w hq
theorem lc_xsW {xs : List D} {src : Sto → Prop} {p : Pat} {tt : RT} {te : RE} {vs : List Nat} {ρ : Ro} {S : Sto} {G : Addr → Sto → List D → Prop} (W : Nat → List D → Sto → Prop) (h0 : W 0 [] S) (hq : ∀ i acc S', W i acc S' → src S')
    (hs : ∀ (i : Nat) x acc S', xs[i]? = some x → W i acc S' → Pat.put p x (dwipe ρ vs) fun ρ2 => tt ρ2 S' fun b S3 => IFB b (te ρ2 S3 fun d S4 => acc.length < sizeLine ∧ W (i + 1) (acc ++ [d]) S4) (W (i + 1) acc S3))
    (hd : ∀ S' q acc, W xs.length acc S' → S' q = none → G q S' acc) :
    ∃ W : Nat → List D → Sto → Prop, W 0 [] S ∧ ∀ i acc S', W i acc S' → src S' ∧
      (∀ x, xs[i]? = some x → Pat.put p x (dwipe ρ vs) fun ρ2 => tt ρ2 S' fun b S3 => IFB b (te ρ2 S3 fun d S4 => acc.length < sizeLine ∧ W (i + 1) (acc ++ [d]) S4) (W (i + 1) acc S3)) ∧
      (i = xs.length → ∀ p, S' p = none → G p S' acc) := by
  refine ⟨W, h0, fun i acc S' w => ⟨hq i acc S' w, fun x hx => hs i x acc S' hx w, fun h q hq => ?_⟩⟩
  subst h
  exact hd S' q acc w hq

theorem sg_to : sgF "to" = some "s" := by decide +kernel
theorem sg_is : sgF "is" = some "i" := by decide +kernel
theorem tb_big {i : Int} {k : Nat} (h : TB k i) (hk : k ≤ 4300) : i.natAbs < 10 ^ 4300 := h.mono hk
theorem map_at {α : Type} {f : α → D} {l : List α} {i : Nat} {x : D} (h : (l.map f)[i]? = some x) : ∃ a, l[i]? = some a ∧ x = f a := by
  rw [List.getElem?_map] at h
  cases e : l[i]? with
  | none => rw [e] at h; cases h
  | some m => rw [e] at h; exact ⟨m, rfl, (Option.some.inj h).symm⟩
theorem take_s {α β : Type} {f : α → β} {l : List α} {i : Nat} {a : α} (h : l[i]? = some a) : (l.take (i + 1)).map f = (l.take i).map f ++ [f a] := by
  rw [List.take_succ, h, List.map_append]
  rfl
theorem mem_map_le {α : Type} {f : α → Str} {l : List α} {L : Nat} (h : ∀ a ∈ l, (f a).length ≤ L) : ∀ y ∈ l.map f, y.length ≤ L := fun y hy => by
  obtain ⟨a, ha, rfl⟩ := List.mem_map.mp hy
  exact h a ha
theorem one_len {c : String} (h : c.length = 1) : (c : Str).length ≤ 1 := by
  show (Str.ofString c).length ≤ 1
  rw [PySem.ofString_length, h]
  exact Nat.le_refl _
theorem len1 : (" " : Str).length ≤ 2 := by decide +kernel
theorem len0 : ("" : Str).length ≤ 2 := by decide +kernel
theorem len2 : ("; " : Str).length ≤ 2 := by decide +kernel
theorem len3 : (", " : Str).length ≤ 2 := by decide +kernel
theorem len4 : ("\n" : Str).length ≤ 2 := by decide +kernel
theorem len5 : ("/" : Str).length ≤ 2 := by decide +kernel
theorem len6 : ("(" : Str).length ≤ 2 := by decide +kernel
theorem len7 : (")" : Str).length ≤ 2 := by decide +kernel
theorem len8 : (" | " : Str).length ≤ 3 := by decide +kernel
theorem len9 : ("machine " : Str).length ≤ 8 := by decide +kernel
theorem len10 : ("s" : Str).length ≤ 2 := by decide +kernel
theorem len11 : ("i" : Str).length ≤ 2 := by decide +kernel
theorem len12 : ("-" : Str).length ≤ 2 := by decide +kernel
def SgOk (l : List Int) : Prop := l.length ≤ 1000 ∧ ∀ i ∈ l, TB 70 i
def RwOk (rs : List (List Int)) : Prop := rs.length ≤ 100 ∧ ∀ r ∈ rs, SgOk r ∧ r.length ≤ 100
def NmOk (l : List (Int × Int)) : Prop := l.length ≤ 100 ∧ ∀ q ∈ l, TB 70 q.1 ∧ TB 70 q.2
def PlOk (p : Bool × Int) : Prop := TB 70 p.2
def MaOk (n : Int) (b : Bool × Int) (rs : List ((Bool × Int) × (Bool × Int))) : Prop := TB 70 n ∧ PlOk b ∧ rs.length ≤ 1000 ∧ ∀ q ∈ rs, PlOk q.1 ∧ PlOk q.2
def CeOk (cs : List (Int × (Int × Int) × Int)) : Prop := cs.length ≤ 100 ∧ ∀ c ∈ cs, TB 70 c.1 ∧ (TB 70 c.2.1.1 ∧ TB 70 c.2.1.2) ∧ TB 70 c.2.2
theorem sg_len {l : List Int} (h : SgOk l) : (signS l).length ≤ 73000 := Nat.le_trans (join_len (mem_map_le fun i hi => itS_len (by decide) (h.2 i hi)) (by rw [List.length_map]; exact h.1) len0) (by decide)
theorem ln_len {l : List Int} (h : SgOk l) (h2 : l.length ≤ 100) : (lineS l).length ≤ 7300 := Nat.le_trans (join_len (mem_map_le fun i hi => itS_len (by decide) (h.2 i hi)) (by rw [List.length_map]; exact h2) len1) (by decide)
theorem rw_len {rs : List (List Int)} (h : RwOk rs) : (rowS rs).length ≤ 730200 := Nat.le_trans (join_len (mem_map_le fun r hr => ln_len (h.2 r hr).1 (h.2 r hr).2) (by rw [List.length_map]; exact h.1) len2) (by decide)
theorem pl_len {p : Bool × Int} (h : PlOk p) : (plS p).length ≤ 73 := by
  have a := itS_len (by decide) h
  have c := len10
  have d := len11
  unfold plS
  rw [app_len]
  split <;> omega
theorem st_len {q : (Bool × Int) × (Bool × Int)} (h : PlOk q.1 ∧ PlOk q.2) : (stS q).length ≤ 148 := by
  have a := pl_len h.1
  have b := pl_len h.2
  have c := len1
  unfold stS
  rw [app_len, app_len]
  omega
theorem nm_len {q : Int × Int} (h : TB 70 q.1 ∧ TB 70 q.2) : (numS q.1 q.2).length ≤ 143 := numS_len (by decide) h.1 h.2
theorem ce_len {c : Int × (Int × Int) × Int} (h : TB 70 c.1 ∧ (TB 70 c.2.1.1 ∧ TB 70 c.2.1.2) ∧ TB 70 c.2.2) : (cellS c).length ≤ 300 := by
  have a := itS_len (by decide) h.1
  have b := nm_len h.2.1
  have d := itS_len (by decide) h.2.2
  have e := len1
  unfold cellS
  rw [app_len, app_len, app_len, app_len]
  omega
def sp_signs : DSp := fun ds S Q _ => ∃ l, ds = [tI l] ∧ SgOk l ∧ Q (.str (signS l)) S
def sp_number : DSp := fun ds S Q _ => ∃ q : Int × Int, ds = [nD q] ∧ TB 4200 q.1 ∧ TB 4200 q.2 ∧ Q (.str (numS q.1 q.2)) S
def sp_numbers : DSp := fun ds S Q _ => ∃ l : List (Int × Int), ds = [.tup (l.map nD)] ∧ NmOk l ∧ Q (.str (allS l)) S
def sp_lines : DSp := fun ds S Q _ => ∃ rs : List (List Int), ds = [.tup (rs.map tI)] ∧ RwOk rs ∧ Q (.str (rowS rs)) S
def sp_place : DSp := fun ds S Q _ => ∃ p : Bool × Int, ds = [pD p] ∧ PlOk p ∧ Q (.str (plS p)) S
def sp_mach : DSp := fun ds S Q _ => ∃ n b rs, ds = [.tup [.int n, pD b, .tup (rs.map sD)]] ∧ MaOk n b rs ∧ Q (.str (machS n b rs)) S
def sp_cells : DSp := fun ds S Q _ => ∃ cs, ds = [.tup (cs.map cD)] ∧ CeOk cs ∧ Q (.str (tabS cs)) S
def sp_joined : DSp := sp_signs
def sp_show_number : DSp := sp_number
def sp_show_shares : DSp := sp_numbers
def sp_show_figures : DSp := fun ds S Q _ => ∃ a b, ds = [.tup [tI a, tI b]] ∧ SgOk a ∧ SgOk b ∧ Q (.str (figS a b)) S
def sp_show_rows : DSp := sp_lines
def sp_show_leaves : DSp := fun ds S Q _ => ∃ a b : List (List Int), ds = [.tup [.tup (a.map tI), .tup (b.map tI)]] ∧ RwOk a ∧ RwOk b ∧ Q (.str (lvS a b)) S
def sp_show_place : DSp := sp_place
def sp_show_machine : DSp := sp_mach
def sp_show_tosses : DSp := fun ds S Q _ => ∃ l, ds = [tI l] ∧ SgOk l ∧ Q (.str (tossS l)) S
def sp_show_table : DSp := sp_cells
def sp_law_said_number : DSp := sp_number
def sp_law_said_all : DSp := sp_numbers
def sp_law_said_signs : DSp := sp_signs
def sp_law_said_rows : DSp := fun ds S Q _ => ∃ rs : List (List Int), ds = [.tup (rs.map tI)] ∧ RwOk rs ∧ Q (.str (if rs = [] then ("-" : Str) else rowS rs)) S
def sp_law_said_place : DSp := sp_place
def sp_law_said_machine : DSp := sp_mach
def sp_law_said_table : DSp := sp_cells
theorem ok_joined {P : Program} {w : World} {K : PySem.W.Frag} {mg : Str → Option Value} {base : Heap} (T : Txt K mg) (hm : HM T P w base) : FnOk P w K mg base (L2.CX P w) 1 T.a_joined T.fd_joined ["signs"] (toSp K sp_joined) := by
  refine fnE T.F_joined sc_joined (fun ds S Q E h => ?_) (fun cdv A outer s H E RX hr => ⟨_, (pds_one (pd_ret (pd_sm PySem.F.slot_str_join PySem.F.type_str_join md_join pd_str (pda_cons (pd_lc (own := [("sign", 1)]) (p := .n 1) rfl sc_joined.nd (pdi_it (pd_var 0)) (blkOk_by (N := ["signs", "sign"]) (sc := defScope s_joined) (own := [("sign", 1)]) (by decide +kernel)) (fun _ _ _ _ _ => (pg_name (i := 1) sc_joined.nd rfl (by first | exact Or.inl rfl | exact Or.inr rfl))) (fun _ _ _ _ _ => pdts_nil) (fun _ _ _ _ _ => (pd_bltTy (cd_strB hr.hd hm.seer) T.b_str (by decide +kernel) (pda_cons (pd_var 1) pda_nil)))) pda_nil)))), fun ds S Q h => ?_⟩)
  · obtain ⟨_, rfl, _⟩ := h
    rfl
  · obtain ⟨l, rfl, hl, h⟩ := h
    walk_at "w"
    refine ⟨trivial, ?_⟩
    walk_at "w"
    refine lc_xsm (fun x => match x with | .int i => D.str (itS i) | d => d) (fun _ _ => trivial) ?_ ?_
    · rintro i x acc S2 hi w2
      obtain ⟨a, ha, rfl⟩ := map_at hi
      walk_at "w"
      refine IFB.t rfl ?_
      walk_at "w"
      refine ⟨tb_big (hl.2 a (List.mem_of_getElem? ha)) (by decide), ?_⟩
      exact lc_leafL hi w2 (by rw [List.length_map]; have := hl.1; show _ ≤ 16777216; omega) rfl (Ext.refl _)
    · rintro S2 v ex hv
      walk_at "w"
      rw [List.map_map]
      refine ⟨l.map itS, .inl ⟨v, rfl, by rw [sup_same, List.map_map]; rfl⟩, Nat.le_trans (join_fits (mem_map_le fun i hi => itS_len (by decide) (hl.2 i hi)) (by rw [List.length_map]; exact hl.1) len0) (by decide), ?_⟩
      exact ⟨S, ex.trans (Ext.new hv _), h⟩

theorem ok_show_number {P : Program} {w : World} {K : PySem.W.Frag} {mg : Str → Option Value} {base : Heap} (T : Txt K mg) (hm : HM T P w base) : FnOk P w K mg base (L2.CX P w) 1 T.a_show_number T.fd_show_number ["number"] (toSp K sp_show_number) := by
  refine fnD T.F_show_number sc_show_number (fun ds S Q E h => ?_) (fun cdv A outer s H E RX hr => ⟨_, (pds_cons (pd_asg (pd_var 0) (pdg_tup rfl (pdgs_cons (pdg_name 1 sc_show_number.nd) (pdgs_cons (pdg_name 2 sc_show_number.nd) pdgs_nil))))
    (pds_one (pd_ret (pd_if (pdt_cmp (od_eq hr.units) (pd_var 2) pd_int) (pd_bltTy (cd_strB hr.hd hm.seer) T.b_str (by decide +kernel) (pda_cons (pd_var 1) pda_nil)) (pd_bin od_add (pd_bin od_add (pd_bltTy (cd_strB hr.hd hm.seer) T.b_str (by decide +kernel) (pda_cons (pd_var 1) pda_nil)) pd_str) (pd_bltTy (cd_strB hr.hd hm.seer) T.b_str (by decide +kernel) (pda_cons (pd_var 2) pda_nil))))))), fun ds S Q h => ?_⟩)
  · obtain ⟨_, rfl, _⟩ := h
    rfl
  · obtain ⟨q, rfl, h1, h2, h⟩ := h
    have hl1 := itS_len (by decide) h1
    have hl2 := itS_len (by decide) h2
    have hl3 := len5
    unfold numS at h
    walk_at "w"
    refine ⟨rfl, ?_⟩
    walk_at "w"
    refine IFB.p (fun c => ?_) (fun c => ?_)
    · rw [if_pos c] at h
      walk_at "w"
      exact ⟨tb_big h1 (by decide), h⟩
    · rw [if_neg c] at h
      walk_at "w"
      refine ⟨tb_big h1 (by decide), ?_⟩
      walk_at "w"
      refine ⟨by show _ ≤ 16777216; unfold itS at hl1; omega, ?_⟩
      walk_at "w"
      refine ⟨tb_big h2 (by decide), ?_⟩
      walk_at "w"
      refine ⟨by show (itS q.1 ++ ("/" : Str)).length + (itS q.2).length ≤ 16777216; rw [app_len]; omega, h⟩

theorem ok_show_shares {P : Program} {w : World} {K : PySem.W.Frag} {mg : Str → Option Value} {base : Heap} (T : Txt K mg) (hm : HM T P w base) : FnOk P w K mg base (L2.CX P w) 2 T.a_show_shares T.fd_show_shares ["shares"] (toSp K sp_show_shares) := by
  refine fnE T.F_show_shares sc_show_shares (fun ds S Q E h => ?_) (fun cdv A outer s H E RX hr => ⟨_, (pds_one (pd_ret (pd_sm PySem.F.slot_str_join PySem.F.type_str_join md_join pd_str (pda_cons (pd_lc (own := [("share", 1)]) (p := .n 1) rfl sc_show_shares.nd (pdi_it (pd_var 0)) (blkOk_by (N := ["shares", "share"]) (sc := defScope s_show_shares) (own := [("share", 1)]) (by decide +kernel)) (fun _ _ _ _ _ => (pg_name (i := 1) sc_show_shares.nd rfl (by first | exact Or.inl rfl | exact Or.inr rfl))) (fun _ _ _ _ _ => pdts_nil) (fun _ _ _ _ _ => (pd_call takes0 (ok_show_number T hm) (hr.mono (by decide)) T.m_show_number T.F_show_number.kp T.d_show_number (pda_cons (pd_var 1) pda_nil)))) pda_nil)))), fun ds S Q h => ?_⟩)
  · obtain ⟨_, rfl, _⟩ := h
    rfl
  · obtain ⟨l, rfl, hl, h⟩ := h
    have hlen := hl.1
    walk_at "w"
    refine ⟨trivial, ?_⟩
    walk_at "w"
    refine lc_xsW (fun i acc S' => acc = ((l.take i).map (fun q => numS q.1 q.2)).map D.str ∧ Ext S S') ⟨rfl, Ext.refl _⟩ (fun _ _ _ _ => trivial) ?_ ?_
    · rintro i x acc S2 hi ⟨rfl, x2⟩
      obtain ⟨a, ha, rfl⟩ := map_at hi
      have hm := List.mem_of_getElem? ha
      have hil := (List.getElem?_eq_some_iff.mp ha).1
      walk_at "w"
      refine IFB.t rfl ?_
      walk_at "w"
      refine ⟨a, rfl, (hl.2 a hm).1.mono (by decide), (hl.2 a hm).2.mono (by decide), ?_⟩
      exact ⟨by rw [List.length_map, List.length_map, List.length_take]; show _ < 16777216; omega, by rw [take_s ha, List.map_append]; rfl, x2⟩
    · rintro S2 v acc ⟨rfl, x2⟩ hv
      rw [List.length_map, List.take_length]
      walk_at "w"
      refine ⟨_, .inl ⟨v, rfl, sup_same⟩, Nat.le_trans (join_fits (mem_map_le fun q hq => nm_len (hl.2 q hq)) (by rw [List.length_map]; exact hl.1) len1) (by decide), ?_⟩
      exact ⟨S, x2.trans (Ext.new hv _), h⟩

theorem ok_show_figures {P : Program} {w : World} {K : PySem.W.Frag} {mg : Str → Option Value} {base : Heap} (T : Txt K mg) (hm : HM T P w base) : FnOk P w K mg base (L2.CX P w) 2 T.a_show_figures T.fd_show_figures ["told"] (toSp K sp_show_figures) := by
  refine fnD T.F_show_figures sc_show_figures (fun ds S Q E h => ?_) (fun cdv A outer s H E RX hr => ⟨_, (pds_cons (pd_asg (pd_var 0) (pdg_tup rfl (pdgs_cons (pdg_name 1 sc_show_figures.nd) (pdgs_cons (pdg_name 2 sc_show_figures.nd) pdgs_nil))))
    (pds_one (pd_ret (pd_bin od_add (pd_bin od_add (pd_bin od_add (pd_call (takes_of rfl rfl rfl rfl) (ok_joined T hm) (hr.mono (by decide)) T.m_joined T.F_joined.kp T.d_joined (pda_cons (pd_var 1) pda_nil)) pd_str) (pd_call (takes_of rfl rfl rfl rfl) (ok_joined T hm) (hr.mono (by decide)) T.m_joined T.F_joined.kp T.d_joined (pda_cons (pd_var 2) pda_nil))) pd_str)))), fun ds S Q h => ?_⟩)
  · obtain ⟨_, _, rfl, _⟩ := h
    rfl
  · obtain ⟨a, b, rfl, ha, hb, h⟩ := h
    have l1 := sg_len ha
    have l2 := sg_len hb
    have l3 := len6
    have l4 := len7
    unfold figS at h
    walk_at "w"
    refine ⟨rfl, ?_⟩
    walk_at "w"
    refine ⟨a, rfl, ha, ?_⟩
    walk_at "w"
    refine ⟨by show _ ≤ 16777216; omega, ?_⟩
    walk_at "w"
    refine ⟨b, rfl, hb, ?_⟩
    walk_at "w"
    refine ⟨by show _ ≤ 16777216; rw [app_len]; omega, ?_⟩
    walk_at "w"
    exact ⟨by show _ ≤ 16777216; rw [app_len, app_len]; omega, h⟩

theorem ok_show_rows {P : Program} {w : World} {K : PySem.W.Frag} {mg : Str → Option Value} {base : Heap} (T : Txt K mg) (hm : HM T P w base) : FnOk P w K mg base (L2.CX P w) 1 T.a_show_rows T.fd_show_rows ["rows"] (toSp K sp_show_rows) := by
  refine fnE T.F_show_rows sc_show_rows (fun ds S Q E h => ?_) (fun cdv A outer s H E RX hr => ⟨_, (pds_one (pd_ret (pd_sm PySem.F.slot_str_join PySem.F.type_str_join md_join pd_str (pda_cons (pd_lc (own := [("row", 1)]) (p := .n 1) rfl sc_show_rows.nd (pdi_it (pd_var 0)) (blkOk_by (N := ["rows", "row", "many"]) (sc := defScope s_show_rows) (own := [("row", 1)]) (by decide +kernel)) (fun _ _ _ _ _ => (pg_name (i := 1) sc_show_rows.nd rfl (by first | exact Or.inl rfl | exact Or.inr rfl))) (fun _ _ _ _ _ => pdts_nil) (fun _ _ _ _ _ => (pd_sm PySem.F.slot_str_join PySem.F.type_str_join md_join pd_str (pda_cons (pd_lc (own := [("many", 2)]) (p := .n 2) rfl sc_show_rows.nd (pdi_it (pd_var 1)) (blkOk_by (by rfl)) (fun _ _ _ _ _ => (pg_name (i := 2) sc_show_rows.nd rfl (by first | exact Or.inl rfl | exact Or.inr rfl))) (fun _ _ _ _ _ => pdts_nil) (fun _ _ _ _ _ => (pd_bltTy (cd_strB hr.hd hm.seer) T.b_str (by decide +kernel) (pda_cons (pd_var 2) pda_nil)))) pda_nil)))) pda_nil)))), fun ds S Q h => ?_⟩)
  · obtain ⟨_, rfl, _⟩ := h
    rfl
  · obtain ⟨l, rfl, hl, h⟩ := h
    have hlen := hl.1
    walk_at "w"
    refine ⟨trivial, ?_⟩
    walk_at "w"
    refine lc_xsW (fun i acc S' => acc = ((l.take i).map lineS).map D.str ∧ Ext S S') ⟨rfl, Ext.refl _⟩ (fun _ _ _ _ => trivial) ?_ ?_
    · rintro i x acc S2 hi ⟨rfl, x2⟩
      obtain ⟨a, ha, rfl⟩ := map_at hi
      have hm := List.mem_of_getElem? ha
      have hil := (List.getElem?_eq_some_iff.mp ha).1
      have hao := hl.2 a hm
      have hal := hao.2
      walk_at "w"
      refine IFB.t rfl ?_
      walk_at "w"
      refine ⟨trivial, ?_⟩
      walk_at "w"
      refine lc_xsW (fun k acc S' => acc = ((a.take k).map itS).map D.str ∧ Ext S2 S') ⟨rfl, Ext.refl _⟩ (fun _ _ _ _ => trivial) ?_ ?_
      · rintro k x acc S3 hk ⟨rfl, x3⟩
        obtain ⟨c, hc, rfl⟩ := map_at hk
        have hmc := List.mem_of_getElem? hc
        have hkl := (List.getElem?_eq_some_iff.mp hc).1
        walk_at "w"
        refine IFB.t rfl ?_
        walk_at "w"
        refine ⟨tb_big (hao.1.2 c hmc) (by decide), ?_⟩
        exact ⟨by rw [List.length_map, List.length_map, List.length_take]; show _ < 16777216; omega, by rw [take_s hc, List.map_append]; rfl, x3⟩
      · rintro S3 v acc ⟨rfl, x3⟩ hv
        rw [List.length_map, List.take_length]
        walk_at "w"
        refine ⟨_, .inl ⟨v, rfl, sup_same⟩, Nat.le_trans (join_fits (mem_map_le fun i hi => itS_len (by decide) (hao.1.2 i hi)) (by rw [List.length_map]; exact hao.2) len1) (by decide), ?_⟩
        exact ⟨by rw [List.length_map, List.length_map, List.length_take]; show _ < 16777216; omega, by rw [take_s ha, List.map_append]; rfl, x2.trans (x3.trans (Ext.new hv _))⟩
    · rintro S2 v acc ⟨rfl, x2⟩ hv
      rw [List.length_map, List.take_length]
      walk_at "w"
      refine ⟨_, .inl ⟨v, rfl, sup_same⟩, Nat.le_trans (join_fits (mem_map_le fun r hr => ln_len (hl.2 r hr).1 (hl.2 r hr).2) (by rw [List.length_map]; exact hl.1) len2) (by decide), ?_⟩
      exact ⟨S, x2.trans (Ext.new hv _), h⟩

theorem ok_show_leaves {P : Program} {w : World} {K : PySem.W.Frag} {mg : Str → Option Value} {base : Heap} (T : Txt K mg) (hm : HM T P w base) : FnOk P w K mg base (L2.CX P w) 2 T.a_show_leaves T.fd_show_leaves ["leaves"] (toSp K sp_show_leaves) := by
  refine fnD T.F_show_leaves sc_show_leaves (fun ds S Q E h => ?_) (fun cdv A outer s H E RX hr => ⟨_, (pds_cons (pd_asg (pd_var 0) (pdg_tup rfl (pdgs_cons (pdg_name 1 sc_show_leaves.nd) (pdgs_cons (pdg_name 2 sc_show_leaves.nd) pdgs_nil))))
    (pds_one (pd_ret (pd_bin od_add (pd_bin od_add (pd_if (pdt_cmp od_gt (pd_blt cd_len T.b_len (by decide +kernel) (pda_cons (pd_var 1) pda_nil)) pd_int) (pd_call (takes_of rfl rfl rfl rfl) (ok_show_rows T hm) (hr.mono (by decide)) T.m_show_rows T.F_show_rows.kp T.d_show_rows (pda_cons (pd_var 1) pda_nil)) (pd_glob (v := .str "-") (d := .str "-") T.m_NONE ⟨_, rfl⟩ (fun _ => rfl))) pd_str) (pd_call (takes_of rfl rfl rfl rfl) (ok_show_rows T hm) (hr.mono (by decide)) T.m_show_rows T.F_show_rows.kp T.d_show_rows (pda_cons (pd_var 2) pda_nil)))))), fun ds S Q h => ?_⟩)
  · obtain ⟨_, _, rfl, _⟩ := h
    rfl
  · obtain ⟨a, b, rfl, ha, hb, h⟩ := h
    have l1 := rw_len ha
    have l2 := rw_len hb
    have l3 := len8
    have l4 := len12
    unfold lvS at h
    have tail : ∀ s : Str, s.length ≤ 800000 → Q (.str (s ++ " | " ++ rowS b)) S → True := fun _ _ _ => trivial
    walk_at "w"
    refine ⟨rfl, ?_⟩
    walk_at "w"
    rw [List.length_map]
    refine IFB.p (fun c => ?_) (fun c => ?_)
    · rw [if_neg (fun z => by rw [z] at c; exact absurd c (by decide))] at h
      walk_at "w"
      refine ⟨a, rfl, ha, ?_⟩
      walk_at "w"
      refine ⟨by show _ ≤ 16777216; omega, ?_⟩
      walk_at "w"
      refine ⟨b, rfl, hb, ?_⟩
      walk_at "w"
      exact ⟨by show _ ≤ 16777216; rw [app_len]; omega, h⟩
    · rw [if_pos (List.length_eq_zero_iff.mp (by omega))] at h
      walk_at "w"
      refine ⟨by show _ ≤ 16777216; omega, ?_⟩
      walk_at "w"
      refine ⟨b, rfl, hb, ?_⟩
      walk_at "w"
      exact ⟨by show _ ≤ 16777216; rw [app_len]; omega, h⟩

theorem ok_show_place {P : Program} {w : World} {K : PySem.W.Frag} {mg : Str → Option Value} {base : Heap} (T : Txt K mg) (hm : HM T P w base) : FnOk P w K mg base (L2.CX P w) 1 T.a_show_place T.fd_show_place ["place"] (toSp K sp_show_place) := by
  refine fnD T.F_show_place sc_show_place (fun ds S Q E h => ?_) (fun cdv A outer s H E RX hr => ⟨_, (pds_one (pd_ret (pd_bin od_add (pd_ixC hm.sg (pd_glob (v := .ref T.z_SIGNS) (d := .ref T.z_SIGNS) T.m_SIGNS rfl (fun _ => rfl)) (pd_ix (pd_var 0) pd_int)) (pd_bltTy (cd_strB hr.hd hm.seer) T.b_str (by decide +kernel) (pda_cons (pd_ix (pd_var 0) pd_int) pda_nil))))), fun ds S Q h => ?_⟩)
  · obtain ⟨_, rfl, _⟩ := h
    rfl
  · obtain ⟨⟨b, k⟩, rfl, hp, h⟩ := h
    have l1 := itS_len (by decide) hp
    have l2 := len10
    have l3 := len11
    have hk : k.natAbs < 10 ^ 4300 := tb_big hp (by decide)
    have hl : (itS k).length ≤ 71 := l1
    cases b with
    | true =>
      walk_at "w"
      refine ⟨_, rfl, ?_⟩
      walk_at "w"
      refine ⟨rfl, "s", sg_to, ?_⟩
      walk_at "w"
      refine ⟨_, rfl, ?_⟩
      walk_at "w"
      refine ⟨hk, ?_⟩
      walk_at "w"
      exact ⟨by show ("s" : Str).length + (itS k).length ≤ 16777216; omega, h⟩
    | false =>
      walk_at "w"
      refine ⟨_, rfl, ?_⟩
      walk_at "w"
      refine ⟨rfl, "i", sg_is, ?_⟩
      walk_at "w"
      refine ⟨_, rfl, ?_⟩
      walk_at "w"
      refine ⟨hk, ?_⟩
      walk_at "w"
      exact ⟨by show ("i" : Str).length + (itS k).length ≤ 16777216; omega, h⟩

theorem ok_show_machine {P : Program} {w : World} {K : PySem.W.Frag} {mg : Str → Option Value} {base : Heap} (T : Txt K mg) (hm : HM T P w base) : FnOk P w K mg base (L2.CX P w) 2 T.a_show_machine T.fd_show_machine ["machine"] (toSp K sp_show_machine) := by
  refine fnE T.F_show_machine sc_show_machine (fun ds S Q E h => ?_) (fun cdv A outer s H E RX hr => ⟨_, (pds_cons (pd_asg (pd_var 0) (pdg_tup rfl (pdgs_cons (pdg_name 1 sc_show_machine.nd) (pdgs_cons (pdg_name 2 sc_show_machine.nd) (pdgs_cons (pdg_name 3 sc_show_machine.nd) pdgs_nil)))))
    (pds_cons (pd_setLc 4 (own := [("zero", 5), ("one", 6)]) (p := .t [.n 5, .n 6]) rfl sc_show_machine.nd rfl rfl (sw_true rfl rfl rfl (by decide +kernel)) (pdi_it (pd_var 3)) (blkOk_by (N := ["machine", "n", "begin", "rows", "lines", "zero", "one"]) (sc := defScope s_show_machine) (own := [("zero", 5), ("one", 6)]) (by decide +kernel)) (fun _ _ _ _ _ => (pg_tup rfl (pgs_cons (pg_name (i := 5) sc_show_machine.nd rfl (by first | exact Or.inl rfl | exact Or.inr rfl)) (pgs_cons (pg_name (i := 6) sc_show_machine.nd rfl (by first | exact Or.inl rfl | exact Or.inr rfl)) pgs_nil)))) (fun _ _ _ _ _ => pdts_nil) (fun _ _ _ _ _ => (pd_bin od_add (pd_bin od_add (pd_call takes0 (ok_show_place T hm) (hr.mono (by decide)) T.m_show_place T.F_show_place.kp T.d_show_place (pda_cons (pd_var 5) pda_nil)) pd_str) (pd_call takes0 (ok_show_place T hm) (hr.mono (by decide)) T.m_show_place T.F_show_place.kp T.d_show_place (pda_cons (pd_var 6) pda_nil)))))
    (pds_one (pd_ret (pd_sm PySem.F.slot_str_join PySem.F.type_str_join md_join pd_str (pda_cons (pd_bin od_add (pd_lst (pda_cons (pd_bin od_add (pd_bin od_add (pd_bin od_add pd_str (pd_bltTy (cd_strB hr.hd hm.seer) T.b_str (by decide +kernel) (pda_cons (pd_var 1) pda_nil))) pd_str) (pd_call (takes_of rfl rfl rfl rfl) (ok_show_place T hm) (hr.mono (by decide)) T.m_show_place T.F_show_place.kp T.d_show_place (pda_cons (pd_var 2) pda_nil))) pda_nil)) (pd_var 4)) pda_nil)))))), fun ds S Q h => ?_⟩)
  · obtain ⟨_, _, _, rfl, _⟩ := h
    rfl
  · obtain ⟨n, b, rs, rfl, ⟨hn, hb, hlen, hr⟩, h⟩ := h
    have l1 := itS_len (by decide) hn
    have l2 := pl_len hb
    have l3 := len9
    have l4 := len1
    walk_at "w"
    refine ⟨rfl, ?_⟩
    walk_at "w"
    refine lc_xsW (fun i acc S' => acc = ((rs.take i).map stS).map D.str ∧ Ext S S') ⟨rfl, Ext.refl _⟩ (fun _ _ _ _ => trivial) ?_ ?_
    · rintro i x acc S2 hi ⟨rfl, x2⟩
      obtain ⟨a, ha, rfl⟩ := map_at hi
      have hm := List.mem_of_getElem? ha
      have hil := (List.getElem?_eq_some_iff.mp ha).1
      walk_at "w"
      refine IFB.t rfl ?_
      walk_at "w"
      refine ⟨a.1, rfl, (hr a hm).1, ?_⟩
      walk_at "w"
      refine ⟨by have := pl_len (hr a hm).1; show _ ≤ 16777216; omega, ?_⟩
      walk_at "w"
      refine ⟨a.2, rfl, (hr a hm).2, ?_⟩
      walk_at "w"
      refine ⟨by have := pl_len (hr a hm).1; have := pl_len (hr a hm).2; show _ ≤ 16777216; rw [app_len]; omega, ?_⟩
      exact ⟨by rw [List.length_map, List.length_map, List.length_take]; show _ < 16777216; omega, by rw [take_s ha, List.map_append]; rfl, x2⟩
    · rintro S2 v acc ⟨rfl, x2⟩ hv
      rw [List.length_map, List.take_length]
      walk_at "w"
      generalize hSS : DL.sup _ v _ = S3
      obtain ⟨ev, y3, -⟩ := sup_of hSS
      have y3 := y3 hv
      clear hSS
      walk_at "w"
      refine ⟨trivial, ?_⟩
      walk_at "w"
      refine ⟨tb_big hn (by decide), ?_⟩
      walk_at "w"
      refine ⟨by show ("machine " : Str).length + (itS n).length ≤ 16777216; omega, ?_⟩
      walk_at "w"
      refine ⟨by show (("machine " : Str) ++ itS n).length + (" " : Str).length ≤ 16777216; rw [app_len]; omega, ?_⟩
      walk_at "w"
      refine ⟨b, rfl, hb, ?_⟩
      walk_at "w"
      refine ⟨by show (("machine " : Str) ++ itS n ++ (" " : Str)).length + (plS b).length ≤ 16777216; rw [app_len, app_len]; omega, ?_⟩
      walk_at "w"
      intro p1 hp1
      generalize hSS : DL.sup S3 p1 _ = S4
      obtain ⟨e1, y4, -⟩ := sup_of hSS
      have y4 := y4 hp1
      clear hSS
      refine ⟨_, _, e1, y4 _ _ ev, by rw [List.length_map, List.length_map]; show 1 + _ ≤ 16777216; omega, ?_⟩
      intro p2 hp2
      walk_at "w"
      refine ⟨("machine " ++ itS n ++ " " ++ plS b) :: rs.map stS, .inl ⟨p2, rfl, sup_same⟩, Nat.le_trans (join_fits (L := 300) (n := 1001) (List.forall_mem_cons.mpr ⟨by rw [app_len, app_len, app_len]; omega, fun y hy => Nat.le_trans (mem_map_le (fun q hq => st_len (hr q hq)) y hy) (by decide)⟩) (by rw [List.length_cons, List.length_map]; omega) len4) (by decide), ?_⟩
      exact ⟨S, x2.trans (y3.trans (y4.trans (Ext.new hp2 _))), h⟩

theorem ok_show_tosses {P : Program} {w : World} {K : PySem.W.Frag} {mg : Str → Option Value} {base : Heap} (T : Txt K mg) (hm : HM T P w base) : FnOk P w K mg base (L2.CX P w) 2 T.a_show_tosses T.fd_show_tosses ["tosses"] (toSp K sp_show_tosses) := by
  refine fnD T.F_show_tosses sc_show_tosses (fun ds S Q E h => ?_) (fun cdv A outer s H E RX hr => ⟨_, (pds_one (pd_ret (pd_if (pdt_cmp od_gt (pd_blt cd_len T.b_len (by decide +kernel) (pda_cons (pd_var 0) pda_nil)) pd_int) (pd_call (takes_of rfl rfl rfl rfl) (ok_joined T hm) (hr.mono (by decide)) T.m_joined T.F_joined.kp T.d_joined (pda_cons (pd_var 0) pda_nil)) (pd_glob (v := .str "-") (d := .str "-") T.m_NONE ⟨_, rfl⟩ (fun _ => rfl))))), fun ds S Q h => ?_⟩)
  · obtain ⟨_, rfl, _⟩ := h
    rfl
  · obtain ⟨l, rfl, hl, h⟩ := h
    unfold tossS at h
    walk_at "w"
    rw [List.length_map]
    refine IFB.p (fun c => ?_) (fun c => ?_)
    · rw [if_neg (fun z => by rw [z] at c; exact absurd c (by decide))] at h
      walk_at "w"
      exact ⟨l, rfl, hl, h⟩
    · rw [if_pos (List.length_eq_zero_iff.mp (by omega))] at h
      walk_at "w"
      exact h

theorem ok_show_table {P : Program} {w : World} {K : PySem.W.Frag} {mg : Str → Option Value} {base : Heap} (T : Txt K mg) (hm : HM T P w base) : FnOk P w K mg base (L2.CX P w) 2 T.a_show_table T.fd_show_table ["table"] (toSp K sp_show_table) := by
  refine fnE T.F_show_table sc_show_table (fun ds S Q E h => ?_) (fun cdv A outer s H E RX hr => ⟨_, (pds_one (pd_ret (pd_sm PySem.F.slot_str_join PySem.F.type_str_join md_join pd_str (pda_cons (pd_lc (own := [("i", 1), ("bar", 2), ("j", 3)]) (p := .t [.n 1, .n 2, .n 3]) rfl sc_show_table.nd (pdi_it (pd_var 0)) (blkOk_by (N := ["table", "i", "bar", "j"]) (sc := defScope s_show_table) (own := [("i", 1), ("bar", 2), ("j", 3)]) (by decide +kernel)) (fun _ _ _ _ _ => (pg_tup rfl (pgs_cons (pg_name (i := 1) sc_show_table.nd rfl (by first | exact Or.inl rfl | exact Or.inr rfl)) (pgs_cons (pg_name (i := 2) sc_show_table.nd rfl (by first | exact Or.inl rfl | exact Or.inr rfl)) (pgs_cons (pg_name (i := 3) sc_show_table.nd rfl (by first | exact Or.inl rfl | exact Or.inr rfl)) pgs_nil))))) (fun _ _ _ _ _ => pdts_nil) (fun _ _ _ _ _ => (pd_bin od_add (pd_bin od_add (pd_bin od_add (pd_bin od_add (pd_bltTy (cd_strB hr.hd hm.seer) T.b_str (by decide +kernel) (pda_cons (pd_var 1) pda_nil)) pd_str) (pd_call takes0 (ok_show_number T hm) (hr.mono (by decide)) T.m_show_number T.F_show_number.kp T.d_show_number (pda_cons (pd_var 2) pda_nil))) pd_str) (pd_bltTy (cd_strB hr.hd hm.seer) T.b_str (by decide +kernel) (pda_cons (pd_var 3) pda_nil))))) pda_nil)))), fun ds S Q h => ?_⟩)
  · obtain ⟨_, rfl, _⟩ := h
    rfl
  · obtain ⟨l, rfl, hl, h⟩ := h
    have hlen := hl.1
    walk_at "w"
    refine ⟨trivial, ?_⟩
    walk_at "w"
    refine lc_xsW (fun i acc S' => acc = ((l.take i).map cellS).map D.str ∧ Ext S S') ⟨rfl, Ext.refl _⟩ (fun _ _ _ _ => trivial) ?_ ?_
    · rintro i x acc S2 hi ⟨rfl, x2⟩
      obtain ⟨a, ha, rfl⟩ := map_at hi
      have hm := List.mem_of_getElem? ha
      have hil := (List.getElem?_eq_some_iff.mp ha).1
      walk_at "w"
      refine IFB.t rfl ?_
      walk_at "w"
      have l1 := itS_len (by decide) (hl.2 a hm).1
      have l2 := nm_len (hl.2 a hm).2.1
      have l3 := itS_len (by decide) (hl.2 a hm).2.2
      have l4 := len1
      refine ⟨tb_big (hl.2 a hm).1 (by decide), ?_⟩
      walk_at "w"
      refine ⟨by show (itS a.1).length + (" " : Str).length ≤ 16777216; omega, ?_⟩
      walk_at "w"
      refine ⟨a.2.1, rfl, (hl.2 a hm).2.1.1.mono (by decide), (hl.2 a hm).2.1.2.mono (by decide), ?_⟩
      walk_at "w"
      refine ⟨by show (itS a.1 ++ (" " : Str)).length + (numS a.2.1.1 a.2.1.2).length ≤ 16777216; rw [app_len]; omega, ?_⟩
      walk_at "w"
      refine ⟨by show (itS a.1 ++ (" " : Str) ++ numS a.2.1.1 a.2.1.2).length + (" " : Str).length ≤ 16777216; rw [app_len, app_len]; omega, ?_⟩
      walk_at "w"
      refine ⟨tb_big (hl.2 a hm).2.2 (by decide), ?_⟩
      walk_at "w"
      refine ⟨by show (itS a.1 ++ (" " : Str) ++ numS a.2.1.1 a.2.1.2 ++ (" " : Str)).length + (itS a.2.2).length ≤ 16777216; rw [app_len, app_len, app_len]; omega, ?_⟩
      exact ⟨by rw [List.length_map, List.length_map, List.length_take]; show _ < 16777216; omega, by rw [take_s ha, List.map_append]; rfl, x2⟩
    · rintro S2 v acc ⟨rfl, x2⟩ hv
      rw [List.length_map, List.take_length]
      walk_at "w"
      refine ⟨_, .inl ⟨v, rfl, sup_same⟩, Nat.le_trans (join_fits (mem_map_le fun q hq => ce_len (hl.2 q hq)) (by rw [List.length_map]; exact hl.1) len3) (by decide), ?_⟩
      exact ⟨S, x2.trans (Ext.new hv _), h⟩
end K41
set_option Elab.async false
set_option linter.all false
set_option maxRecDepth 100000
set_option maxHeartbeats 4000000
namespace K41
open PySem PySem.Spec PyProof.Rows L2 DL
local macro_rules | `(tactic| walk_at "w") => `(tactic| conv => whnf)
local macro_rules | `(tactic| walk_at "g") => `(tactic| ((conv => whnf); repeat' (first | (refine IFB.t ?_ ?_; rfl; conv => whnf) | (refine IFB.f ?_ ?_; rfl; conv => whnf))))
set_option exponentiation.threshold 20000
theorem sup2_of {S S' : Sto} {p : Addr} {c0 c : Cell} (h : DL.sup (DL.sup S p c0) p c = S') (hp : S p = none) : S' p = some c ∧ Ext S S' := by
  subst h
  refine ⟨sup_same, fun b d e => ?_⟩
  have n : b ≠ p := fun z => by rw [z, hp] at e; cases e
  rw [sup_ne n, sup_ne n]
  exact e

theorem ok_law_said_number {P : Program} {w : World} {K : PySem.W.Frag} {mg : Str → Option Value} {base : Heap} (T : Txt K mg) (hm : HM T P w base) : FnOk P w K mg base (L2.CX P w) 1 T.a_law_said_number T.fd_law_said_number ["number"] (toSp K sp_law_said_number) := by
  refine fnD T.F_law_said_number sc_law_said_number (fun ds S Q E h => ?_) (fun cdv A outer s H E RX hr => ⟨_, (pds_one (pd_ret (pd_if (pdt_cmp (od_eq hr.units) (pd_ix (pd_var 0) pd_int) pd_int) (pd_bltTy (cd_strB hr.hd hm.seer) T.b_str (by decide +kernel) (pda_cons (pd_ix (pd_var 0) pd_int) pda_nil)) (pd_bin od_add (pd_bin od_add (pd_bltTy (cd_strB hr.hd hm.seer) T.b_str (by decide +kernel) (pda_cons (pd_ix (pd_var 0) pd_int) pda_nil)) pd_str) (pd_bltTy (cd_strB hr.hd hm.seer) T.b_str (by decide +kernel) (pda_cons (pd_ix (pd_var 0) pd_int) pda_nil)))))), fun ds S Q h => ?_⟩)
  · obtain ⟨_, rfl, _⟩ := h
    rfl
  · obtain ⟨q, rfl, h1, h2, h⟩ := h
    have hl1 := itS_len (by decide) h1
    have hl2 := itS_len (by decide) h2
    have hl3 := len5
    unfold numS at h
    walk_at "w"
    refine ⟨_, rfl, ?_⟩
    walk_at "w"
    refine IFB.p (fun c => ?_) (fun c => ?_)
    · rw [if_pos c] at h
      walk_at "w"
      refine ⟨_, rfl, ?_⟩
      walk_at "w"
      exact ⟨tb_big h1 (by decide), h⟩
    · rw [if_neg c] at h
      walk_at "w"
      refine ⟨_, rfl, ?_⟩
      walk_at "w"
      refine ⟨tb_big h1 (by decide), ?_⟩
      walk_at "w"
      refine ⟨by show _ ≤ 16777216; unfold itS at hl1; omega, ?_⟩
      walk_at "w"
      refine ⟨_, rfl, ?_⟩
      walk_at "w"
      refine ⟨tb_big h2 (by decide), ?_⟩
      walk_at "w"
      refine ⟨by show (itS q.1 ++ ("/" : Str)).length + (itS q.2).length ≤ 16777216; rw [app_len]; omega, h⟩

theorem ok_law_said_all {P : Program} {w : World} {K : PySem.W.Frag} {mg : Str → Option Value} {base : Heap} (T : Txt K mg) (hm : HM T P w base) : FnOk P w K mg base (L2.CX P w) 2 T.a_law_said_all T.fd_law_said_all ["numbers"] (toSp K sp_law_said_all) := by
  refine fnE T.F_law_said_all sc_law_said_all (fun ds S Q E h => ?_) (fun cdv A outer s H E RX hr => ⟨_, (pds_one (pd_ret (pd_sm PySem.F.slot_str_join PySem.F.type_str_join md_join pd_str (pda_cons (pd_lc (own := [("number", 1)]) (p := .n 1) rfl sc_law_said_all.nd (pdi_it (pd_var 0)) (blkOk_by (N := ["numbers", "number"]) (sc := defScope s_law_said_all) (own := [("number", 1)]) (by decide +kernel)) (fun _ _ _ _ _ => (pg_name (i := 1) sc_law_said_all.nd rfl (by first | exact Or.inl rfl | exact Or.inr rfl))) (fun _ _ _ _ _ => pdts_nil) (fun _ _ _ _ _ => (pd_call takes0 (ok_law_said_number T hm) (hr.mono (by decide)) T.m_law_said_number T.F_law_said_number.kp T.d_law_said_number (pda_cons (pd_var 1) pda_nil)))) pda_nil)))), fun ds S Q h => ?_⟩)
  · obtain ⟨_, rfl, _⟩ := h
    rfl
  · obtain ⟨l, rfl, hl, h⟩ := h
    have hlen := hl.1
    walk_at "w"
    refine ⟨trivial, ?_⟩
    walk_at "w"
    refine lc_xsW (fun i acc S' => acc = ((l.take i).map (fun q => numS q.1 q.2)).map D.str ∧ Ext S S') ⟨rfl, Ext.refl _⟩ (fun _ _ _ _ => trivial) ?_ ?_
    · rintro i x acc S2 hi ⟨rfl, x2⟩
      obtain ⟨a, ha, rfl⟩ := map_at hi
      have hm := List.mem_of_getElem? ha
      have hil := (List.getElem?_eq_some_iff.mp ha).1
      walk_at "w"
      refine IFB.t rfl ?_
      walk_at "w"
      refine ⟨a, rfl, (hl.2 a hm).1.mono (by decide), (hl.2 a hm).2.mono (by decide), ?_⟩
      exact ⟨by rw [List.length_map, List.length_map, List.length_take]; show _ < 16777216; omega, by rw [take_s ha, List.map_append]; rfl, x2⟩
    · rintro S2 v acc ⟨rfl, x2⟩ hv
      rw [List.length_map, List.take_length]
      walk_at "w"
      refine ⟨_, .inl ⟨v, rfl, sup_same⟩, Nat.le_trans (join_fits (mem_map_le fun q hq => nm_len (hl.2 q hq)) (by rw [List.length_map]; exact hl.1) len1) (by decide), ?_⟩
      exact ⟨S, x2.trans (Ext.new hv _), h⟩

theorem ok_law_said_signs {P : Program} {w : World} {K : PySem.W.Frag} {mg : Str → Option Value} {base : Heap} (T : Txt K mg) (hm : HM T P w base) : FnOk P w K mg base (L2.CX P w) 1 T.a_law_said_signs T.fd_law_said_signs ["signs"] (toSp K sp_law_said_signs) := by
  refine fnE T.F_law_said_signs sc_law_said_signs (fun ds S Q E h => ?_) (fun cdv A outer s H E RX hr => ⟨_, (pds_one (pd_ret (pd_sm PySem.F.slot_str_join PySem.F.type_str_join md_join pd_str (pda_cons (pd_lc (own := [("sign", 1)]) (p := .n 1) rfl sc_law_said_signs.nd (pdi_it (pd_var 0)) (blkOk_by (N := ["signs", "sign"]) (sc := defScope s_law_said_signs) (own := [("sign", 1)]) (by decide +kernel)) (fun _ _ _ _ _ => (pg_name (i := 1) sc_law_said_signs.nd rfl (by first | exact Or.inl rfl | exact Or.inr rfl))) (fun _ _ _ _ _ => pdts_nil) (fun _ _ _ _ _ => (pd_bltTy (cd_strB hr.hd hm.seer) T.b_str (by decide +kernel) (pda_cons (pd_var 1) pda_nil)))) pda_nil)))), fun ds S Q h => ?_⟩)
  · obtain ⟨_, rfl, _⟩ := h
    rfl
  · obtain ⟨l, rfl, hl, h⟩ := h
    walk_at "w"
    refine ⟨trivial, ?_⟩
    walk_at "w"
    refine lc_xsm (fun x => match x with | .int i => D.str (itS i) | d => d) (fun _ _ => trivial) ?_ ?_
    · rintro i x acc S2 hi w2
      obtain ⟨a, ha, rfl⟩ := map_at hi
      walk_at "w"
      refine IFB.t rfl ?_
      walk_at "w"
      refine ⟨tb_big (hl.2 a (List.mem_of_getElem? ha)) (by decide), ?_⟩
      exact lc_leafL hi w2 (by rw [List.length_map]; have := hl.1; show _ ≤ 16777216; omega) rfl (Ext.refl _)
    · rintro S2 v ex hv
      walk_at "w"
      rw [List.map_map]
      refine ⟨l.map itS, .inl ⟨v, rfl, by rw [sup_same, List.map_map]; rfl⟩, Nat.le_trans (join_fits (mem_map_le fun i hi => itS_len (by decide) (hl.2 i hi)) (by rw [List.length_map]; exact hl.1) len0) (by decide), ?_⟩
      exact ⟨S, ex.trans (Ext.new hv _), h⟩

theorem ok_law_said_rows {P : Program} {w : World} {K : PySem.W.Frag} {mg : Str → Option Value} {base : Heap} (T : Txt K mg) (hm : HM T P w base) : FnOk P w K mg base (L2.CX P w) 1 T.a_law_said_rows T.fd_law_said_rows ["rows"] (toSp K sp_law_said_rows) := by
  refine fnE T.F_law_said_rows sc_law_said_rows (fun ds S Q E h => ?_) (fun cdv A outer s H E RX hr => ⟨_, (pds_one (pd_ret (pd_if (pdt_cmp (od_neE hr.units) (pd_var 0) (pd_tup pda_nil)) (pd_sm PySem.F.slot_str_join PySem.F.type_str_join md_join pd_str (pda_cons (pd_lc (own := [("row", 1)]) (p := .n 1) rfl sc_law_said_rows.nd (pdi_it (pd_var 0)) (blkOk_by (N := ["rows", "row", "one"]) (sc := defScope s_law_said_rows) (own := [("row", 1)]) (by decide +kernel)) (fun _ _ _ _ _ => (pg_name (i := 1) sc_law_said_rows.nd rfl (by first | exact Or.inl rfl | exact Or.inr rfl))) (fun _ _ _ _ _ => pdts_nil) (fun _ _ _ _ _ => (pd_sm PySem.F.slot_str_join PySem.F.type_str_join md_join pd_str (pda_cons (pd_lc (own := [("one", 2)]) (p := .n 2) rfl sc_law_said_rows.nd (pdi_it (pd_var 1)) (blkOk_by (by rfl)) (fun _ _ _ _ _ => (pg_name (i := 2) sc_law_said_rows.nd rfl (by first | exact Or.inl rfl | exact Or.inr rfl))) (fun _ _ _ _ _ => pdts_nil) (fun _ _ _ _ _ => (pd_bltTy (cd_strB hr.hd hm.seer) T.b_str (by decide +kernel) (pda_cons (pd_var 2) pda_nil)))) pda_nil)))) pda_nil)) pd_str))), fun ds S Q h => ?_⟩)
  · obtain ⟨_, rfl, _⟩ := h
    rfl
  · obtain ⟨l, rfl, hl, h⟩ := h
    have hlen := hl.1
    walk_at "w"
    refine .inl ⟨_, rfl, rfl, ?_⟩
    walk_at "w"
    by_cases c : l = []
    · subst c
      refine IFB.f rfl ?_
      exact ⟨S, Ext.refl _, h⟩
    · rw [if_neg c] at h
      refine IFB.t (by cases l with | nil => exact absurd rfl c | cons a l => rfl) ?_
      walk_at "w"
      refine ⟨trivial, ?_⟩
      walk_at "w"
      refine lc_xsW (fun i acc S' => acc = ((l.take i).map lineS).map D.str ∧ Ext S S') ⟨rfl, Ext.refl _⟩ (fun _ _ _ _ => trivial) ?_ ?_
      · rintro i x acc S2 hi ⟨rfl, x2⟩
        obtain ⟨a, ha, rfl⟩ := map_at hi
        have hm := List.mem_of_getElem? ha
        have hil := (List.getElem?_eq_some_iff.mp ha).1
        have hao := hl.2 a hm
        have hal := hao.2
        walk_at "w"
        refine IFB.t rfl ?_
        walk_at "w"
        refine ⟨trivial, ?_⟩
        walk_at "w"
        refine lc_xsW (fun k acc S' => acc = ((a.take k).map itS).map D.str ∧ Ext S2 S') ⟨rfl, Ext.refl _⟩ (fun _ _ _ _ => trivial) ?_ ?_
        · rintro k x acc S3 hk ⟨rfl, x3⟩
          obtain ⟨c, hc, rfl⟩ := map_at hk
          have hmc := List.mem_of_getElem? hc
          have hkl := (List.getElem?_eq_some_iff.mp hc).1
          walk_at "w"
          refine IFB.t rfl ?_
          walk_at "w"
          refine ⟨tb_big (hao.1.2 c hmc) (by decide), ?_⟩
          exact ⟨by rw [List.length_map, List.length_map, List.length_take]; show _ < 16777216; omega, by rw [take_s hc, List.map_append]; rfl, x3⟩
        · rintro S3 v acc ⟨rfl, x3⟩ hv
          rw [List.length_map, List.take_length]
          walk_at "w"
          refine ⟨_, .inl ⟨v, rfl, sup_same⟩, Nat.le_trans (join_fits (mem_map_le fun i hi => itS_len (by decide) (hao.1.2 i hi)) (by rw [List.length_map]; exact hao.2) len1) (by decide), ?_⟩
          exact ⟨by rw [List.length_map, List.length_map, List.length_take]; show _ < 16777216; omega, by rw [take_s ha, List.map_append]; rfl, x2.trans (x3.trans (Ext.new hv _))⟩
      · rintro S2 v acc ⟨rfl, x2⟩ hv
        rw [List.length_map, List.take_length]
        walk_at "w"
        refine ⟨_, .inl ⟨v, rfl, sup_same⟩, Nat.le_trans (join_fits (mem_map_le fun r hr => ln_len (hl.2 r hr).1 (hl.2 r hr).2) (by rw [List.length_map]; exact hl.1) len2) (by decide), ?_⟩
        exact ⟨S, x2.trans (Ext.new hv _), h⟩

theorem ok_law_said_place {P : Program} {w : World} {K : PySem.W.Frag} {mg : Str → Option Value} {base : Heap} (T : Txt K mg) (hm : HM T P w base) : FnOk P w K mg base (L2.CX P w) 1 T.a_law_said_place T.fd_law_said_place ["place"] (toSp K sp_law_said_place) := by
  refine fnE T.F_law_said_place sc_law_said_place (fun ds S Q E h => ?_) (fun cdv A outer s H E RX hr => ⟨_, (pds_one (pd_ret (pd_bin od_add (pd_dget (hu_of hr) (pd_dispS (pdp_cons pd_str (pdp_cons pd_str pdp_nil))) (pd_ix (pd_var 0) pd_int)) (pd_bltTy (cd_strB hr.hd hm.seer) T.b_str (by decide +kernel) (pda_cons (pd_ix (pd_var 0) pd_int) pda_nil))))), fun ds S Q h => ?_⟩)
  · obtain ⟨_, rfl, _⟩ := h
    rfl
  · obtain ⟨⟨b, k⟩, rfl, hp, h⟩ := h
    have l1 := itS_len (by decide) hp
    have l2 := len10
    have l3 := len11
    have hk : k.natAbs < 10 ^ 4300 := tb_big hp (by decide)
    have hl : (itS k).length ≤ 71 := l1
    walk_at "w"
    intro p hp
    walk_at "w"
    refine ⟨sup_same, ?_⟩
    generalize hSS : DL.sup (DL.sup S p _) p _ = S1
    obtain ⟨e1, y1⟩ := sup2_of hSS hp
    clear hSS
    walk_at "w"
    refine ⟨_, rfl, ?_⟩
    cases b with
    | true =>
      walk_at "w"
      refine ⟨_, .inr "to", e1, rfl, .str "s", rfl, ?_⟩
      walk_at "w"
      refine ⟨_, rfl, ?_⟩
      walk_at "w"
      refine ⟨hk, ?_⟩
      walk_at "w"
      exact ⟨by show ("s" : Str).length + (itS k).length ≤ 16777216; omega, S, y1, h⟩
    | false =>
      walk_at "w"
      refine ⟨_, .inr "is", e1, rfl, .str "i", rfl, ?_⟩
      walk_at "w"
      refine ⟨_, rfl, ?_⟩
      walk_at "w"
      refine ⟨hk, ?_⟩
      walk_at "w"
      exact ⟨by show ("i" : Str).length + (itS k).length ≤ 16777216; omega, S, y1, h⟩

theorem ok_law_said_table {P : Program} {w : World} {K : PySem.W.Frag} {mg : Str → Option Value} {base : Heap} (T : Txt K mg) (hm : HM T P w base) : FnOk P w K mg base (L2.CX P w) 2 T.a_law_said_table T.fd_law_said_table ["table"] (toSp K sp_law_said_table) := by
  refine fnE T.F_law_said_table sc_law_said_table (fun ds S Q E h => ?_) (fun cdv A outer s H E RX hr => ⟨_, (pds_one (pd_ret (pd_sm PySem.F.slot_str_join PySem.F.type_str_join md_join pd_str (pda_cons (pd_lc (own := [("i", 1), ("bar", 2), ("j", 3)]) (p := .t [.n 1, .n 2, .n 3]) rfl sc_law_said_table.nd (pdi_it (pd_var 0)) (blkOk_by (N := ["table", "i", "bar", "j"]) (sc := defScope s_law_said_table) (own := [("i", 1), ("bar", 2), ("j", 3)]) (by decide +kernel)) (fun _ _ _ _ _ => (pg_tup rfl (pgs_cons (pg_name (i := 1) sc_law_said_table.nd rfl (by first | exact Or.inl rfl | exact Or.inr rfl)) (pgs_cons (pg_name (i := 2) sc_law_said_table.nd rfl (by first | exact Or.inl rfl | exact Or.inr rfl)) (pgs_cons (pg_name (i := 3) sc_law_said_table.nd rfl (by first | exact Or.inl rfl | exact Or.inr rfl)) pgs_nil))))) (fun _ _ _ _ _ => pdts_nil) (fun _ _ _ _ _ => (pd_bin od_add (pd_bin od_add (pd_bin od_add (pd_bin od_add (pd_bltTy (cd_strB hr.hd hm.seer) T.b_str (by decide +kernel) (pda_cons (pd_var 1) pda_nil)) pd_str) (pd_call takes0 (ok_law_said_number T hm) (hr.mono (by decide)) T.m_law_said_number T.F_law_said_number.kp T.d_law_said_number (pda_cons (pd_var 2) pda_nil))) pd_str) (pd_bltTy (cd_strB hr.hd hm.seer) T.b_str (by decide +kernel) (pda_cons (pd_var 3) pda_nil))))) pda_nil)))), fun ds S Q h => ?_⟩)
  · obtain ⟨_, rfl, _⟩ := h
    rfl
  · obtain ⟨l, rfl, hl, h⟩ := h
    have hlen := hl.1
    walk_at "w"
    refine ⟨trivial, ?_⟩
    walk_at "w"
    refine lc_xsW (fun i acc S' => acc = ((l.take i).map cellS).map D.str ∧ Ext S S') ⟨rfl, Ext.refl _⟩ (fun _ _ _ _ => trivial) ?_ ?_
    · rintro i x acc S2 hi ⟨rfl, x2⟩
      obtain ⟨a, ha, rfl⟩ := map_at hi
      have hm := List.mem_of_getElem? ha
      have hil := (List.getElem?_eq_some_iff.mp ha).1
      walk_at "w"
      refine IFB.t rfl ?_
      walk_at "w"
      have l1 := itS_len (by decide) (hl.2 a hm).1
      have l2 := nm_len (hl.2 a hm).2.1
      have l3 := itS_len (by decide) (hl.2 a hm).2.2
      have l4 := len1
      refine ⟨tb_big (hl.2 a hm).1 (by decide), ?_⟩
      walk_at "w"
      refine ⟨by show (itS a.1).length + (" " : Str).length ≤ 16777216; omega, ?_⟩
      walk_at "w"
      refine ⟨a.2.1, rfl, (hl.2 a hm).2.1.1.mono (by decide), (hl.2 a hm).2.1.2.mono (by decide), ?_⟩
      walk_at "w"
      refine ⟨by show (itS a.1 ++ (" " : Str)).length + (numS a.2.1.1 a.2.1.2).length ≤ 16777216; rw [app_len]; omega, ?_⟩
      walk_at "w"
      refine ⟨by show (itS a.1 ++ (" " : Str) ++ numS a.2.1.1 a.2.1.2).length + (" " : Str).length ≤ 16777216; rw [app_len, app_len]; omega, ?_⟩
      walk_at "w"
      refine ⟨tb_big (hl.2 a hm).2.2 (by decide), ?_⟩
      walk_at "w"
      refine ⟨by show (itS a.1 ++ (" " : Str) ++ numS a.2.1.1 a.2.1.2 ++ (" " : Str)).length + (itS a.2.2).length ≤ 16777216; rw [app_len, app_len, app_len]; omega, ?_⟩
      exact ⟨by rw [List.length_map, List.length_map, List.length_take]; show _ < 16777216; omega, by rw [take_s ha, List.map_append]; rfl, x2⟩
    · rintro S2 v acc ⟨rfl, x2⟩ hv
      rw [List.length_map, List.take_length]
      walk_at "w"
      refine ⟨_, .inl ⟨v, rfl, sup_same⟩, Nat.le_trans (join_fits (mem_map_le fun q hq => ce_len (hl.2 q hq)) (by rw [List.length_map]; exact hl.1) len3) (by decide), ?_⟩
      exact ⟨S, x2.trans (Ext.new hv _), h⟩

theorem ok_law_said_machine {P : Program} {w : World} {K : PySem.W.Frag} {mg : Str → Option Value} {base : Heap} (T : Txt K mg) (hm : HM T P w base) : FnOk P w K mg base (L2.CX P w) 2 T.a_law_said_machine T.fd_law_said_machine ["machine"] (toSp K sp_law_said_machine) := by
  refine fnE T.F_law_said_machine sc_law_said_machine (fun ds S Q E h => ?_) (fun cdv A outer s H E RX hr => ⟨_, (pds_cons (pd_set 1 sc_law_said_machine.nd (pd_lst (pda_cons (pd_bin od_add (pd_bin od_add (pd_bin od_add pd_str (pd_bltTy (cd_strB hr.hd hm.seer) T.b_str (by decide +kernel) (pda_cons (pd_ix (pd_var 0) pd_int) pda_nil))) pd_str) (pd_call (takes_of rfl rfl rfl rfl) (ok_law_said_place T hm) (hr.mono (by decide)) T.m_law_said_place T.F_law_said_place.kp T.d_law_said_place (pda_cons (pd_ix (pd_var 0) pd_int) pda_nil))) pda_nil)))
    (pds_cons (pd_for (passes_of rfl) rfl (pdi_it (pd_ix (pd_var 0) pd_int)) (pdg_tup rfl (pdgs_cons (pdg_name 2 sc_law_said_machine.nd) (pdgs_cons (pdg_name 3 sc_law_said_machine.nd) pdgs_nil))) (pds_one (pd_expr (pd_lm PySem.F.slot_list_append PySem.F.type_list_append md_append (pd_var 1) (pda_cons (pd_bin od_add (pd_bin od_add (pd_call (takes_of rfl rfl rfl rfl) (ok_law_said_place T hm) (hr.mono (by decide)) T.m_law_said_place T.F_law_said_place.kp T.d_law_said_place (pda_cons (pd_var 2) pda_nil)) pd_str) (pd_call (takes_of rfl rfl rfl rfl) (ok_law_said_place T hm) (hr.mono (by decide)) T.m_law_said_place T.F_law_said_place.kp T.d_law_said_place (pda_cons (pd_var 3) pda_nil))) pda_nil)))))
    (pds_one (pd_ret (pd_sm PySem.F.slot_str_join PySem.F.type_str_join md_join pd_str (pda_cons (pd_var 1) pda_nil)))))), fun ds S Q h => ?_⟩)
  · obtain ⟨_, _, _, rfl, _⟩ := h
    rfl
  · obtain ⟨n, b, rs, rfl, ⟨hn, hb, hlen, hr⟩, h⟩ := h
    have l1 := itS_len (by decide) hn
    have l2 := pl_len hb
    have l3 := len9
    have l4 := len1
    walk_at "w"
    refine ⟨_, rfl, ?_⟩
    walk_at "w"
    refine ⟨tb_big hn (by decide), ?_⟩
    walk_at "w"
    refine ⟨by show ("machine " : Str).length + (itS n).length ≤ 16777216; omega, ?_⟩
    walk_at "w"
    refine ⟨by show (("machine " : Str) ++ itS n).length + (" " : Str).length ≤ 16777216; rw [app_len]; omega, ?_⟩
    walk_at "w"
    refine ⟨_, rfl, ?_⟩
    walk_at "w"
    refine ⟨b, rfl, hb, ?_⟩
    walk_at "w"
    refine ⟨by show (("machine " : Str) ++ itS n ++ (" " : Str)).length + (plS b).length ≤ 16777216; rw [app_len, app_len]; omega, ?_⟩
    walk_at "w"
    intro p0 hp0
    generalize hSS : DL.sup S p0 _ = S0
    obtain ⟨e0, x0, -⟩ := sup_of hSS
    have x0 := x0 hp0
    clear hSS
    walk_at "w"
    refine ⟨_, rfl, ?_⟩
    walk_at "w"
    refine for_xs (fun i ρ' S' => ∃ o2 o3, ρ' = [some (.tup [.int n, pD b, .tup (rs.map sD)]), some (.ref p0), o2, o3] ∧ S' p0 = some (.lst ((("machine " ++ itS n ++ " " ++ plS b) :: (rs.take i).map stS).map D.str)) ∧ Ext S S') ⟨_, _, rfl, e0, x0⟩ (fun _ _ _ _ => trivial) ?_ ?_
    · rintro i x _ S1 hi ⟨o2, o3, rfl, e1, x1⟩
      obtain ⟨a, ha, rfl⟩ := map_at hi
      have hm := List.mem_of_getElem? ha
      have hil := (List.getElem?_eq_some_iff.mp ha).1
      have p1 := pl_len (hr a hm).1
      have p2 := pl_len (hr a hm).2
      walk_at "w"
      refine ⟨rfl, ?_⟩
      walk_at "w"
      refine ⟨⟨_, e1⟩, ?_⟩
      walk_at "w"
      refine ⟨a.1, rfl, (hr a hm).1, ?_⟩
      walk_at "w"
      refine ⟨by show _ ≤ 16777216; omega, ?_⟩
      walk_at "w"
      refine ⟨a.2, rfl, (hr a hm).2, ?_⟩
      walk_at "w"
      refine ⟨by show _ ≤ 16777216; rw [app_len]; omega, ?_⟩
      walk_at "w"
      refine ⟨_, e1, by rw [List.length_map, List.length_cons, List.length_map, List.length_take]; show _ < 16777216; omega, ?_⟩
      walk_at "w"
      refine ⟨_, _, rfl, by rw [sup_same, take_s ha, ← List.cons_append, List.map_append]; rfl, fun b c z => by rw [sup_ne (fun w => by rw [w, hp0] at z; cases z)]; exact x1 _ _ z⟩
    · rintro _ S1 ⟨o2, o3, rfl, e1, x1⟩
      rw [List.length_map, List.take_length] at e1
      walk_at "w"
      refine ⟨trivial, ?_⟩
      walk_at "w"
      refine ⟨("machine " ++ itS n ++ " " ++ plS b) :: rs.map stS, .inl ⟨p0, rfl, e1⟩, Nat.le_trans (join_fits (L := 300) (n := 1001) (List.forall_mem_cons.mpr ⟨by rw [app_len, app_len, app_len]; omega, fun y hy => Nat.le_trans (mem_map_le (fun q hq => st_len (hr q hq)) y hy) (by decide)⟩) (by rw [List.length_cons, List.length_map]; omega) len4) (by decide), ?_⟩
      exact ⟨S, x1, h⟩
end K41
set_option Elab.async false
set_option linter.all false
set_option maxRecDepth 100000
set_option maxHeartbeats 4000000
namespace K41
open PySem PySem.Spec PyProof.Rows L2 DL
local macro_rules | `(tactic| walk_at "w") => `(tactic| conv => whnf)
local macro_rules | `(tactic| walk_at "g") => `(tactic| ((conv => whnf); repeat' (first | (refine IFB.t ?_ ?_; rfl; conv => whnf) | (refine IFB.f ?_ ?_; rfl; conv => whnf))))
set_option exponentiation.threshold 20000

def sp_is_integer : DSp := fun ds S Q _ => ∃ i, ds = [.int i] ∧ Q (.bl true) S
def sp_is_natural : DSp := fun ds S Q _ => ∃ i, ds = [.int i] ∧ Q (.bl (decide (0 ≤ i))) S
def sp_is_below : DSp := fun ds S Q _ => ∃ i m, ds = [.int i, .int m] ∧ 0 ≤ i ∧ i < m ∧ Q (.bl true) S
def sp_is_pair : DSp := fun ds S Q _ => ∃ x y, ds = [.tup [x, y]] ∧ Q (.bl true) S
def sp_is_ascending : DSp := fun ds S Q _ => ∃ ts : List Nat, ds = [nts ts] ∧ ts ≠ [] ∧ ts.length < 100000 ∧ ts.Pairwise (· < ·) ∧ Q (.bl true) S
def sp_lowest : DSp := fun ds S Q _ => ∃ t b : Int, ds = [.int t, .int b] ∧ 0 < b ∧ b.natAbs < 2 ^ 8000 ∧ Q (fr ((t : Rat) / (b : Rat))) S
def sp_is_number_of : DSp := fun ds S Q _ => ∃ q, ds = [fr q] ∧ RB 4000 q ∧ Q (.bl true) S
def sp_sum_of_two : DSp := fun ds S Q _ => ∃ a b, ds = [fr a, fr b] ∧ RB 3000 a ∧ RB 3000 b ∧ Q (fr (a + b)) S
def sp_product : DSp := fun ds S Q _ => ∃ a b, ds = [fr a, fr b] ∧ RB 3000 a ∧ RB 3000 b ∧ Q (fr (a * b)) S
def sp_sum_of_all : DSp := fun ds S Q _ => ∃ d qs N, ds = [d] ∧ (d = shD qs ∨ RdL S d (qs.map fr)) ∧ 0 < N ∧ N.natAbs < 2 ^ 1000 ∧ (∀ q ∈ qs, 0 ≤ q ∧ Ov N q) ∧ qs.sum ≤ 1 ∧ Q (fr qs.sum) S
def sp_is_shares_of : DSp := fun ds S Q _ => ∃ qs N, ds = [shD qs] ∧ Sh N qs ∧ N.natAbs < 2 ^ 1000 ∧ qs.length < 100000 ∧ Q (.bl true) S
def sp_is_shares : DSp := sp_is_shares_of
def sp_check_shares : DSp := fun ds S Q _ => ∃ qs N, ds = [shD qs] ∧ Sh N qs ∧ N.natAbs < 2 ^ 1000 ∧ qs.length < 100000 ∧ Q .non S
def sp_are_things : DSp := fun ds S Q _ => ∃ qs ts, ds = [shD qs, nts ts] ∧ ts ≠ [] ∧ ts.length < 100000 ∧ (∀ t ∈ ts, t < qs.length) ∧ ts.Pairwise (· < ·) ∧ Q (.bl true) S
def sp_put_together_of : DSp := fun ds S Q _ => ∃ N ps, ds = [shD (ps.map (·.1)), nts (idx 0 ps)] ∧ Sh N (ps.map (·.1)) ∧ N.natAbs < 2 ^ 1000 ∧ ps.any (·.2) = true ∧ ps.length < 100000 ∧ Q (shD (tog (sel ps).sum ps)) S
def sp_put_together : DSp := sp_put_together_of
def sp_check_thing : DSp := fun ds S Q _ => ∃ qs t, ds = [shD qs, .int t] ∧ 0 ≤ t ∧ t < qs.length ∧ Q .non S
def sp_parted : DSp := fun ds S Q _ => ∃ qs bs N M, ∃ t : Nat, ds = [shD qs, .int (t : Int), shD bs] ∧ Sh N qs ∧ Sh M bs ∧ N.natAbs < 2 ^ 1000 ∧ M.natAbs < 2 ^ 1000 ∧ qs.length < 10000 ∧ bs.length < 10000 ∧ t < qs.length ∧
  Q (shD (qs.take t ++ bs.map (qs[t]?.getD 0 * ·) ++ qs.drop (t + 1))) S
def sp_both_of : DSp := fun ds S Q _ => ∃ as bs N M, ds = [shD as, shD bs] ∧ Sh N as ∧ Sh M bs ∧ N.natAbs < 2 ^ 1000 ∧ M.natAbs < 2 ^ 1000 ∧ as.length < 1000 ∧ bs.length < 1000 ∧ Q (shD (prods as bs)) S
def sp_both : DSp := sp_both_of

theorem none_of {S S' : Sto} {q : Addr} (x : Ext S S') (h : S' q = none) : S q = none := by
  cases z : S q with
  | none => rfl
  | some c => rw [x _ _ z] at h; cases h
def sp_is_number : DSp := sp_is_number_of
def PV (n m : Int) (p : Bool × Int) : Prop := 0 ≤ p.2 ∧ p.2 < (if p.1 then m else n)
def Mv (n : Int) (b : Bool × Int) (rs : List ((Bool × Int) × (Bool × Int))) : Prop := 1 ≤ n ∧ PV n (rs.length : Int) b ∧ rs.length ≤ 1000 ∧ ∀ q ∈ rs, PV n (rs.length : Int) q.1 ∧ PV n (rs.length : Int) q.2
def sp_is_place : DSp := fun ds S Q _ => ∃ n m p, ds = [.int n, .int m, pD p] ∧ PV n m p ∧ Q (.bl true) S
def sp_is_machine_of : DSp := fun ds S Q _ => ∃ n b rs, ds = [.tup [.int n, pD b, .tup (rs.map sD)]] ∧ Mv n b rs ∧ Q (.bl true) S
def sp_is_machine : DSp := sp_is_machine_of
theorem ok_is_integer {P : Program} {w : World} {K : PySem.W.Frag} {mg : Str → Option Value} {base : Heap} (T : Txt K mg) : FnOk P w K mg base (L2.CX P w) 1 T.a_is_integer T.fd_is_integer ["value"] (toSp K sp_is_integer) := by
  refine fnD T.F_is_integer sc_is_integer (fun ds S Q E h => ?_) (fun cdv A outer s H E RX hr => ⟨_, (pds_one (pd_ret (pd_and (pd_isi1 .int (pd_var 0) T.b_isinstance T.b_int) (pd_one (pd_not (pd_isi1 .bool (pd_var 0) T.b_isinstance T.b_bool)))))), fun ds S Q h => ?_⟩)
  · obtain ⟨_, rfl, _⟩ := h
    rfl
  · obtain ⟨i, rfl, h⟩ := h
    walk_at "g"
    exact h

theorem ok_is_natural {P : Program} {w : World} {K : PySem.W.Frag} {mg : Str → Option Value} {base : Heap} (T : Txt K mg) : FnOk P w K mg base (L2.CX P w) 2 T.a_is_natural T.fd_is_natural ["value"] (toSp K sp_is_natural) := by
  refine fnD T.F_is_natural sc_is_natural (fun ds S Q E h => ?_) (fun cdv A outer s H E RX hr => ⟨_, (pds_one (pd_ret (pd_and (pd_call (takes_of rfl rfl rfl rfl) (ok_is_integer T) (hr.mono (by decide)) T.m_is_integer T.F_is_integer.kp T.d_is_integer (pda_cons (pd_var 0) pda_nil)) (pd_one (pd_cmp od_ge (pd_var 0) pd_int))))), fun ds S Q h => ?_⟩)
  · obtain ⟨_, rfl, _⟩ := h
    rfl
  · obtain ⟨i, rfl, h⟩ := h
    walk_at "g"
    refine ⟨i, rfl, ?_⟩
    walk_at "g"
    exact h

theorem ok_is_below {P : Program} {w : World} {K : PySem.W.Frag} {mg : Str → Option Value} {base : Heap} (T : Txt K mg) : FnOk P w K mg base (L2.CX P w) 3 T.a_is_below T.fd_is_below ["value", "many"] (toSp K sp_is_below) := by
  refine fnD T.F_is_below sc_is_below (fun ds S Q E h => ?_) (fun cdv A outer s H E RX hr => ⟨_, (pds_one (pd_ret (pd_and (pd_call (takes_of rfl rfl rfl rfl) (ok_is_natural T) (hr.mono (by decide)) T.m_is_natural T.F_is_natural.kp T.d_is_natural (pda_cons (pd_var 0) pda_nil)) (pd_one (pd_cmp od_lt (pd_var 0) (pd_var 1)))))), fun ds S Q h => ?_⟩)
  · obtain ⟨_, _, rfl, _⟩ := h
    rfl
  · obtain ⟨i, m, rfl, h0, h1, h⟩ := h
    walk_at "g"
    refine ⟨i, rfl, ?_⟩
    walk_at "w"
    refine IFB.t (decide_eq_true h0) ?_
    walk_at "w"
    rw [decide_eq_true h1]
    exact h

theorem ok_is_pair {P : Program} {w : World} {K : PySem.W.Frag} {mg : Str → Option Value} {base : Heap} (T : Txt K mg) : FnOk P w K mg base (L2.CX P w) 1 T.a_is_pair T.fd_is_pair ["value"] (toSp K sp_is_pair) := by
  refine fnD T.F_is_pair sc_is_pair (fun ds S Q E h => ?_) (fun cdv A outer s H E RX hr => ⟨_, (pds_one (pd_ret (pd_and (pd_isi1 .tup (pd_var 0) T.b_isinstance T.b_tuple) (pd_one (pd_cmp (od_eq hr.units) (pd_blt cd_len T.b_len (by decide +kernel) (pda_cons (pd_var 0) pda_nil)) pd_int))))), fun ds S Q h => ?_⟩)
  · obtain ⟨_, _, rfl, _⟩ := h
    rfl
  · obtain ⟨x, y, rfl, h⟩ := h
    walk_at "g"
    exact h

theorem ok_lowest {P : Program} {w : World} {K : PySem.W.Frag} {mg : Str → Option Value} {base : Heap} (T : Txt K mg) : FnOk P w K mg base (L2.CX P w) 1 T.a_lowest T.fd_lowest ["top", "bottom"] (toSp K sp_lowest) := by
  refine fnD T.F_lowest sc_lowest (fun ds S Q E h => ?_) (fun cdv A outer s H E RX hr => ⟨_, (pds_cons (pd_set 2 sc_lowest.nd (pd_bltFun cd_gcd T.i_gcd (pda_cons (pd_var 0) (pda_cons (pd_var 1) pda_nil))))
    (pds_cons (pd_ifS (pdt_cmp od_lt (pd_var 1) pd_int) (pds_one (pd_set 2 sc_lowest.nd (pd_neg (pd_var 2)))) pds_nil)
    (pds_one (pd_ret (pd_tup (pda_cons (pd_bin od_fdiv (pd_var 0) (pd_var 2)) (pda_cons (pd_bin od_fdiv (pd_var 1) (pd_var 2)) pda_nil))))))), fun ds S Q h => ?_⟩)
  · obtain ⟨_, _, rfl, _⟩ := h
    rfl
  · obtain ⟨t, b, rfl, h0, hb, h⟩ := h
    walk_at "w"
    refine IFB.f (decide_eq_false (by omega)) ?_
    walk_at "w"
    refine ⟨gcd_w h0 hb (by decide) (by decide) _, ?_⟩
    walk_at "w"
    refine ⟨gcd_w h0 hb (by decide) (by decide) _, ?_⟩
    walk_at "w"
    rw [low_fr h0]
    exact h

theorem ok_is_number_of {P : Program} {w : World} {K : PySem.W.Frag} {mg : Str → Option Value} {base : Heap} (T : Txt K mg) : FnOk P w K mg base (L2.CX P w) 2 T.a_is_number_of T.fd_is_number_of ["told"] (toSp K sp_is_number_of) := by
  refine fnD T.F_is_number_of sc_is_number_of (fun ds S Q E h => ?_) (fun cdv A outer s H E RX hr => ⟨_, (pds_cons (pd_ifS (PDW.pt (pdw_or (pdt_not (pdt_tru (pd_call (takes_of rfl rfl rfl rfl) (ok_is_pair T) (hr.mono (by decide)) T.m_is_pair T.F_is_pair.kp T.d_is_pair (pda_cons (pd_var 0) pda_nil)))) (pdw_or (pdt_not (pdt_tru (pd_call (takes_of rfl rfl rfl rfl) (ok_is_integer T) (hr.mono (by decide)) T.m_is_integer T.F_is_integer.kp T.d_is_integer (pda_cons (pd_ix (pd_var 0) pd_int) pda_nil)))) (pdw_or1 (pdt_not (pdt_tru (pd_call (takes_of rfl rfl rfl rfl) (ok_is_integer T) (hr.mono (by decide)) T.m_is_integer T.F_is_integer.kp T.d_is_integer (pda_cons (pd_ix (pd_var 0) pd_int) pda_nil)))))))) (pds_one (pd_ret pd_bl)) pds_nil)
    (pds_one (pd_ret (pd_and (pd_cmp od_gt (pd_ix (pd_var 0) pd_int) pd_int) (pd_one (pd_cmp (od_eq hr.units) (pd_call (takes_of rfl rfl rfl rfl) (ok_lowest T) (hr.mono (by decide)) T.m_lowest T.F_lowest.kp T.d_lowest (pda_cons (pd_ix (pd_var 0) pd_int) (pda_cons (pd_ix (pd_var 0) pd_int) pda_nil))) (pd_var 0))))))), fun ds S Q h => ?_⟩)
  · obtain ⟨_, rfl, _⟩ := h
    rfl
  · obtain ⟨q, rfl, hb, h⟩ := h
    walk_at "g"
    refine ⟨_, _, rfl, ?_⟩
    walk_at "g"
    refine ⟨.int q.num, rfl, ?_⟩
    walk_at "g"
    refine ⟨q.num, rfl, ?_⟩
    walk_at "g"
    refine ⟨.int (q.den : Int), rfl, ?_⟩
    walk_at "g"
    refine ⟨(q.den : Int), rfl, ?_⟩
    walk_at "g"
    refine ⟨.int (q.den : Int), rfl, ?_⟩
    walk_at "g"
    refine IFB.t (decide_eq_true (den_pos' q)) ?_
    walk_at "g"
    refine ⟨.int q.num, rfl, ?_⟩
    walk_at "g"
    refine ⟨.int (q.den : Int), rfl, ?_⟩
    walk_at "g"
    refine ⟨q.num, (q.den : Int), rfl, den_pos' q, lt_up (b := 8000) (by rw [Int.natAbs_natCast]; exact hb.2) (by decide), ?_⟩
    rw [num_div_den']
    refine eq_fr q ?_
    exact h

theorem ok_sum_of_two {P : Program} {w : World} {K : PySem.W.Frag} {mg : Str → Option Value} {base : Heap} (T : Txt K mg) : FnOk P w K mg base (L2.CX P w) 2 T.a_sum_of_two T.fd_sum_of_two ["a", "b"] (toSp K sp_sum_of_two) := by
  refine fnD T.F_sum_of_two sc_sum_of_two (fun ds S Q E h => ?_) (fun cdv A outer s H E RX hr => ⟨_, (pds_one (pd_ret (pd_call (takes_of rfl rfl rfl rfl) (ok_lowest T) (hr.mono (by decide)) T.m_lowest T.F_lowest.kp T.d_lowest (pda_cons (pd_bin od_add (pd_bin od_mul (pd_ix (pd_var 0) pd_int) (pd_ix (pd_var 1) pd_int)) (pd_bin od_mul (pd_ix (pd_var 1) pd_int) (pd_ix (pd_var 0) pd_int))) (pda_cons (pd_bin od_mul (pd_ix (pd_var 0) pd_int) (pd_ix (pd_var 1) pd_int)) pda_nil))))), fun ds S Q h => ?_⟩)
  · obtain ⟨_, _, rfl, _⟩ := h
    rfl
  · obtain ⟨a, b, rfl, ha, hb, h⟩ := h
    have b1 : ((b.den : Int)).natAbs < 2 ^ 3000 := by rw [Int.natAbs_natCast]; exact hb.2
    have a1 : ((a.den : Int)).natAbs < 2 ^ 3000 := by rw [Int.natAbs_natCast]; exact ha.2
    walk_at "w"
    refine ⟨.int a.num, rfl, ?_⟩
    walk_at "w"
    refine ⟨.int (b.den : Int), rfl, ?_⟩
    walk_at "w"
    refine ⟨.inl (wide_mul ha.1 b1 (by decide) (by decide) (by decide)), ?_⟩
    walk_at "w"
    refine ⟨.int b.num, rfl, ?_⟩
    walk_at "w"
    refine ⟨.int (a.den : Int), rfl, ?_⟩
    walk_at "w"
    refine ⟨.inl (wide_mul hb.1 a1 (by decide) (by decide) (by decide)), ?_⟩
    walk_at "w"
    refine ⟨.int (a.den : Int), rfl, ?_⟩
    walk_at "w"
    refine ⟨.int (b.den : Int), rfl, ?_⟩
    walk_at "w"
    refine ⟨.inl (wide_mul a1 b1 (by decide) (by decide) (by decide)), ?_⟩
    walk_at "w"
    refine ⟨_, _, rfl, Int.mul_pos (den_pos' a) (den_pos' b), lt_up (wide_lt a1 b1) (by decide), ?_⟩
    rw [add_fr]
    exact h

theorem ok_sum_of_all {P : Program} {w : World} {K : PySem.W.Frag} {mg : Str → Option Value} {base : Heap} (T : Txt K mg) : FnOk P w K mg base (L2.CX P w) 3 T.a_sum_of_all T.fd_sum_of_all ["numbers"] (toSp K sp_sum_of_all) := by
  refine fnD T.F_sum_of_all sc_sum_of_all (fun ds S Q E h => ?_) (fun cdv A outer s H E RX hr => ⟨_, (pds_cons (pd_set 1 sc_sum_of_all.nd (pd_glob (v := .ref T.z_ZERO) (d := (.tup [.int 0, .int 1])) T.m_ZERO rfl T.v_ZERO))
    (pds_cons (pd_for (passes_of rfl) rfl (pdi_it (pd_var 0)) (pdg_name 2 sc_sum_of_all.nd) (pds_one (pd_set 1 sc_sum_of_all.nd (pd_call (takes_of rfl rfl rfl rfl) (ok_sum_of_two T) (hr.mono (by decide)) T.m_sum_of_two T.F_sum_of_two.kp T.d_sum_of_two (pda_cons (pd_var 1) (pda_cons (pd_var 2) pda_nil))))))
    (pds_one (pd_ret (pd_var 1))))), fun ds S Q h => ?_⟩)
  · obtain ⟨_, _, _, rfl, _⟩ := h
    rfl
  · obtain ⟨d, qs, N, rfl, hd, h0, hb, hs, h1, h⟩ := h
    rcases hd with rfl | hd
    · walk_at "w"
      refine for_xs (fun i ρ' S' => S' = S ∧ ∃ o, ρ' = [some (shD qs), some (fr (qs.take i).sum), o]) ⟨rfl, _, by rw [List.take_zero, List.sum_nil]; rfl⟩ (fun _ _ _ h => trivial) ?_ ?_
      · rintro i x _ _ hi ⟨rfl, o, rfl⟩
        obtain ⟨q, hq, rfl⟩ := fr_at hi
        have hp := Rat.le_trans (take_le_sum (fun q hq => (hs q hq).1) i) h1
        have hq' := hs q (List.mem_of_getElem? hq)
        walk_at "w"
        refine ⟨_, q, rfl, (ov_rb h0 hb (ov_sum h0 fun q hq => (hs q (List.mem_of_mem_take hq)).2) (sum_nonneg fun q hq => (hs q (List.mem_of_mem_take hq)).1) hp).mono (by decide), (ov_rb h0 hb hq'.2 hq'.1 (Rat.le_trans (mem_le_sum (fun q hq => (hs q hq).1) q (List.mem_of_getElem? hq)) h1)).mono (by decide), ?_⟩
        walk_at "w"
        exact ⟨rfl, _, by rw [take_succ_sum hq]; rfl⟩
      · rintro _ _ ⟨rfl, o, rfl⟩
        rw [List.length_map, List.take_length]
        walk_at "w"
        exact h
    · rcases hd with ⟨a, rfl, ea⟩ | rfl
      · walk_at "w"
        refine ⟨_, .inl ⟨a, rfl, ea⟩, ?_⟩
        refine for_xs (fun i ρ' S' => S' = S ∧ ∃ o, ρ' = [some (.ref a), some (fr (qs.take i).sum), o]) ⟨rfl, _, by rw [List.take_zero, List.sum_nil]; rfl⟩ (fun _ _ _ h => by rw [h.1]; exact .inl ⟨a, rfl, ea⟩) ?_ ?_
        · rintro i x _ _ hi ⟨rfl, o, rfl⟩
          obtain ⟨q, hq, rfl⟩ := fr_at hi
          have hp := Rat.le_trans (take_le_sum (fun q hq => (hs q hq).1) i) h1
          have hq' := hs q (List.mem_of_getElem? hq)
          walk_at "w"
          refine ⟨_, q, rfl, (ov_rb h0 hb (ov_sum h0 fun q hq => (hs q (List.mem_of_mem_take hq)).2) (sum_nonneg fun q hq => (hs q (List.mem_of_mem_take hq)).1) hp).mono (by decide), (ov_rb h0 hb hq'.2 hq'.1 (Rat.le_trans (mem_le_sum (fun q hq => (hs q hq).1) q (List.mem_of_getElem? hq)) h1)).mono (by decide), ?_⟩
          walk_at "w"
          exact ⟨rfl, _, by rw [take_succ_sum hq]; rfl⟩
        · rintro _ _ ⟨rfl, o, rfl⟩
          rw [List.length_map, List.take_length]
          walk_at "w"
          exact h
      · walk_at "w"
        refine ⟨_, .inr rfl, ?_⟩
        refine for_xs (fun i ρ' S' => S' = S ∧ ∃ o, ρ' = [some (.fro (qs.map fr)), some (fr (qs.take i).sum), o]) ⟨rfl, _, by rw [List.take_zero, List.sum_nil]; rfl⟩ (fun _ _ _ h => .inr rfl) ?_ ?_
        · rintro i x _ _ hi ⟨rfl, o, rfl⟩
          obtain ⟨q, hq, rfl⟩ := fr_at hi
          have hp := Rat.le_trans (take_le_sum (fun q hq => (hs q hq).1) i) h1
          have hq' := hs q (List.mem_of_getElem? hq)
          walk_at "w"
          refine ⟨_, q, rfl, (ov_rb h0 hb (ov_sum h0 fun q hq => (hs q (List.mem_of_mem_take hq)).2) (sum_nonneg fun q hq => (hs q (List.mem_of_mem_take hq)).1) hp).mono (by decide), (ov_rb h0 hb hq'.2 hq'.1 (Rat.le_trans (mem_le_sum (fun q hq => (hs q hq).1) q (List.mem_of_getElem? hq)) h1)).mono (by decide), ?_⟩
          walk_at "w"
          exact ⟨rfl, _, by rw [take_succ_sum hq]; rfl⟩
        · rintro _ _ ⟨rfl, o, rfl⟩
          rw [List.length_map, List.take_length]
          walk_at "w"
          exact h

theorem ok_is_number {P : Program} {w : World} {K : PySem.W.Frag} {mg : Str → Option Value} {base : Heap} (T : Txt K mg) : FnOk P w K mg base (L2.CX P w) 3 T.a_is_number T.fd_is_number ["told"] (toSp K sp_is_number) := by
  refine fnD T.F_is_number sc_is_number (fun ds S Q E h => ?_) (fun cdv A outer s H E RX hr => ⟨_, (pds_one (pd_ret (pd_call (takes_of rfl rfl rfl rfl) (ok_is_number_of T) (hr.mono (by decide)) T.m_is_number_of T.F_is_number_of.kp T.d_is_number_of (pda_cons (pd_var 0) pda_nil)))), fun ds S Q h => ?_⟩)
  · obtain ⟨_, rfl, _⟩ := h
    rfl
  · obtain ⟨q, rfl, hb, h⟩ := h
    walk_at "w"
    exact ⟨q, rfl, hb, h⟩

theorem ok_is_shares_of {P : Program} {w : World} {K : PySem.W.Frag} {mg : Str → Option Value} {base : Heap} (T : Txt K mg) : FnOk P w K mg base (L2.CX P w) 4 T.a_is_shares_of T.fd_is_shares_of ["told"] (toSp K sp_is_shares_of) := by
  refine fnE T.F_is_shares_of sc_is_shares_of (fun ds S Q E h => ?_) (fun cdv A outer s H E RX hr => ⟨_, (pds_cons (pd_ifS (PDW.pt (pdw_or (pdt_not (pdt_tru (pd_isi1 .tup (pd_var 0) T.b_isinstance T.b_tuple))) (pdw_or (pdt_cmp (od_eq hr.units) (pd_blt cd_len T.b_len (by decide +kernel) (pda_cons (pd_var 0) pda_nil)) pd_int) (pdw_or1 (pdt_not (pdt_tru (pd_blt (cd_all rfl) T.b_all (by decide +kernel) (pda_cons (pd_lc (own := [("share", 1)]) (p := .n 1) rfl sc_is_shares_of.nd (pdi_it (pd_var 0)) (blkOk_by (N := ["told", "share"]) (sc := defScope s_is_shares_of) (own := [("share", 1)]) (by decide +kernel)) (fun _ _ _ _ _ => (pg_name (i := 1) sc_is_shares_of.nd rfl (by first | exact Or.inl rfl | exact Or.inr rfl))) (fun _ _ _ _ _ => pdts_nil) (fun _ _ _ _ _ => (pd_call takes0 (ok_is_number_of T) (hr.mono (by decide)) T.m_is_number_of T.F_is_number_of.kp T.d_is_number_of (pda_cons (pd_var 1) pda_nil)))) pda_nil)))))))) (pds_one (pd_ret pd_bl)) pds_nil)
    (pds_one (pd_ret (pd_and (pd_blt (cd_all rfl) T.b_all (by decide +kernel) (pda_cons (pd_lc (own := [("share", 1)]) (p := .n 1) rfl sc_is_shares_of.nd (pdi_it (pd_var 0)) (blkOk_by (N := ["told", "share"]) (sc := defScope s_is_shares_of) (own := [("share", 1)]) (by decide +kernel)) (fun _ _ _ _ _ => (pg_name (i := 1) sc_is_shares_of.nd rfl (by first | exact Or.inl rfl | exact Or.inr rfl))) (fun _ _ _ _ _ => pdts_nil) (fun _ _ _ _ _ => (pd_cmp od_gt (pd_ix (pd_var 1) pd_int) pd_int))) pda_nil)) (pd_one (pd_cmp (od_eq hr.units) (pd_call (takes_of rfl rfl rfl rfl) (ok_sum_of_all T) (hr.mono (by decide)) T.m_sum_of_all T.F_sum_of_all.kp T.d_sum_of_all (pda_cons (pd_var 0) pda_nil)) (pd_glob (v := .ref T.z_ONE) (d := (.tup [.int 1, .int 1])) T.m_ONE rfl T.v_ONE))))))), fun ds S Q h => ?_⟩)
  · obtain ⟨_, _, rfl, _⟩ := h
    rfl
  · obtain ⟨qs, N, rfl, hs, hN, hl, h⟩ := h
    have hl2 : (qs.map fr).length = qs.length := List.length_map _
    have h0 : 0 < qs.length := List.length_pos_iff.mpr hs.ne
    walk_at "g"
    refine IFB.f (decide_eq_false (by rw [hl2]; omega)) ?_
    walk_at "w"
    refine lc_xsm (fun _ => D.bl true) (fun _ _ => trivial) ?_ ?_
    · rintro i x acc S2 hi w2
      obtain ⟨q, hq, rfl⟩ := fr_at hi
      walk_at "w"
      refine IFB.t rfl ?_
      walk_at "w"
      refine ⟨q, rfl, (hs.rb hN (List.mem_of_getElem? hq)).mono (by decide), ?_⟩
      exact lc_leafL hi w2 (by rw [hl2]; show _ ≤ 16777216; omega) rfl (Ext.refl _)
    · rintro S2 v ex hv
      walk_at "w"
      refine ⟨(qs.map fr).map fun _ => true, .inl ⟨_, rfl, by rw [sup_same, trues]⟩, ?_⟩
      rw [show ((qs.map fr).map fun _ => true).all id = true by simp]
      walk_at "g"
      refine lc_xsm (fun _ => D.bl true) (fun _ _ => trivial) ?_ ?_
      · rintro i x acc S3 hi w2
        obtain ⟨q, hq, rfl⟩ := fr_at hi
        walk_at "w"
        refine IFB.t rfl ?_
        walk_at "w"
        refine ⟨.int q.num, rfl, ?_⟩
        walk_at "w"
        exact lc_leafL hi w2 (by rw [hl2]; show _ ≤ 16777216; omega) (by rw [decide_eq_true (show 0 < q.num from num_pos' (hs.all q (List.mem_of_getElem? hq)).1)]) (Ext.refl _)
      · rintro S4 u ex4 hu
        walk_at "w"
        refine ⟨(qs.map fr).map fun _ => true, .inl ⟨_, rfl, by rw [sup_same, trues]⟩, ?_⟩
        rw [show ((qs.map fr).map fun _ => true).all id = true by simp]
        walk_at "g"
        refine ⟨_, qs, N, rfl, .inl rfl, hs.pos, hN, fun q hq => ⟨Rat.le_of_lt (hs.all q hq).1, (hs.all q hq).2⟩, by rw [hs.sum]; exact Rat.le_refl, ?_⟩
        rw [hs.sum]
        refine eq_fr 1 ?_
        exact ⟨S, ((ex.trans (Ext.new hv _)).trans ex4).trans (Ext.new hu _), h⟩

theorem ok_is_shares {P : Program} {w : World} {K : PySem.W.Frag} {mg : Str → Option Value} {base : Heap} (T : Txt K mg) : FnOk P w K mg base (L2.CX P w) 5 T.a_is_shares T.fd_is_shares ["told"] (toSp K sp_is_shares) := by
  refine fnD T.F_is_shares sc_is_shares (fun ds S Q E h => ?_) (fun cdv A outer s H E RX hr => ⟨_, (pds_one (pd_ret (pd_call (takes_of rfl rfl rfl rfl) (ok_is_shares_of T) (hr.mono (by decide)) T.m_is_shares_of T.F_is_shares_of.kp T.d_is_shares_of (pda_cons (pd_var 0) pda_nil)))), fun ds S Q h => ?_⟩)
  · obtain ⟨_, _, rfl, _⟩ := h
    rfl
  · obtain ⟨qs, N, rfl, hs, hN, hl, h⟩ := h
    walk_at "w"
    exact ⟨qs, N, rfl, hs, hN, hl, h⟩

theorem ok_is_place {P : Program} {w : World} {K : PySem.W.Frag} {mg : Str → Option Value} {base : Heap} (T : Txt K mg) : FnOk P w K mg base (L2.CX P w) 4 T.a_is_place T.fd_is_place ["n", "many", "told"] (toSp K sp_is_place) := by
  refine fnD T.F_is_place sc_is_place (fun ds S Q E h => ?_) (fun cdv A outer s H E RX hr => ⟨_, (pds_cons (pd_ifS (PDW.pt (pdw_or (pdt_not (pdt_tru (pd_call (takes_of rfl rfl rfl rfl) (ok_is_pair T) (hr.mono (by decide)) T.m_is_pair T.F_is_pair.kp T.d_is_pair (pda_cons (pd_var 2) pda_nil)))) (pdw_or1 (pdt_not (pdt_tru (pd_isi1 .str (pd_ix (pd_var 2) pd_int) T.b_isinstance T.b_str)))))) (pds_one (pd_ret pd_bl)) pds_nil)
    (pds_one (pd_ret (pd_or (pd_and (pd_cmp (od_eq hr.units) (pd_ix (pd_var 2) pd_int) (pd_glob (v := .str "to") (d := .str "to") T.m_TO ⟨_, rfl⟩ (fun _ => rfl))) (pd_one (pd_call (takes_of rfl rfl rfl rfl) (ok_is_below T) (hr.mono (by decide)) T.m_is_below T.F_is_below.kp T.d_is_below (pda_cons (pd_ix (pd_var 2) pd_int) (pda_cons (pd_var 1) pda_nil))))) (pd_one (pd_and (pd_cmp (od_eq hr.units) (pd_ix (pd_var 2) pd_int) (pd_glob (v := .str "is") (d := .str "is") T.m_IS ⟨_, rfl⟩ (fun _ => rfl))) (pd_one (pd_call (takes_of rfl rfl rfl rfl) (ok_is_below T) (hr.mono (by decide)) T.m_is_below T.F_is_below.kp T.d_is_below (pda_cons (pd_ix (pd_var 2) pd_int) (pda_cons (pd_var 0) pda_nil)))))))))), fun ds S Q h => ?_⟩)
  · obtain ⟨_, _, _, rfl, _⟩ := h
    rfl
  · obtain ⟨n, m, ⟨b, k⟩, rfl, ⟨h0, h1⟩, h⟩ := h
    cases b with
    | true =>
      walk_at "g"
      refine ⟨_, _, rfl, ?_⟩
      walk_at "g"
      refine ⟨_, rfl, ?_⟩
      walk_at "g"
      refine ⟨_, rfl, ?_⟩
      walk_at "g"
      refine ⟨_, rfl, ?_⟩
      walk_at "g"
      refine ⟨k, _, rfl, h0, h1, ?_⟩
      walk_at "g"
      exact h
    | false =>
      walk_at "g"
      refine ⟨_, _, rfl, ?_⟩
      walk_at "g"
      refine ⟨_, rfl, ?_⟩
      walk_at "g"
      refine ⟨_, rfl, ?_⟩
      walk_at "g"
      refine ⟨_, rfl, ?_⟩
      walk_at "g"
      refine ⟨_, rfl, ?_⟩
      walk_at "g"
      refine ⟨k, _, rfl, h0, h1, ?_⟩
      walk_at "g"
      exact h

theorem ok_is_machine_of {P : Program} {w : World} {K : PySem.W.Frag} {mg : Str → Option Value} {base : Heap} (T : Txt K mg) : FnOk P w K mg base (L2.CX P w) 5 T.a_is_machine_of T.fd_is_machine_of ["told"] (toSp K sp_is_machine_of) := by
  refine fnE T.F_is_machine_of sc_is_machine_of (fun ds S Q E h => ?_) (fun cdv A outer s H E RX hr => ⟨_, (pds_cons (pd_ifS (PDW.pt (pdw_or (pdt_not (pdt_tru (pd_isi1 .tup (pd_var 0) T.b_isinstance T.b_tuple))) (pdw_or (pdt_cmp (od_ne hr.units) (pd_blt cd_len T.b_len (by decide +kernel) (pda_cons (pd_var 0) pda_nil)) pd_int) (pdw_or (pdt_not (pdt_tru (pd_call (takes_of rfl rfl rfl rfl) (ok_is_integer T) (hr.mono (by decide)) T.m_is_integer T.F_is_integer.kp T.d_is_integer (pda_cons (pd_ix (pd_var 0) pd_int) pda_nil)))) (pdw_or1 (pdt_cmp od_lt (pd_ix (pd_var 0) pd_int) pd_int)))))) (pds_one (pd_ret pd_bl)) pds_nil)
    (pds_cons (pd_asg (pd_var 0) (pdg_tup rfl (pdgs_cons (pdg_name 1 sc_is_machine_of.nd) (pdgs_cons (pdg_name 2 sc_is_machine_of.nd) (pdgs_cons (pdg_name 3 sc_is_machine_of.nd) pdgs_nil)))))
    (pds_cons (pd_ifS (PDW.pt (pdw_or (pdt_not (pdt_tru (pd_isi1 .tup (pd_var 3) T.b_isinstance T.b_tuple))) (pdw_or (pdt_not (pdt_tru (pd_blt (cd_all rfl) T.b_all (by decide +kernel) (pda_cons (pd_lc (own := [("row", 4)]) (p := .n 4) rfl sc_is_machine_of.nd (pdi_it (pd_var 3)) (blkOk_by (N := ["told", "n", "begin", "rows", "row", "place"]) (sc := defScope s_is_machine_of) (own := [("row", 4)]) (by decide +kernel)) (fun _ _ _ _ _ => (pg_name (i := 4) sc_is_machine_of.nd rfl (by first | exact Or.inl rfl | exact Or.inr rfl))) (fun _ _ _ _ _ => pdts_nil) (fun _ _ _ _ _ => (pd_call takes0 (ok_is_pair T) (hr.mono (by decide)) T.m_is_pair T.F_is_pair.kp T.d_is_pair (pda_cons (pd_var 4) pda_nil)))) pda_nil)))) (pdw_or1 (pdt_not (pdt_tru (pd_call (takes_of rfl rfl rfl rfl) (ok_is_place T) (hr.mono (by decide)) T.m_is_place T.F_is_place.kp T.d_is_place (pda_cons (pd_var 1) (pda_cons (pd_blt cd_len T.b_len (by decide +kernel) (pda_cons (pd_var 3) pda_nil)) (pda_cons (pd_var 2) pda_nil)))))))))) (pds_one (pd_ret pd_bl)) pds_nil)
    (pds_one (pd_ret (pd_blt (cd_all rfl) T.b_all (by decide +kernel) (pda_cons (pd_lc2 (own := [("row", 4), ("place", 5)]) (vs1 := [5]) (p := .n 4) (p1 := .n 5) rfl sc_is_machine_of.nd (pdi_it (pd_var 3)) (blkOk_by (N := ["told", "n", "begin", "rows", "row", "place"]) (sc := defScope s_is_machine_of) (own := [("row", 4), ("place", 5)]) (by decide +kernel)) (fun _ _ _ _ _ => (pg_name (i := 4) sc_is_machine_of.nd rfl (by first | exact Or.inl rfl | exact Or.inr rfl))) (fun _ _ _ _ _ => pdts_nil) (fun _ _ _ _ _ => (pdi_it (pd_var 4))) (fun _ _ _ _ _ => (pg_name (i := 5) sc_is_machine_of.nd rfl (by first | exact Or.inl rfl | exact Or.inr rfl))) (fun _ _ _ _ _ => pdts_nil) (fun _ _ _ _ _ => (pd_call takes0 (ok_is_place T) (hr.mono (by decide)) T.m_is_place T.F_is_place.kp T.d_is_place (pda_cons (pd_var 1) (pda_cons (pd_blt cd_len T.b_len (by decide +kernel) (pda_cons (pd_var 3) pda_nil)) (pda_cons (pd_var 5) pda_nil)))))) pda_nil))))))), fun ds S Q h => ?_⟩)
  · obtain ⟨_, _, _, rfl, _⟩ := h
    rfl
  · obtain ⟨n, b, rs, rfl, ⟨hn, hb, hlen, hr⟩, h⟩ := h
    have hl2 : (rs.map sD).length = rs.length := List.length_map _
    walk_at "g"
    refine ⟨_, rfl, ?_⟩
    walk_at "g"
    refine ⟨n, rfl, ?_⟩
    walk_at "g"
    refine ⟨_, rfl, ?_⟩
    walk_at "g"
    refine IFB.f (decide_eq_false (by omega)) ?_
    walk_at "w"
    refine ⟨rfl, ?_⟩
    walk_at "g"
    refine lc_xsm (fun _ => D.bl true) (fun _ _ => trivial) ?_ ?_
    · rintro i x acc S2 hi w2
      obtain ⟨a, ha, rfl⟩ := map_at hi
      walk_at "w"
      refine IFB.t rfl ?_
      walk_at "w"
      refine ⟨_, _, rfl, ?_⟩
      exact lc_leafL hi w2 (by rw [hl2]; show _ ≤ 16777216; omega) rfl (Ext.refl _)
    · rintro S2 v ex hv
      walk_at "w"
      refine ⟨(rs.map sD).map fun _ => true, .inl ⟨_, rfl, by rw [sup_same, trues]⟩, ?_⟩
      rw [show ((rs.map sD).map fun _ => true).all id = true by simp]
      walk_at "g"
      refine ⟨n, _, b, rfl, by rw [hl2]; exact hb, ?_⟩
      walk_at "g"
      intro D0 hD0
      generalize hSS : DL.sup S2 v _ = S3 at hD0 ⊢
      obtain ⟨ev, y3, -⟩ := sup_of hSS
      have y3 := y3 hv
      clear hSS
      have x3 : Ext S S3 := ex.trans y3
      have hS0 : S D0 = none := none_of x3 hD0
      refine ⟨fun i S' => ∃ k, S' D0 = some (.lst (List.replicate k (.bl true))) ∧ k ≤ 2 * i ∧ i ≤ rs.length ∧ Ext S S', ⟨0, sup_same, by omega, by omega, fun b c z => by rw [sup_ne (fun w => by rw [w, hS0] at z; cases z)]; exact x3 _ _ z⟩, fun i S' ⟨k, e, hk, hil, xe⟩ => ⟨trivial, fun x hx => ?_, fun hend => ?_⟩⟩
      · obtain ⟨a, ha, rfl⟩ := map_at hx
        have hm := hr a (List.mem_of_getElem? ha)
        have hi2 := (List.getElem?_eq_some_iff.mp ha).1
        walk_at "w"
        refine IFB.t rfl ?_
        walk_at "w"
        refine ⟨fun j S5 => ∃ k', S5 D0 = some (.lst (List.replicate k' (.bl true))) ∧ k' ≤ 2 * i + j ∧ Ext S S5, ⟨k, e, by omega, xe⟩, fun j S5 ⟨k', e', hk', xe'⟩ => ⟨trivial, fun z hz => ?_, fun hj => ?_⟩⟩
        · obtain ⟨p, rfl, hp, hj⟩ : ∃ p, z = pD p ∧ PV n (rs.length : Int) p ∧ j ≤ 1 := by
            match j, hz with
            | 0, hz => exact ⟨a.1, (Option.some.inj hz).symm, hm.1, by omega⟩
            | 1, hz => exact ⟨a.2, (Option.some.inj hz).symm, hm.2, by omega⟩
          walk_at "w"
          refine IFB.t rfl ?_
          walk_at "w"
          refine ⟨n, _, p, rfl, by rw [hl2]; exact hp, ?_⟩
          refine ⟨_, e', by rw [List.length_replicate]; show _ < 16777216; omega, k' + 1, by rw [sup_same, List.replicate_succ'], by omega, fun b c z => by rw [sup_ne (fun w => by rw [w, hS0] at z; cases z)]; exact xe' _ _ z⟩
        · have hj : j = 2 := hj
          subst hj
          exact ⟨k', e', by omega, hi2, xe'⟩
      · walk_at "w"
        refine ⟨List.replicate k true, .inl ⟨_, rfl, by rw [e, List.map_replicate]⟩, ?_⟩
        rw [show (List.replicate k true).all id = true by simp]
        exact ⟨S, xe, h⟩

theorem ok_is_machine {P : Program} {w : World} {K : PySem.W.Frag} {mg : Str → Option Value} {base : Heap} (T : Txt K mg) : FnOk P w K mg base (L2.CX P w) 6 T.a_is_machine T.fd_is_machine ["told"] (toSp K sp_is_machine) := by
  refine fnD T.F_is_machine sc_is_machine (fun ds S Q E h => ?_) (fun cdv A outer s H E RX hr => ⟨_, (pds_one (pd_ret (pd_call (takes_of rfl rfl rfl rfl) (ok_is_machine_of T) (hr.mono (by decide)) T.m_is_machine_of T.F_is_machine_of.kp T.d_is_machine_of (pda_cons (pd_var 0) pda_nil)))), fun ds S Q h => ?_⟩)
  · obtain ⟨_, _, _, rfl, _⟩ := h
    rfl
  · obtain ⟨n, b, rs, rfl, hm, h⟩ := h
    walk_at "g"
    exact ⟨n, b, rs, rfl, hm, h⟩
end K41
set_option Elab.async false
set_option linter.all false
set_option maxRecDepth 100000
set_option maxHeartbeats 4000000
namespace K41
open PySem PySem.Spec PyProof.Rows L2 DL
local macro_rules | `(tactic| walk_at "w") => `(tactic| conv => whnf)
local macro_rules | `(tactic| walk_at "g") => `(tactic| ((conv => whnf); repeat' (first | (refine IFB.t ?_ ?_; rfl; conv => whnf) | (refine IFB.f ?_ ?_; rfl; conv => whnf))))
set_option exponentiation.threshold 20000

def Shs (l : List (Int × Int)) : Prop := Ns l ∧ ∃ qs N, l = qs.map (fun q : Rat => (q.num, (q.den : Int))) ∧ DL.Sh N qs ∧ N.natAbs < 2 ^ 1000
def Zs (l : List Int) : Prop := (∀ i ∈ l, ZO i) ∧ l.length ≤ 400
def LvOk (a b : List (List Int)) : Prop := (a = [] ∨ Rws a) ∧ Rws b ∧ ∃ w : Nat, ∀ r ∈ a ++ b, r.length = w
def Ce (c : Int × (Int × Int) × Int) : Prop := Nn c.1 ∧ Nm c.2.1 ∧ Nn c.2.2 ∧ 0 < c.2.1.1 ∧ c.2.1.1 ≤ c.2.1.2 ∧ (c.1 = c.2.2 ↔ c.2.1.1 = c.2.1.2)
def Ces (cs : List (Int × (Int × Int) × Int)) : Prop := cs ≠ [] ∧ cs.length ≤ 100 ∧ ∀ c ∈ cs, Ce c
def headS (n : Int) (b : Bool × Int) : Str := "machine " ++ itS n ++ " " ++ plS b
def sp_integer_of : DSp := fun ds S Q _ => ∃ i, ds = [.str (itS i)] ∧ Nn i ∧ Q (.int i) S
def sp_whole : DSp := fun ds S Q _ => ∃ a xs, ds = [.ref a] ∧ S a = some (.lst xs) ∧ (∀ x ∈ xs, isNone x = false) ∧ xs.length ≤ 3000 ∧ Q (.tup xs) S
def sp_integers_of : DSp := fun ds S Q _ => ∃ l, ds = [.str (lineS l)] ∧ Ln l ∧ Q (tI l) S
def sp_number_of : DSp := fun ds S Q _ => ∃ p : Int × Int, ds = [.str (numS p.1 p.2)] ∧ Nm p ∧ Q (nD p) S
def sp_shares_of : DSp := fun ds S Q _ => ∃ l, ds = [.str (allS l)] ∧ Shs l ∧ Q (.tup (l.map nD)) S
def sp_signs_of : DSp := fun ds S Q _ => ∃ l, ds = [.str (signS l)] ∧ Zs l ∧ Q (tI l) S
def sp_figures_of : DSp := fun ds S Q _ => ∃ a b, ds = [.str (figS a b)] ∧ Zs a ∧ Zs b ∧ b ≠ [] ∧ Q (.tup [tI a, tI b]) S
def sp_rows_of : DSp := fun ds S Q _ => ∃ rs : List (List Int), ds = [.str (rowS rs)] ∧ Rws rs ∧ Q (.tup (rs.map tI)) S
def sp_leaves_of : DSp := fun ds S Q _ => ∃ a b : List (List Int), ds = [.str (lvS a b)] ∧ LvOk a b ∧ Q (.tup [.tup (a.map tI), .tup (b.map tI)]) S
def sp_tosses_of : DSp := fun ds S Q _ => ∃ l, ds = [.str (tossS l)] ∧ Zs l ∧ Q (tI l) S
def sp_cell_of : DSp := fun ds S Q _ => ∃ c, ds = [.str (cellS c)] ∧ Ce c ∧ Q (cD c) S
def sp_table_of : DSp := fun ds S Q _ => ∃ cs, ds = [.str (tabS cs)] ∧ Ces cs ∧ Q (.tup (cs.map cD)) S
def sp_place_of : DSp := fun ds S Q _ => ∃ p : Bool × Int, ds = [.str (plS p)] ∧ Nn p.2 ∧ Q (pD p) S
def sp_row_of : DSp := fun ds S Q _ => ∃ q, ds = [.str (stS q)] ∧ Nn q.1.2 ∧ Nn q.2.2 ∧ Q (sD q) S
def sp_head_of : DSp := fun ds S Q _ => ∃ n b, ds = [.str (headS n b)] ∧ Nn n ∧ Nn b.2 ∧ Q (.tup [.int n, pD b]) S
def Fs {K : PySem.W.Frag} {mg : Str → Option Value} (T : Txt K mg) (f : Addr) (sp : DSp) : Prop := (f = T.a_number_of ∧ sp = sp_number_of) ∨ (f = T.a_shares_of ∧ sp = sp_shares_of) ∨ (f = T.a_figures_of ∧ sp = sp_figures_of) ∨
  (f = T.a_leaves_of ∧ sp = sp_leaves_of) ∨ (f = T.a_tosses_of ∧ sp = sp_tosses_of) ∨ (f = T.a_table_of ∧ sp = sp_table_of)
def sp_only {K : PySem.W.Frag} {mg : Str → Option Value} (T : Txt K mg) : DSp := fun ds S Q _ => ∃ f sp t, ds = [.ref f, .str t] ∧ Fs T f sp ∧ t.length ≤ 2000000 ∧ 10 ∉ tl t ∧ ∀ E, sp [.str t] S (fun d S' => isNone d = false ∧ Q d S') E
def sp_read_number : DSp := sp_number_of
def sp_read_shares : DSp := sp_shares_of
def sp_read_figures : DSp := sp_figures_of
def sp_read_leaves : DSp := sp_leaves_of
def sp_read_tosses : DSp := sp_tosses_of
def sp_read_table : DSp := sp_table_of
def sp_read_machine : DSp := fun ds S Q _ => ∃ n b rs, ds = [.str (machS n b rs)] ∧ Mv n b rs ∧ Nn n ∧ Q (.tup [.int n, pD b, .tup (rs.map sD)]) S
theorem take_s' {α β : Type} {f : α → β} {l : List α} {i : Nat} {a : α} (h : l[i]? = some a) : (l.take i).map f ++ [f a] = (l.take (i + 1)).map f := (take_s h).symm
theorem mem_map_nn {α : Type} {f : α → D} {l : List α} (h : ∀ a, isNone (f a) = false) : ∀ x ∈ l.map f, isNone x = false := fun x hx => by
  obtain ⟨a, _, rfl⟩ := List.mem_map.mp hx
  exact h a
theorem isN_false {xs : List D} (h : ∀ x ∈ xs, isNone x = false) : (xs.map isNone).any id = false := by
  rw [List.any_map, List.any_eq_false]
  intro x hx
  show ¬ isNone x = true
  rw [h x hx]
  decide
theorem ok_integer_of {P : Program} {w : World} {K : PySem.W.Frag} {mg : Str → Option Value} {base : Heap} (T : Txt K mg) (hm : HM T P w base) : FnOk P w K mg base (L2.CX P w) 1 T.a_integer_of T.fd_integer_of ["text"] (toSp K sp_integer_of) := by
  refine fnE T.F_integer_of sc_integer_of (fun ds S Q E h => ?_) (fun cdv A outer s H E RX hr => ⟨_, (pds_cons (pd_ifS (PDW.pt (pdw_or (pdt_not (pdt_chain od_lt od_le pd_int (pd_blt cd_len T.b_len (by decide +kernel) (pda_cons (pd_var 0) pda_nil)) (pd_glob (v := .int 30) (d := .int 30) T.m_MOST_DIGITS ⟨_, rfl⟩ (fun _ => rfl)))) (pdw_or1 (pdt_not (pdt_tru (pd_blt (cd_all rfl) T.b_all (by decide +kernel) (pda_cons (pd_lc (own := [("sign", 1)]) (p := .n 1) rfl sc_integer_of.nd (pdi_str (pd_var 0)) (blkOk_by (N := ["text", "sign"]) (sc := defScope s_integer_of) (own := [("sign", 1)]) (by decide +kernel)) (fun _ _ _ _ _ => (pg_name (i := 1) sc_integer_of.nd rfl (by first | exact Or.inl rfl | exact Or.inr rfl))) (fun _ _ _ _ _ => pdts_nil) (fun _ _ _ _ _ => (pd_cmp od_inS (pd_var 1) (pd_glob (v := .str "0123456789") (d := .str "0123456789") T.m_DIGITS ⟨_, rfl⟩ (fun _ => rfl))))) pda_nil))))))) (pds_one (pd_ret pd_non)) pds_nil)
    (pds_one (pd_ret (pd_if (pdt_cmp (od_eq hr.units) (pd_bltTy (cd_strB hr.hd hm.seer) T.b_str (by decide +kernel) (pda_cons (pd_bltTy cd_intS T.b_int (by decide +kernel) (pda_cons (pd_var 0) pda_nil)) pda_nil)) (pd_var 0)) (pd_bltTy cd_intS T.b_int (by decide +kernel) (pda_cons (pd_var 0) pda_nil)) pd_non)))), fun ds S Q h => ?_⟩)
  · obtain ⟨_, rfl, _⟩ := h
    rfl
  · obtain ⟨i, rfl, hi, h⟩ := h
    have h0 := itS_pos hi.1
    have h1 := itS_le (by decide) hi.1 hi.2
    walk_at "w"
    refine ⟨by show _ ≤ 16777216; omega, ?_⟩
    walk_at "w"
    refine IFB.t (decide_eq_true (by omega)) ?_
    walk_at "w"
    refine IFB.np (fun z => absurd (show ((itS i).length : Int) ≤ 30 by omega) z) (fun _ => ?_)
    walk_at "w"
    refine lc_xsm (fun _ => D.bl true) (fun _ _ => trivial) ?_ ?_
    · rintro k x acc S2 hk w2
      obtain ⟨c, hc, rfl⟩ := map_at hk
      have hcd := itS_dig hi.1 (List.mem_of_getElem? hc)
      walk_at "w"
      refine IFB.t rfl ?_
      walk_at "w"
      exact lc_leafL hk w2 (by rw [chD_len]; show _ ≤ 16777216; omega) (by rw [dig_in c hcd.1 hcd.2]) (Ext.refl _)
    · rintro S2 v ex hv
      walk_at "w"
      refine ⟨(chD (itS i)).map fun _ => true, .inl ⟨_, rfl, by rw [sup_same, trues]⟩, ?_⟩
      rw [show ((chD (itS i)).map fun _ => true).all id = true by simp]
      walk_at "g"
      refine ⟨i, itS_int hi.1 (hi.2.mono (by decide)), by omega, ?_⟩
      walk_at "g"
      refine ⟨hi.2.mono (by decide), ?_⟩
      walk_at "w"
      refine IFB.t (decide_eq_true rfl) ?_
      walk_at "w"
      exact ⟨i, itS_int hi.1 (hi.2.mono (by decide)), by omega, S, ex.trans (Ext.new hv _), h⟩

theorem ok_whole {P : Program} {w : World} {K : PySem.W.Frag} {mg : Str → Option Value} {base : Heap} (T : Txt K mg) : FnOk P w K mg base (L2.CX P w) 1 T.a_whole T.fd_whole ["parts"] (toSp K sp_whole) := by
  refine fnE T.F_whole sc_whole (fun ds S Q E h => ?_) (fun cdv A outer s H E RX hr => ⟨_, (pds_one (pd_ret (pd_if (pdt_tru (pd_blt (cd_any rfl) T.b_any (by decide +kernel) (pda_cons (pd_lc (own := [("part", 1)]) (p := .n 1) rfl sc_whole.nd (pdi_it (pd_var 0)) (blkOk_by (N := ["parts", "part"]) (sc := defScope s_whole) (own := [("part", 1)]) (by decide +kernel)) (fun _ _ _ _ _ => (pg_name (i := 1) sc_whole.nd rfl (by first | exact Or.inl rfl | exact Or.inr rfl))) (fun _ _ _ _ _ => pdts_nil) (fun _ _ _ _ _ => (pd_cmp od_is (pd_var 1) pd_non))) pda_nil))) pd_non (pd_bltTy cd_tuple T.b_tuple (by decide +kernel) (pda_cons (pd_var 0) pda_nil))))), fun ds S Q h => ?_⟩)
  · obtain ⟨_, _, rfl, _⟩ := h
    rfl
  · obtain ⟨a, xs, rfl, ea, hn, hl, h⟩ := h
    walk_at "w"
    refine ⟨xs, .inl ⟨a, rfl, ea⟩, ?_⟩
    refine lc_xsm (fun x => .bl (isNone x)) (fun S' x => .inl ⟨a, rfl, x _ _ ea⟩) ?_ ?_
    · rintro k x acc S2 hk w2
      walk_at "w"
      refine IFB.t rfl ?_
      walk_at "w"
      exact lc_leafL hk w2 (by show _ ≤ 16777216; omega) rfl (Ext.refl _)
    · rintro S2 v ex hv
      walk_at "w"
      refine ⟨xs.map isNone, .inl ⟨_, rfl, by rw [sup_same, List.map_map]; rfl⟩, ?_⟩
      rw [isN_false hn]
      walk_at "g"
      exact ⟨xs, .inl ⟨a, rfl, (Ext.new hv _) _ _ (ex _ _ ea)⟩, S, ex.trans (Ext.new hv _), h⟩

theorem ok_integers_of {P : Program} {w : World} {K : PySem.W.Frag} {mg : Str → Option Value} {base : Heap} (T : Txt K mg) (hm : HM T P w base) : FnOk P w K mg base (L2.CX P w) 2 T.a_integers_of T.fd_integers_of ["text"] (toSp K sp_integers_of) := by
  refine fnE T.F_integers_of sc_integers_of (fun ds S Q E h => ?_) (fun cdv A outer s H E RX hr => ⟨_, (pds_one (pd_ret (pd_call (takes_of rfl rfl rfl rfl) (ok_whole T) (hr.mono (by decide)) T.m_whole T.F_whole.kp T.d_whole (pda_cons (pd_lc (own := [("word", 1)]) (p := .n 1) rfl sc_integers_of.nd (pdi_it (pd_sm PySem.F.slot_str_split PySem.F.type_str_split md_split (pd_var 0) (pda_cons pd_str pda_nil))) (blkOk_by (N := ["text", "word"]) (sc := defScope s_integers_of) (own := [("word", 1)]) (by decide +kernel)) (fun _ _ _ _ _ => (pg_name (i := 1) sc_integers_of.nd rfl (by first | exact Or.inl rfl | exact Or.inr rfl))) (fun _ _ _ _ _ => pdts_nil) (fun _ _ _ _ _ => (pd_call takes0 (ok_integer_of T hm) (hr.mono (by decide)) T.m_integer_of T.F_integer_of.kp T.d_integer_of (pda_cons (pd_var 1) pda_nil)))) pda_nil)))), fun ds S Q h => ?_⟩)
  · obtain ⟨_, rfl, _⟩ := h
    rfl
  · obtain ⟨l, rfl, hl, h⟩ := h
    have hlen := hl.2.1
    have hs : (lineS l).length ≤ 10000 := Nat.le_trans (ln_len ⟨by omega, fun i hi => (hl.2.2 i hi).2.mono (by decide)⟩ (by omega)) (by decide)
    walk_at "w"
    refine ⟨trivial, ⟨by decide +kernel, by have := hs; show _ ≤ 16777216; omega⟩, ?_⟩
    intro p1 hp1
    generalize hSS : DL.sup S p1 _ = S1
    obtain ⟨ep1, y1, -⟩ := sup_of hSS
    have y1 := y1 hp1
    clear hSS
    rw [hl.split, List.map_map] at ep1
    walk_at "w"
    refine ⟨_, .inl ⟨p1, rfl, ep1⟩, ?_⟩
    refine lc_xsW (fun i acc S' => acc = (l.take i).map D.int ∧ Ext S1 S') ⟨rfl, Ext.refl _⟩ (fun i acc S' z => .inl ⟨p1, rfl, z.2 _ _ ep1⟩) ?_ ?_
    · rintro i x acc S' hi ⟨rfl, x2⟩
      obtain ⟨a, ha, rfl⟩ := map_at hi
      have hm := List.mem_of_getElem? ha
      have hil := (List.getElem?_eq_some_iff.mp ha).1
      walk_at "w"
      refine IFB.t rfl ?_
      walk_at "w"
      refine ⟨a, rfl, hl.2.2 a hm, ?_⟩
      exact ⟨by rw [List.length_map, List.length_take]; show _ < 16777216; omega, take_s' ha, x2⟩
    · rintro S' v acc ⟨rfl, x2⟩ hv
      rw [List.length_map, List.take_length]
      walk_at "w"
      refine ⟨v, _, rfl, sup_same, mem_map_nn fun _ => rfl, by rw [List.length_map]; omega, ?_⟩
      exact ⟨S, y1.trans (x2.trans (Ext.new hv _)), h⟩

theorem ok_number_of {P : Program} {w : World} {K : PySem.W.Frag} {mg : Str → Option Value} {base : Heap} (T : Txt K mg) (hm : HM T P w base) : FnOk P w K mg base (L2.CX P w) 4 T.a_number_of T.fd_number_of ["word"] (toSp K sp_number_of) := by
  refine fnE T.F_number_of sc_number_of (fun ds S Q E h => ?_) (fun cdv A outer s H E RX hr => ⟨_, (pds_cons (pd_asg (pd_sm PySem.F.slot_str_partition PySem.F.type_str_partition md_partition (pd_var 0) (pda_cons pd_str pda_nil)) (pdg_tup rfl (pdgs_cons (pdg_name 1 sc_number_of.nd) (pdgs_cons (pdg_name 2 sc_number_of.nd) (pdgs_cons (pdg_name 3 sc_number_of.nd) pdgs_nil)))))
    (pds_cons (pd_set 4 sc_number_of.nd (pd_call (takes_of rfl rfl rfl rfl) (ok_whole T) (hr.mono (by decide)) T.m_whole T.F_whole.kp T.d_whole (pda_cons (pd_lst (pda_cons (pd_call (takes_of rfl rfl rfl rfl) (ok_integer_of T hm) (hr.mono (by decide)) T.m_integer_of T.F_integer_of.kp T.d_integer_of (pda_cons (pd_var 1) pda_nil)) (pda_cons (pd_if (pdt_cmp (od_eq hr.units) (pd_var 2) pd_str) (pd_call (takes_of rfl rfl rfl rfl) (ok_integer_of T hm) (hr.mono (by decide)) T.m_integer_of T.F_integer_of.kp T.d_integer_of (pda_cons (pd_var 3) pda_nil)) pd_int) pda_nil))) pda_nil)))
    (pds_one (pd_ret (pd_if (PDW.pt (pdw_and (pdt_cmp od_isnot (pd_var 4) pd_non) (pdw_and (pdt_tru (pd_call (takes_of rfl rfl rfl rfl) (ok_is_number T) (hr.mono (by decide)) T.m_is_number T.F_is_number.kp T.d_is_number (pda_cons (pd_var 4) pda_nil))) (pdw_and1 (pdt_cmp (od_eq hr.units) (pd_call (takes_of rfl rfl rfl rfl) (ok_show_number T hm) (hr.mono (by decide)) T.m_show_number T.F_show_number.kp T.d_show_number (pda_cons (pd_var 4) pda_nil)) (pd_var 0)))))) (pd_var 4) pd_non))))), fun ds S Q h => ?_⟩)
  · obtain ⟨_, rfl, _⟩ := h
    rfl
  · obtain ⟨_, rfl, ⟨q, rfl, q0, t1, t2⟩, h⟩ := h
    have hq : Nm (q.num, (q.den : Int)) := ⟨q, rfl, q0, t1, t2⟩
    have hs := nm_len (q := (q.num, (q.den : Int))) ⟨t1.mono (by decide), t2.mono (by decide)⟩
    have t1 : TB 30 q.num := t1
    have t2 : TB 30 (q.den : Int) := t2
    have ht : 0 ≤ q.num := hq.top
    have hb : 0 < (q.den : Int) := hq.bot
    have hs : (numS q.num (q.den : Int)).length ≤ 143 := hs
    have hr : RB 4000 q := ⟨Nat.lt_trans t1 (by decide +kernel), by have := Nat.lt_trans t2 (show 10 ^ 30 < 2 ^ 4000 by decide +kernel); rw [Int.natAbs_natCast] at this; exact this⟩
    walk_at "w"
    refine ⟨trivial, ⟨by decide +kernel, by show _ ≤ 16777216; omega⟩, ?_⟩
    by_cases c : (q.den : Int) = 1
    · have e : numS q.num (q.den : Int) = itS q.num := if_pos c
      have e2 : D.tup [.int q.num, .int 1] = fr q := by unfold fr; rw [c]
      rw [show (numS (q.num, (q.den : Int)).fst (q.num, (q.den : Int)).snd) = itS q.num from e, part_num1 ht]
      walk_at "w"
      refine ⟨rfl, ?_⟩
      walk_at "w"
      refine ⟨q.num, rfl, ⟨ht, t1⟩, ?_⟩
      walk_at "w"
      refine IFB.f (decide_eq_false (show ¬ Str.empty = ("/" : Str) by decide +kernel)) ?_
      walk_at "w"
      intro p hp
      walk_at "w"
      refine ⟨p, _, rfl, sup_same, List.forall_mem_cons.mpr ⟨rfl, List.forall_mem_cons.mpr ⟨rfl, fun _ z => absurd z List.not_mem_nil⟩⟩, by show 2 ≤ 3000; decide, ?_⟩
      rw [e2]
      walk_at "g"
      refine ⟨q, rfl, hr, ?_⟩
      walk_at "g"
      refine ⟨(q.num, (q.den : Int)), rfl, t1.mono (by decide), t2.mono (by decide), ?_⟩
      walk_at "w"
      refine IFB.t (decide_eq_true e) ?_
      walk_at "w"
      exact ⟨S, Ext.new hp _, h⟩
    · have e : numS q.num (q.den : Int) = itS q.num ++ "/" ++ itS (q.den : Int) := if_neg c
      rw [show (numS (q.num, (q.den : Int)).fst (q.num, (q.den : Int)).snd) = itS q.num ++ "/" ++ itS (q.den : Int) from e, part_num2 ht]
      walk_at "w"
      refine ⟨rfl, ?_⟩
      walk_at "w"
      refine ⟨q.num, rfl, ⟨ht, t1⟩, ?_⟩
      walk_at "w"
      refine IFB.t (decide_eq_true rfl) ?_
      walk_at "w"
      refine ⟨(q.den : Int), rfl, ⟨by omega, t2⟩, ?_⟩
      walk_at "w"
      intro p hp
      walk_at "w"
      refine ⟨p, _, rfl, sup_same, List.forall_mem_cons.mpr ⟨rfl, List.forall_mem_cons.mpr ⟨rfl, fun _ z => absurd z List.not_mem_nil⟩⟩, by show 2 ≤ 3000; decide, ?_⟩
      walk_at "g"
      refine ⟨q, rfl, hr, ?_⟩
      walk_at "g"
      refine ⟨(q.num, (q.den : Int)), rfl, t1.mono (by decide), t2.mono (by decide), ?_⟩
      walk_at "w"
      refine IFB.t (decide_eq_true e) ?_
      walk_at "w"
      exact ⟨S, Ext.new hp _, h⟩

theorem ok_shares_of {P : Program} {w : World} {K : PySem.W.Frag} {mg : Str → Option Value} {base : Heap} (T : Txt K mg) (hm : HM T P w base) : FnOk P w K mg base (L2.CX P w) 6 T.a_shares_of T.fd_shares_of ["line"] (toSp K sp_shares_of) := by
  refine fnE T.F_shares_of sc_shares_of (fun ds S Q E h => ?_) (fun cdv A outer s H E RX hr => ⟨_, (pds_cons (pd_set 1 sc_shares_of.nd (pd_call (takes_of rfl rfl rfl rfl) (ok_whole T) (hr.mono (by decide)) T.m_whole T.F_whole.kp T.d_whole (pda_cons (pd_lc (own := [("word", 2)]) (p := .n 2) rfl sc_shares_of.nd (pdi_it (pd_sm PySem.F.slot_str_split PySem.F.type_str_split md_split (pd_var 0) (pda_cons pd_str pda_nil))) (blkOk_by (N := ["line", "found", "word"]) (sc := defScope s_shares_of) (own := [("word", 2)]) (by decide +kernel)) (fun _ _ _ _ _ => (pg_name (i := 2) sc_shares_of.nd rfl (by first | exact Or.inl rfl | exact Or.inr rfl))) (fun _ _ _ _ _ => pdts_nil) (fun _ _ _ _ _ => (pd_call takes0 (ok_number_of T hm) (hr.mono (by decide)) T.m_number_of T.F_number_of.kp T.d_number_of (pda_cons (pd_var 2) pda_nil)))) pda_nil)))
    (pds_one (pd_ret (pd_if (PDW.pt (pdw_and (pdt_cmp od_isnot (pd_var 1) pd_non) (pdw_and1 (pdt_tru (pd_call (takes_of rfl rfl rfl rfl) (ok_is_shares T) (hr.mono (by decide)) T.m_is_shares T.F_is_shares.kp T.d_is_shares (pda_cons (pd_var 1) pda_nil)))))) (pd_var 1) pd_non)))), fun ds S Q h => ?_⟩)
  · obtain ⟨_, rfl, _⟩ := h
    rfl
  · obtain ⟨l, rfl, ⟨hl, qs, N, hlq, hS, hN⟩, h⟩ := h
    have hlen := hl.2.1
    have hs : (allS l).length ≤ 20000 := Nat.le_trans (join_len (mem_map_le fun q hq => nm_len ⟨(hl.2.2 q hq).tb.1.mono (by decide), (hl.2.2 q hq).tb.2.mono (by decide)⟩) (by rw [List.length_map]; exact hlen) len1) (by decide)
    have hsh : D.tup (l.map nD) = shD qs := by rw [hlq, List.map_map]; rfl
    have hql : qs.length = l.length := by rw [hlq, List.length_map]
    walk_at "w"
    refine ⟨trivial, ⟨by decide +kernel, by have := hs; show _ ≤ 16777216; omega⟩, ?_⟩
    intro p1 hp1
    generalize hSS : DL.sup S p1 _ = S1
    obtain ⟨ep1, y1, -⟩ := sup_of hSS
    have y1 := y1 hp1
    clear hSS
    rw [hl.split, List.map_map] at ep1
    walk_at "w"
    refine ⟨_, .inl ⟨p1, rfl, ep1⟩, ?_⟩
    refine lc_xsW (fun i acc S' => acc = (l.take i).map nD ∧ Ext S1 S') ⟨rfl, Ext.refl _⟩ (fun i acc S' z => .inl ⟨p1, rfl, z.2 _ _ ep1⟩) ?_ ?_
    · rintro i x acc S' hi ⟨rfl, x2⟩
      obtain ⟨a, ha, rfl⟩ := map_at hi
      have hm := List.mem_of_getElem? ha
      have hil := (List.getElem?_eq_some_iff.mp ha).1
      walk_at "w"
      refine IFB.t rfl ?_
      walk_at "w"
      refine ⟨a, rfl, hl.2.2 a hm, ?_⟩
      exact ⟨by rw [List.length_map, List.length_take]; show _ < 16777216; omega, take_s' ha, x2⟩
    · rintro S' v acc ⟨rfl, x2⟩ hv
      rw [List.length_map, List.take_length]
      walk_at "w"
      refine ⟨v, _, rfl, sup_same, mem_map_nn fun _ => rfl, by rw [List.length_map]; omega, ?_⟩
      rw [hsh]
      walk_at "g"
      refine ⟨qs, N, rfl, hS, hN, by omega, ?_⟩
      walk_at "g"
      rw [← hsh]
      exact ⟨S, y1.trans (x2.trans (Ext.new hv _)), h⟩

theorem ok_signs_of {P : Program} {w : World} {K : PySem.W.Frag} {mg : Str → Option Value} {base : Heap} (T : Txt K mg) : FnOk P w K mg base (L2.CX P w) 1 T.a_signs_of T.fd_signs_of ["text"] (toSp K sp_signs_of) := by
  refine fnE T.F_signs_of sc_signs_of (fun ds S Q E h => ?_) (fun cdv A outer s H E RX hr => ⟨_, (pds_one (pd_ret (pd_if (pdt_tru (pd_blt (cd_all rfl) T.b_all (by decide +kernel) (pda_cons (pd_lc (own := [("sign", 1)]) (p := .n 1) rfl sc_signs_of.nd (pdi_str (pd_var 0)) (blkOk_by (N := ["text", "sign"]) (sc := defScope s_signs_of) (own := [("sign", 1)]) (by decide +kernel)) (fun _ _ _ _ _ => (pg_name (i := 1) sc_signs_of.nd rfl (by first | exact Or.inl rfl | exact Or.inr rfl))) (fun _ _ _ _ _ => pdts_nil) (fun _ _ _ _ _ => (pd_cmp od_inS (pd_var 1) pd_str))) pda_nil))) (pd_bltTy cd_tuple T.b_tuple (by decide +kernel) (pda_cons (pd_lc (own := [("sign", 1)]) (p := .n 1) rfl sc_signs_of.nd (pdi_str (pd_var 0)) (blkOk_by (N := ["text", "sign"]) (sc := defScope s_signs_of) (own := [("sign", 1)]) (by decide +kernel)) (fun _ _ _ _ _ => (pg_name (i := 1) sc_signs_of.nd rfl (by first | exact Or.inl rfl | exact Or.inr rfl))) (fun _ _ _ _ _ => pdts_nil) (fun _ _ _ _ _ => (pd_bltTy cd_intS T.b_int (by decide +kernel) (pda_cons (pd_var 1) pda_nil)))) pda_nil)) pd_non))), fun ds S Q h => ?_⟩)
  · obtain ⟨_, rfl, _⟩ := h
    rfl
  · obtain ⟨l, rfl, hl, h⟩ := h
    have hlen := hl.2
    have e := ch_signs hl.1
    walk_at "w"
    rw [e]
    refine lc_xsm (fun _ => D.bl true) (fun _ _ => trivial) ?_ ?_
    · rintro k x acc S2 hk w2
      obtain ⟨c, hc, rfl⟩ := map_at hk
      walk_at "w"
      refine IFB.t rfl ?_
      walk_at "w"
      exact lc_leafL hk w2 (by rw [List.length_map]; show _ ≤ 16777216; omega) (by rw [sign_in c (hl.1 c (List.mem_of_getElem? hc))]) (Ext.refl _)
    · rintro S2 v ex hv
      walk_at "w"
      refine ⟨(l.map fun i => D.str ⟨#[48 + i.toNat]⟩).map fun _ => true, .inl ⟨_, rfl, by rw [sup_same, trues]⟩, ?_⟩
      rw [show ((l.map fun i => D.str ⟨#[48 + i.toNat]⟩).map fun _ => true).all id = true by simp]
      walk_at "g"
      generalize hSS : DL.sup S2 v _ = S3
      obtain ⟨ev, y3, -⟩ := sup_of hSS
      have y3 := y3 hv
      clear hSS
      rw [e]
      refine lc_xsW (fun i acc S' => acc = (l.take i).map D.int ∧ Ext S3 S') ⟨rfl, Ext.refl _⟩ (fun _ _ _ _ => trivial) ?_ ?_
      · rintro i x acc S' hi ⟨rfl, x2⟩
        obtain ⟨a, ha, rfl⟩ := map_at hi
        have hil := (List.getElem?_eq_some_iff.mp ha).1
        walk_at "w"
        refine IFB.t rfl ?_
        walk_at "w"
        refine ⟨a, sign_int a (hl.1 a (List.mem_of_getElem? ha)), by show 1 ≤ 640; decide, ?_⟩
        exact ⟨by rw [List.length_map, List.length_take]; show _ < 16777216; omega, take_s' ha, x2⟩
      · rintro S' u acc ⟨rfl, x2⟩ hu
        rw [List.length_map, List.take_length]
        walk_at "w"
        exact ⟨_, .inl ⟨u, rfl, sup_same⟩, S, ((ex.trans y3).trans x2).trans (Ext.new hu _), h⟩

theorem ok_figures_of {P : Program} {w : World} {K : PySem.W.Frag} {mg : Str → Option Value} {base : Heap} (T : Txt K mg) : FnOk P w K mg base (L2.CX P w) 2 T.a_figures_of T.fd_figures_of ["line"] (toSp K sp_figures_of) := by
  refine fnE T.F_figures_of sc_figures_of (fun ds S Q E h => ?_) (fun cdv A outer s H E RX hr => ⟨_, (pds_cons (pd_asg (pd_sm PySem.F.slot_str_partition PySem.F.type_str_partition md_partition (pd_var 0) (pda_cons pd_str pda_nil)) (pdg_tup rfl (pdgs_cons (pdg_name 1 sc_figures_of.nd) (pdgs_cons (pdg_name 2 sc_figures_of.nd) (pdgs_cons (pdg_name 3 sc_figures_of.nd) pdgs_nil)))))
    (pds_cons (pd_ifS (PDW.pt (pdw_or (pdt_cmp (od_eq hr.units) (pd_var 2) pd_str) (pdw_or (pdt_not (pdt_tru (pd_sm PySem.F.slot_str_endswith PySem.F.type_str_endswith md_endswith (pd_var 3) (pda_cons pd_str pda_nil)))) (pdw_or1 (pdt_cmp (od_eq hr.units) (pd_var 3) pd_str))))) (pds_one (pd_ret pd_non)) pds_nil)
    (pds_one (pd_ret (pd_call (takes_of rfl rfl rfl rfl) (ok_whole T) (hr.mono (by decide)) T.m_whole T.F_whole.kp T.d_whole (pda_cons (pd_lst (pda_cons (pd_call (takes_of rfl rfl rfl rfl) (ok_signs_of T) (hr.mono (by decide)) T.m_signs_of T.F_signs_of.kp T.d_signs_of (pda_cons (pd_var 1) pda_nil)) (pda_cons (pd_call (takes_of rfl rfl rfl rfl) (ok_signs_of T) (hr.mono (by decide)) T.m_signs_of T.F_signs_of.kp T.d_signs_of (pda_cons (pd_sliceS (pd_var 3) pdo_none (pdo_some (pd_neg pd_int))) pda_nil)) pda_nil))) pda_nil)))))), fun ds S Q h => ?_⟩)
  · obtain ⟨_, _, rfl, _⟩ := h
    rfl
  · obtain ⟨a, b, rfl, ha, hb, hne, h⟩ := h
    have h1 := sign_len ha.1
    have h2 := sign_len hb.1
    have h3 := ha.2
    have h4 := hb.2
    have l6 := len6
    have l7 := len7
    have hs : (figS a b).length ≤ 2000 := by unfold figS; rw [app_len, app_len, app_len]; omega
    have hs2 : (signS b ++ (")" : Str)).length ≤ 2000 := by rw [app_len]; omega
    have hbl : 0 < b.length := List.length_pos_iff.mpr hne
    walk_at "w"
    refine ⟨trivial, ⟨by decide +kernel, by show _ ≤ 16777216; omega⟩, ?_⟩
    rw [part_fig ha.1]
    walk_at "w"
    refine ⟨rfl, ?_⟩
    walk_at "w"
    refine IFB.f (decide_eq_false (show ¬ ("(" : Str) = "" by decide +kernel)) ?_
    walk_at "w"
    refine ⟨trivial, ?_⟩
    walk_at "w"
    rw [ends_app (x := signS b) (y := ")") (by rw [t_cl]; exact List.cons_ne_nil _ _)]
    walk_at "g"
    refine IFB.f (decide_eq_false fun z => ?_) ?_
    · have := congrArg Str.length z
      rw [app_len] at this
      omega
    walk_at "w"
    refine ⟨a, rfl, ha, ?_⟩
    walk_at "w"
    refine ⟨by show (signS b ++ (")" : Str)).length ≤ 16777216; omega, ?_⟩
    rw [show cutS (signS a, ("(" : Str), signS b ++ (")" : Str)).snd.snd none (some (-1)) = signS b from cut_last _]
    walk_at "w"
    refine ⟨b, rfl, hb, ?_⟩
    walk_at "w"
    intro p hp
    walk_at "w"
    refine ⟨p, _, rfl, sup_same, List.forall_mem_cons.mpr ⟨rfl, List.forall_mem_cons.mpr ⟨rfl, fun _ z => absurd z List.not_mem_nil⟩⟩, by show 2 ≤ 3000; decide, ?_⟩
    exact ⟨S, Ext.new hp _, h⟩

theorem ok_rows_of {P : Program} {w : World} {K : PySem.W.Frag} {mg : Str → Option Value} {base : Heap} (T : Txt K mg) (hm : HM T P w base) : FnOk P w K mg base (L2.CX P w) 3 T.a_rows_of T.fd_rows_of ["text"] (toSp K sp_rows_of) := by
  refine fnE T.F_rows_of sc_rows_of (fun ds S Q E h => ?_) (fun cdv A outer s H E RX hr => ⟨_, (pds_one (pd_ret (pd_call (takes_of rfl rfl rfl rfl) (ok_whole T) (hr.mono (by decide)) T.m_whole T.F_whole.kp T.d_whole (pda_cons (pd_lc (own := [("part", 1)]) (p := .n 1) rfl sc_rows_of.nd (pdi_it (pd_sm PySem.F.slot_str_split PySem.F.type_str_split md_split (pd_var 0) (pda_cons pd_str pda_nil))) (blkOk_by (N := ["text", "part"]) (sc := defScope s_rows_of) (own := [("part", 1)]) (by decide +kernel)) (fun _ _ _ _ _ => (pg_name (i := 1) sc_rows_of.nd rfl (by first | exact Or.inl rfl | exact Or.inr rfl))) (fun _ _ _ _ _ => pdts_nil) (fun _ _ _ _ _ => (pd_call takes0 (ok_integers_of T hm) (hr.mono (by decide)) T.m_integers_of T.F_integers_of.kp T.d_integers_of (pda_cons (pd_var 1) pda_nil)))) pda_nil)))), fun ds S Q h => ?_⟩)
  · obtain ⟨_, rfl, _⟩ := h
    rfl
  · obtain ⟨l, rfl, hl, h⟩ := h
    have hlen := hl.2.1
    have hs : (rowS l).length ≤ 1000000 := Nat.le_trans (rw_len ⟨by omega, fun r hr => ⟨⟨by have := (hl.2.2 r hr).2.1; omega, fun i hi => ((hl.2.2 r hr).2.2 i hi).2.mono (by decide)⟩, by have := (hl.2.2 r hr).2.1; omega⟩⟩) (by decide)
    walk_at "w"
    refine ⟨trivial, ⟨by decide +kernel, by have := hs; show _ ≤ 16777216; omega⟩, ?_⟩
    intro p1 hp1
    generalize hSS : DL.sup S p1 _ = S1
    obtain ⟨ep1, y1, -⟩ := sup_of hSS
    have y1 := y1 hp1
    clear hSS
    rw [hl.split, List.map_map] at ep1
    walk_at "w"
    refine ⟨_, .inl ⟨p1, rfl, ep1⟩, ?_⟩
    refine lc_xsW (fun i acc S' => acc = (l.take i).map tI ∧ Ext S1 S') ⟨rfl, Ext.refl _⟩ (fun i acc S' z => .inl ⟨p1, rfl, z.2 _ _ ep1⟩) ?_ ?_
    · rintro i x acc S' hi ⟨rfl, x2⟩
      obtain ⟨a, ha, rfl⟩ := map_at hi
      have hm := List.mem_of_getElem? ha
      have hil := (List.getElem?_eq_some_iff.mp ha).1
      walk_at "w"
      refine IFB.t rfl ?_
      walk_at "w"
      refine ⟨a, rfl, hl.2.2 a hm, ?_⟩
      exact ⟨by rw [List.length_map, List.length_take]; show _ < 16777216; omega, take_s' ha, x2⟩
    · rintro S' v acc ⟨rfl, x2⟩ hv
      rw [List.length_map, List.take_length]
      walk_at "w"
      refine ⟨v, _, rfl, sup_same, mem_map_nn fun _ => rfl, by rw [List.length_map]; omega, ?_⟩
      exact ⟨S, y1.trans (x2.trans (Ext.new hv _)), h⟩
end K41
set_option Elab.async false
set_option linter.all false
set_option maxRecDepth 100000
set_option maxHeartbeats 4000000
namespace K41
open PySem PySem.Spec PyProof.Rows L2 DL
local macro_rules | `(tactic| walk_at "w") => `(tactic| conv => whnf)
local macro_rules | `(tactic| walk_at "g") => `(tactic| ((conv => whnf); repeat' (first | (refine IFB.t ?_ ?_; rfl; conv => whnf) | (refine IFB.f ?_ ?_; rfl; conv => whnf))))
set_option exponentiation.threshold 20000

theorem lv_len {a b : List (List Int)} (h : LvOk a b) : (lvS a b).length ≤ 1600000 := by
  have rl : ∀ rs : List (List Int), Rws rs → (rowS rs).length ≤ 730200 := fun rs hl => rw_len ⟨by have := hl.2.1; omega, fun r hr => ⟨⟨by have := (hl.2.2 r hr).2.1; omega, fun i hi => ((hl.2.2 r hr).2.2 i hi).2.mono (by decide)⟩, by have := (hl.2.2 r hr).2.1; omega⟩⟩
  have h2 := rl b h.2.1
  have l3 := len8
  have l4 := len12
  unfold lvS
  rw [app_len, app_len]
  rcases h.1 with e | e
  · rw [if_pos e]; omega
  · have h1 := rl a e
    split <;> omega
theorem lv_free {a b : List (List Int)} (h : LvOk a b) : 124 ∉ tl (if a = [] then ("-" : Str) else rowS a) := by
  rcases h.1 with e | e
  · rw [if_pos e, t_mi]; decide
  · split
    · rw [t_mi]; decide
    · exact row_free e.2.2 (by omega) (by decide) (by decide)
theorem row_ne {a : List (List Int)} (h : Rws a) : rowS a ≠ ("-" : Str) := fun e => by
  have h2 : 45 ∉ tl (rowS a) := row_free h.2.2 (by omega) (by decide) (by decide)
  rw [e, t_mi] at h2
  exact h2 (List.mem_singleton.mpr rfl)
theorem sign_ne {l : List Int} (h : Zs l) : signS l ≠ ("-" : Str) := fun e => by
  have h2 : 45 ∉ tl (signS l) := sign_free h.1 (by omega)
  rw [e, t_mi] at h2
  exact h2 (List.mem_singleton.mpr rfl)
theorem sign_em {l : List Int} (h : Zs l) (hn : l ≠ []) : signS l ≠ ("" : Str) := fun e => by
  have h1 := sign_len h.1
  rw [e] at h1
  have h2 : ("" : Str).length = 0 := by decide +kernel
  exact hn (List.length_eq_zero_iff.mp (by omega))
theorem join3 (y a b c : Str) : a ++ y ++ b ++ y ++ c = Txt.join y [a, b, c] := ext_tl (by
  rw [tl_join]
  show tl (a ++ y ++ b ++ y ++ c) = tl a ++ (tl y ++ (tl b ++ (tl y ++ tl c)))
  simp only [tl_app, List.append_assoc])
theorem join2 (y a b : Str) : a ++ y ++ b = Txt.join y [a, b] := ext_tl (by
  rw [tl_join]
  show tl (a ++ y ++ b) = tl a ++ (tl y ++ tl b)
  simp only [tl_app, List.append_assoc])
theorem ce_split {c : Int × (Int × Int) × Int} (h : Ce c) : Txt.split (cellS c) " " = [itS c.1, numS c.2.1.1 c.2.1.2, itS c.2.2] := by
  unfold cellS
  rw [join3]
  exact split_sp (List.cons_ne_nil _ _) (List.forall_mem_cons.mpr ⟨h.1.free (by omega), List.forall_mem_cons.mpr ⟨h.2.1.free (by omega), List.forall_mem_cons.mpr ⟨h.2.2.1.free (by omega), fun _ z => absurd z List.not_mem_nil⟩⟩⟩)
theorem ce_lenR {c : Int × (Int × Int) × Int} (h : Ce c) : (cellS c).length ≤ 300 := ce_len ⟨h.1.2.mono (by decide), ⟨h.2.1.tb.1.mono (by decide), h.2.1.tb.2.mono (by decide)⟩, h.2.2.1.2.mono (by decide)⟩
theorem ce_free {c : Int × (Int × Int) × Int} (h : Ce c) {s : Nat} (hs : s < 47 ∨ 57 < s) (h32 : s ≠ 32) : s ∉ tl (cellS c) := by
  unfold cellS
  simp only [tl_app, List.mem_append, t_sp, List.mem_singleton]
  rintro ((((z | z) | z) | z) | z)
  · exact h.1.free (by omega) z
  · exact h32 z
  · exact h.2.1.free hs z
  · exact h32 z
  · exact h.2.2.1.free (by omega) z
theorem Ces.split {cs : List (Int × (Int × Int) × Int)} (h : Ces cs) : Txt.split (tabS cs) ", " = cs.map cellS := split_co (fun e => h.1 (List.map_eq_nil_iff.mp e)) fun s hs => by
  obtain ⟨c, hc, rfl⟩ := List.mem_map.mp hs
  exact ce_free (h.2.2 c hc) (by omega) (by decide)
theorem pl_free {p : Bool × Int} (h : Nn p.2) {s : Nat} (hs : s < 48 ∨ 57 < s) (h1 : s ≠ 115) (h2 : s ≠ 105) : s ∉ tl (plS p) := by
  unfold plS
  rw [tl_app, List.mem_append]
  rintro (z | z)
  · revert z
    split
    · rw [t_s]; exact fun z => h1 (List.mem_singleton.mp z)
    · rw [t_i]; exact fun z => h2 (List.mem_singleton.mp z)
  · exact h.free hs z
theorem st_split {q : (Bool × Int) × (Bool × Int)} (h1 : Nn q.1.2) (h2 : Nn q.2.2) : Txt.split (stS q) " " = [plS q.1, plS q.2] := by
  unfold stS
  rw [join2]
  exact split_sp (List.cons_ne_nil _ _) (List.forall_mem_cons.mpr ⟨pl_free h1 (by omega) (by decide) (by decide), List.forall_mem_cons.mpr ⟨pl_free h2 (by omega) (by decide) (by decide), fun _ z => absurd z List.not_mem_nil⟩⟩)
theorem head_cut {n : Int} {b : Bool × Int} : headS n b = ("machine " : Str) ++ (itS n ++ " " ++ plS b) := ext_tl (by unfold headS; simp only [tl_app, List.append_assoc])
theorem head_split {n : Int} {b : Bool × Int} (h1 : Nn n) (h2 : Nn b.2) : Txt.split (itS n ++ " " ++ plS b) " " = [itS n, plS b] := by
  rw [join2]
  exact split_sp (List.cons_ne_nil _ _) (List.forall_mem_cons.mpr ⟨h1.free (by omega), List.forall_mem_cons.mpr ⟨pl_free h2 (by omega) (by decide) (by decide), fun _ z => absurd z List.not_mem_nil⟩⟩)
theorem nl_st {q : (Bool × Int) × (Bool × Int)} (h1 : Nn q.1.2) (h2 : Nn q.2.2) : 10 ∉ tl (stS q) := by
  unfold stS
  simp only [tl_app, List.mem_append, t_sp, List.mem_singleton]
  rintro ((z | z) | z)
  · exact pl_free h1 (by omega) (by decide) (by decide) z
  · exact absurd z (by decide)
  · exact pl_free h2 (by omega) (by decide) (by decide) z
theorem nl_head {n : Int} {b : Bool × Int} (h1 : Nn n) (h2 : Nn b.2) : 10 ∉ tl (headS n b) := by
  unfold headS
  simp only [tl_app, List.mem_append, t_sp, t_ma, List.mem_singleton]
  rintro (((z | z) | z) | z)
  · revert z; decide
  · exact h1.free (by omega) z
  · exact absurd z (by decide)
  · exact pl_free h2 (by omega) (by decide) (by decide) z
theorem sg_s : (⟨#[115]⟩ : Str) = "s" := by decide +kernel
theorem sg_i : (⟨#[105]⟩ : Str) = "i" := by decide +kernel
theorem pl_at {w x : Str} {c : Nat} (hw : tl w = [c]) : atI (w ++ x).cps.toList 0 = some c := by
  rw [show (w ++ x).cps.toList = [c] ++ tl x from (tl_app w x).trans (by rw [hw])]
  exact atI_nat (j := 0) rfl
theorem Mv.nn {n : Int} {b : Bool × Int} {rs : List ((Bool × Int) × (Bool × Int))} (h : Mv n b rs) (hn : Nn n) : Nn b.2 ∧ ∀ q ∈ rs, Nn q.1.2 ∧ Nn q.2.2 := by
  obtain ⟨h1, h2, h3, h4⟩ := h
  have key : ∀ p : Bool × Int, PV n (rs.length : Int) p → Nn p.2 := fun p ⟨p0, p1⟩ => ⟨p0, by
    have hn2 := hn.2
    have h10 : (10 : Nat) ^ 30 > 1000 := by decide
    unfold TB at hn2 ⊢
    split at p1 <;> omega⟩
  exact ⟨key b h2, fun q hq => ⟨key _ (h4 q hq).1, key _ (h4 q hq).2⟩⟩
theorem mach_split {n : Int} {b : Bool × Int} {rs : List ((Bool × Int) × (Bool × Int))} (h : Mv n b rs) (hn : Nn n) : Txt.split (machS n b rs) "\n" = headS n b :: rs.map stS := split_nl (List.cons_ne_nil _ _) (List.forall_mem_cons.mpr ⟨nl_head hn (h.nn hn).1, fun s hs => by
  obtain ⟨q, hq, rfl⟩ := List.mem_map.mp hs
  exact nl_st ((h.nn hn).2 q hq).1 ((h.nn hn).2 q hq).2⟩)
theorem mach_len {n : Int} {b : Bool × Int} {rs : List ((Bool × Int) × (Bool × Int))} (h : Mv n b rs) (hn : Nn n) : (machS n b rs).length ≤ 400000 := by
  have hb := (h.nn hn).1
  have l1 := itS_len (by decide) (hn.2.mono (show 30 ≤ 70 by decide))
  have l2 := pl_len (p := b) (hb.2.mono (show 30 ≤ 70 by decide))
  have l3 := len9
  have l4 := len1
  refine Nat.le_trans (join_len (L := 300) (n := 1001) (s := 2) (List.forall_mem_cons.mpr ⟨by rw [app_len, app_len, app_len]; omega, fun y hy => Nat.le_trans (mem_map_le (fun q hq => st_len ⟨(((h.nn hn).2 q hq).1).2.mono (show 30 ≤ 70 by decide), (((h.nn hn).2 q hq).2).2.mono (show 30 ≤ 70 by decide)⟩) y hy) (by decide)⟩) (by rw [List.length_cons, List.length_map]; have := h.2.2.1; omega) len4) (by decide)
theorem dput1 : dput [] (.inr "s") (.str "to") = [(.inr "s", .str "to")] := rfl
theorem dput2 : dput [(.inr ("s" : Str), D.str "to")] (.inr "i") (.str "is") = [(.inr "s", .str "to"), (.inr "i", .str "is")] := by
  unfold dput
  rw [if_neg (by decide +kernel)]
  rfl
def wordsD : List (Key × D) := [(.inr "s", .str "to"), (.inr "i", .str "is")]
theorem dval_s : dval wordsD (.inr ⟨#[115]⟩) = some (.str "to") := by
  rw [sg_s]
  unfold dval wordsD
  rw [List.find?_cons_of_pos (by decide +kernel)]
  rfl
theorem dval_i : dval wordsD (.inr ⟨#[105]⟩) = some (.str "is") := by
  rw [sg_i]
  unfold dval wordsD
  rw [List.find?_cons_of_neg (by decide +kernel), List.find?_cons_of_pos (by decide +kernel)]
  rfl
theorem ok_leaves_of {P : Program} {w : World} {K : PySem.W.Frag} {mg : Str → Option Value} {base : Heap} (T : Txt K mg) (hm : HM T P w base) : FnOk P w K mg base (L2.CX P w) 4 T.a_leaves_of T.fd_leaves_of ["line"] (toSp K sp_leaves_of) := by
  refine fnE T.F_leaves_of sc_leaves_of (fun ds S Q E h => ?_) (fun cdv A outer s H E RX hr => ⟨_, (pds_cons (pd_asg (pd_sm PySem.F.slot_str_partition PySem.F.type_str_partition md_partition (pd_var 0) (pda_cons pd_str pda_nil)) (pdg_tup rfl (pdgs_cons (pdg_name 1 sc_leaves_of.nd) (pdgs_cons (pdg_name 2 sc_leaves_of.nd) (pdgs_cons (pdg_name 3 sc_leaves_of.nd) pdgs_nil)))))
    (pds_cons (pd_set 4 sc_leaves_of.nd (pd_call (takes_of rfl rfl rfl rfl) (ok_whole T) (hr.mono (by decide)) T.m_whole T.F_whole.kp T.d_whole (pda_cons (pd_lst (pda_cons (pd_if (pdt_cmp (od_eq hr.units) (pd_var 1) (pd_glob (v := .str "-") (d := .str "-") T.m_NONE ⟨_, rfl⟩ (fun _ => rfl))) (pd_tup pda_nil) (pd_call (takes_of rfl rfl rfl rfl) (ok_rows_of T hm) (hr.mono (by decide)) T.m_rows_of T.F_rows_of.kp T.d_rows_of (pda_cons (pd_var 1) pda_nil))) (pda_cons (pd_call (takes_of rfl rfl rfl rfl) (ok_rows_of T hm) (hr.mono (by decide)) T.m_rows_of T.F_rows_of.kp T.d_rows_of (pda_cons (pd_var 3) pda_nil)) pda_nil))) pda_nil)))
    (pds_cons (pd_ifS (PDW.pt (pdw_or (pdt_cmp (od_eq hr.units) (pd_var 2) pd_str) (pdw_or1 (pdt_cmp od_is (pd_var 4) pd_non)))) (pds_one (pd_ret pd_non)) pds_nil)
    (pds_one (pd_ret (pd_if (pdt_cmp (od_eq hr.units) (pd_lenSet rfl T.b_len T.b_set (pd_lc (own := [("row", 5)]) (p := .n 5) rfl sc_leaves_of.nd (pdi_it (pd_bin od_add (pd_ix (pd_var 4) pd_int) (pd_ix (pd_var 4) pd_int))) (blkOk_by (N := ["line", "ahead", "gap", "again", "found", "row"]) (sc := defScope s_leaves_of) (own := [("row", 5)]) (by decide +kernel)) (fun _ _ _ _ _ => (pg_name (i := 5) sc_leaves_of.nd rfl (by first | exact Or.inl rfl | exact Or.inr rfl))) (fun _ _ _ _ _ => pdts_nil) (fun _ _ _ _ _ => (pd_blt cd_len T.b_len (by decide +kernel) (pda_cons (pd_var 5) pda_nil))))) pd_int) (pd_var 4) pd_non)))))), fun ds S Q h => ?_⟩)
  · obtain ⟨_, _, rfl, _⟩ := h
    rfl
  · obtain ⟨a, b, rfl, hab, h⟩ := h
    have hs := lv_len hab
    have hf := lv_free hab
    obtain ⟨ha, hb, wd, hw⟩ := hab
    have hbl := hb.2.1
    have hal : a.length ≤ 60 := by rcases ha with rfl | ha; exact Nat.zero_le _; exact ha.2.1
    have hsp : Txt.partition (lvS a b) " | " = ((if a = [] then ("-" : Str) else rowS a), (" | " : Str), rowS b) := part_bar hf
    walk_at "w"
    refine ⟨trivial, ⟨by decide +kernel, by show _ ≤ 16777216; omega⟩, ?_⟩
    rw [hsp]
    walk_at "w"
    refine ⟨rfl, ?_⟩
    walk_at "w"
    by_cases c : a = []
    · rw [if_pos c]
      refine IFB.t (decide_eq_true rfl) ?_
      walk_at "w"
      refine ⟨b, rfl, hb, ?_⟩
      walk_at "w"
      intro p hp
      walk_at "w"
      refine ⟨p, _, rfl, sup_same, List.forall_mem_cons.mpr ⟨rfl, List.forall_mem_cons.mpr ⟨rfl, fun _ z => absurd z List.not_mem_nil⟩⟩, by show 2 ≤ 3000; decide, ?_⟩
      rw [show D.tup [D.tup [], D.tup (b.map tI)] = D.tup [.tup (a.map tI), .tup (b.map tI)] by rw [c]; rfl]
      walk_at "w"
      refine IFB.f (decide_eq_false (show ¬ (" | " : Str) = "" by decide +kernel)) ?_
      walk_at "g"
      refine ⟨_, rfl, ?_⟩
      walk_at "w"
      refine ⟨_, rfl, ?_⟩
      walk_at "w"
      refine ⟨by rw [List.length_map, List.length_map]; show _ ≤ 16777216; omega, ?_⟩
      rw [← List.map_append]
      refine lc_xsW (fun i acc S' => acc = ((a ++ b).take i).map (fun r => D.int ((r.map D.int).length : Int)) ∧ Ext S S') ⟨rfl, Ext.new hp _⟩ (fun _ _ _ _ => trivial) ?_ ?_
      · rintro i x acc S' hi ⟨rfl, x2⟩
        obtain ⟨r, hr, rfl⟩ := map_at hi
        have hil := (List.getElem?_eq_some_iff.mp hr).1
        rw [List.length_append] at hil
        walk_at "w"
        refine IFB.t rfl ?_
        walk_at "w"
        exact ⟨by rw [List.length_map, List.length_take, List.length_append]; show _ < 16777216; omega, take_s' hr, x2⟩
      · rintro S' v acc ⟨rfl, x2⟩ hv
        rw [List.length_map, List.take_length]
        walk_at "w"
        refine ⟨(a ++ b).map fun r => ((r.map D.int).length : Int), .inl ⟨v, rfl, by rw [sup_same, List.map_map]; rfl⟩, by rw [List.length_map, List.length_append]; omega, ?_⟩
        rw [met_const (c := (wd : Int)) (fun i hi => by obtain ⟨r, hr, rfl⟩ := List.mem_map.mp hi; rw [List.length_map, hw r hr]) (fun e => hb.1 (List.append_eq_nil_iff.mp (List.map_eq_nil_iff.mp e)).2)]
        walk_at "g"
        exact ⟨S, x2.trans (Ext.new hv _), h⟩
    · rw [if_neg c]
      have ha' : Rws a := ha.resolve_left c
      refine IFB.f (decide_eq_false (row_ne ha')) ?_
      walk_at "w"
      refine ⟨a, rfl, ha', ?_⟩
      walk_at "w"
      refine ⟨b, rfl, hb, ?_⟩
      walk_at "w"
      intro p hp
      walk_at "w"
      refine ⟨p, _, rfl, sup_same, List.forall_mem_cons.mpr ⟨rfl, List.forall_mem_cons.mpr ⟨rfl, fun _ z => absurd z List.not_mem_nil⟩⟩, by show 2 ≤ 3000; decide, ?_⟩
      walk_at "w"
      refine IFB.f (decide_eq_false (show ¬ (" | " : Str) = "" by decide +kernel)) ?_
      walk_at "g"
      refine ⟨_, rfl, ?_⟩
      walk_at "w"
      refine ⟨_, rfl, ?_⟩
      walk_at "w"
      refine ⟨by rw [List.length_map, List.length_map]; show _ ≤ 16777216; omega, ?_⟩
      rw [← List.map_append]
      refine lc_xsW (fun i acc S' => acc = ((a ++ b).take i).map (fun r => D.int ((r.map D.int).length : Int)) ∧ Ext S S') ⟨rfl, Ext.new hp _⟩ (fun _ _ _ _ => trivial) ?_ ?_
      · rintro i x acc S' hi ⟨rfl, x2⟩
        obtain ⟨r, hr, rfl⟩ := map_at hi
        have hil := (List.getElem?_eq_some_iff.mp hr).1
        rw [List.length_append] at hil
        walk_at "w"
        refine IFB.t rfl ?_
        walk_at "w"
        exact ⟨by rw [List.length_map, List.length_take, List.length_append]; show _ < 16777216; omega, take_s' hr, x2⟩
      · rintro S' v acc ⟨rfl, x2⟩ hv
        rw [List.length_map, List.take_length]
        walk_at "w"
        refine ⟨(a ++ b).map fun r => ((r.map D.int).length : Int), .inl ⟨v, rfl, by rw [sup_same, List.map_map]; rfl⟩, by rw [List.length_map, List.length_append]; omega, ?_⟩
        rw [met_const (c := (wd : Int)) (fun i hi => by obtain ⟨r, hr, rfl⟩ := List.mem_map.mp hi; rw [List.length_map, hw r hr]) (fun e => hb.1 (List.append_eq_nil_iff.mp (List.map_eq_nil_iff.mp e)).2)]
        walk_at "g"
        exact ⟨S, x2.trans (Ext.new hv _), h⟩

theorem ok_tosses_of {P : Program} {w : World} {K : PySem.W.Frag} {mg : Str → Option Value} {base : Heap} (T : Txt K mg) : FnOk P w K mg base (L2.CX P w) 2 T.a_tosses_of T.fd_tosses_of ["line"] (toSp K sp_tosses_of) := by
  refine fnD T.F_tosses_of sc_tosses_of (fun ds S Q E h => ?_) (fun cdv A outer s H E RX hr => ⟨_, (pds_cons (pd_ifS (pdt_cmp (od_eq hr.units) (pd_var 0) (pd_glob (v := .str "-") (d := .str "-") T.m_NONE ⟨_, rfl⟩ (fun _ => rfl))) (pds_one (pd_ret (pd_tup pda_nil))) pds_nil)
    (pds_one (pd_ret (pd_if (pdt_cmp (od_ne hr.units) (pd_var 0) pd_str) (pd_call (takes_of rfl rfl rfl rfl) (ok_signs_of T) (hr.mono (by decide)) T.m_signs_of T.F_signs_of.kp T.d_signs_of (pda_cons (pd_var 0) pda_nil)) pd_non)))), fun ds S Q h => ?_⟩)
  · obtain ⟨_, rfl, _⟩ := h
    rfl
  · obtain ⟨l, rfl, hl, h⟩ := h
    unfold tossS
    walk_at "w"
    by_cases c : l = []
    · subst c
      rw [if_pos rfl]
      refine IFB.t (decide_eq_true rfl) ?_
      walk_at "w"
      exact h
    · rw [if_neg c]
      refine IFB.f (decide_eq_false (sign_ne hl)) ?_
      walk_at "w"
      refine IFB.np (fun _ => ?_) (fun z => absurd z (sign_em hl c))
      walk_at "w"
      exact ⟨l, rfl, hl, h⟩

theorem ok_cell_of {P : Program} {w : World} {K : PySem.W.Frag} {mg : Str → Option Value} {base : Heap} (T : Txt K mg) (hm : HM T P w base) : FnOk P w K mg base (L2.CX P w) 5 T.a_cell_of T.fd_cell_of ["text"] (toSp K sp_cell_of) := by
  refine fnE T.F_cell_of sc_cell_of (fun ds S Q E h => ?_) (fun cdv A outer s H E RX hr => ⟨_, (pds_cons (pd_set 1 sc_cell_of.nd (pd_sm PySem.F.slot_str_split PySem.F.type_str_split md_split (pd_var 0) (pda_cons pd_str pda_nil)))
    (pds_cons (pd_ifS (pdt_cmp (od_ne hr.units) (pd_blt cd_len T.b_len (by decide +kernel) (pda_cons (pd_var 1) pda_nil)) pd_int) (pds_one (pd_ret pd_non)) pds_nil)
    (pds_cons (pd_set 2 sc_cell_of.nd (pd_call (takes_of rfl rfl rfl rfl) (ok_whole T) (hr.mono (by decide)) T.m_whole T.F_whole.kp T.d_whole (pda_cons (pd_lst (pda_cons (pd_call (takes_of rfl rfl rfl rfl) (ok_integer_of T hm) (hr.mono (by decide)) T.m_integer_of T.F_integer_of.kp T.d_integer_of (pda_cons (pd_ix (pd_var 1) pd_int) pda_nil)) (pda_cons (pd_call (takes_of rfl rfl rfl rfl) (ok_number_of T hm) (hr.mono (by decide)) T.m_number_of T.F_number_of.kp T.d_number_of (pda_cons (pd_ix (pd_var 1) pd_int) pda_nil)) (pda_cons (pd_call (takes_of rfl rfl rfl rfl) (ok_integer_of T hm) (hr.mono (by decide)) T.m_integer_of T.F_integer_of.kp T.d_integer_of (pda_cons (pd_ix (pd_var 1) pd_int) pda_nil)) pda_nil)))) pda_nil)))
    (pds_cons (pd_ifS (pdt_cmp od_is (pd_var 2) pd_non) (pds_one (pd_ret pd_non)) pds_nil)
    (pds_cons (pd_asg (pd_var 2) (pdg_tup rfl (pdgs_cons (pdg_name 3 sc_cell_of.nd) (pdgs_cons (pdg_tup rfl (pdgs_cons (pdg_name 4 sc_cell_of.nd) (pdgs_cons (pdg_name 5 sc_cell_of.nd) pdgs_nil))) (pdgs_cons (pdg_name 6 sc_cell_of.nd) pdgs_nil)))))
    (pds_one (pd_ret (pd_if (PDW.pt (pdw_and (pdt_chain od_lt od_le pd_int (pd_var 4) (pd_var 5)) (pdw_and1 (pdt_cmp (od_eq hr.units) (pd_cmp (od_eq hr.units) (pd_var 3) (pd_var 6)) (pd_cmp (od_eq hr.units) (pd_var 4) (pd_var 5)))))) (pd_var 2) pd_non)))))))), fun ds S Q h => ?_⟩)
  · obtain ⟨_, rfl, _⟩ := h
    rfl
  · obtain ⟨⟨i, ⟨t, b⟩, j⟩, rfl, hc, h⟩ := h
    have hs := ce_lenR hc
    have hsp := ce_split hc
    obtain ⟨h1, h2, h3, h4, h5, h6⟩ := hc
    walk_at "w"
    refine ⟨trivial, ⟨by decide +kernel, by show _ ≤ 16777216; omega⟩, ?_⟩
    intro p hp
    generalize hSS : DL.sup S p _ = S1
    obtain ⟨ep, y1, -⟩ := sup_of hSS
    have y1 := y1 hp
    clear hSS
    rw [hsp] at ep
    walk_at "w"
    refine ⟨_, .inl ⟨p, rfl, ep⟩, ?_⟩
    walk_at "g"
    refine ⟨_, _, .inl ⟨p, rfl, ep⟩, rfl, ?_⟩
    walk_at "w"
    refine ⟨i, rfl, h1, ?_⟩
    walk_at "w"
    refine ⟨_, _, .inl ⟨p, rfl, ep⟩, rfl, ?_⟩
    walk_at "w"
    refine ⟨(t, b), rfl, h2, ?_⟩
    walk_at "w"
    refine ⟨_, _, .inl ⟨p, rfl, ep⟩, rfl, ?_⟩
    walk_at "w"
    refine ⟨j, rfl, h3, ?_⟩
    walk_at "w"
    intro q hq
    walk_at "w"
    refine ⟨q, _, rfl, sup_same, List.forall_mem_cons.mpr ⟨rfl, List.forall_mem_cons.mpr ⟨rfl, List.forall_mem_cons.mpr ⟨rfl, fun _ z => absurd z List.not_mem_nil⟩⟩⟩, by show 3 ≤ 3000; decide, ?_⟩
    walk_at "g"
    refine ⟨rfl, ?_⟩
    walk_at "w"
    refine ⟨rfl, ?_⟩
    walk_at "w"
    refine IFB.t (decide_eq_true h4) ?_
    walk_at "w"
    refine IFB.t (decide_eq_true h5) ?_
    walk_at "w"
    refine IFB.t (decide_eq_true (decide_eq_decide.mpr h6)) ?_
    walk_at "w"
    exact ⟨S, y1.trans (Ext.new hq _), h⟩

theorem ok_table_of {P : Program} {w : World} {K : PySem.W.Frag} {mg : Str → Option Value} {base : Heap} (T : Txt K mg) (hm : HM T P w base) : FnOk P w K mg base (L2.CX P w) 6 T.a_table_of T.fd_table_of ["line"] (toSp K sp_table_of) := by
  refine fnE T.F_table_of sc_table_of (fun ds S Q E h => ?_) (fun cdv A outer s H E RX hr => ⟨_, (pds_one (pd_ret (pd_call (takes_of rfl rfl rfl rfl) (ok_whole T) (hr.mono (by decide)) T.m_whole T.F_whole.kp T.d_whole (pda_cons (pd_lc (own := [("part", 1)]) (p := .n 1) rfl sc_table_of.nd (pdi_it (pd_sm PySem.F.slot_str_split PySem.F.type_str_split md_split (pd_var 0) (pda_cons pd_str pda_nil))) (blkOk_by (N := ["line", "part"]) (sc := defScope s_table_of) (own := [("part", 1)]) (by decide +kernel)) (fun _ _ _ _ _ => (pg_name (i := 1) sc_table_of.nd rfl (by first | exact Or.inl rfl | exact Or.inr rfl))) (fun _ _ _ _ _ => pdts_nil) (fun _ _ _ _ _ => (pd_call takes0 (ok_cell_of T hm) (hr.mono (by decide)) T.m_cell_of T.F_cell_of.kp T.d_cell_of (pda_cons (pd_var 1) pda_nil)))) pda_nil)))), fun ds S Q h => ?_⟩)
  · obtain ⟨_, rfl, _⟩ := h
    rfl
  · obtain ⟨l, rfl, hl, h⟩ := h
    have hlen := hl.2.1
    have hs : (tabS l).length ≤ 100000 := Nat.le_trans (join_len (mem_map_le fun q hq => ce_lenR (hl.2.2 q hq)) (by rw [List.length_map]; exact hlen) len3) (by decide)
    walk_at "w"
    refine ⟨trivial, ⟨by decide +kernel, by have := hs; show _ ≤ 16777216; omega⟩, ?_⟩
    intro p1 hp1
    generalize hSS : DL.sup S p1 _ = S1
    obtain ⟨ep1, y1, -⟩ := sup_of hSS
    have y1 := y1 hp1
    clear hSS
    rw [hl.split, List.map_map] at ep1
    walk_at "w"
    refine ⟨_, .inl ⟨p1, rfl, ep1⟩, ?_⟩
    refine lc_xsW (fun i acc S' => acc = (l.take i).map cD ∧ Ext S1 S') ⟨rfl, Ext.refl _⟩ (fun i acc S' z => .inl ⟨p1, rfl, z.2 _ _ ep1⟩) ?_ ?_
    · rintro i x acc S' hi ⟨rfl, x2⟩
      obtain ⟨a, ha, rfl⟩ := map_at hi
      have hm := List.mem_of_getElem? ha
      have hil := (List.getElem?_eq_some_iff.mp ha).1
      walk_at "w"
      refine IFB.t rfl ?_
      walk_at "w"
      refine ⟨a, rfl, hl.2.2 a hm, ?_⟩
      exact ⟨by rw [List.length_map, List.length_take]; show _ < 16777216; omega, take_s' ha, x2⟩
    · rintro S' v acc ⟨rfl, x2⟩ hv
      rw [List.length_map, List.take_length]
      walk_at "w"
      refine ⟨v, _, rfl, sup_same, mem_map_nn fun _ => rfl, by rw [List.length_map]; omega, ?_⟩
      exact ⟨S, y1.trans (x2.trans (Ext.new hv _)), h⟩

theorem ok_place_of {P : Program} {w : World} {K : PySem.W.Frag} {mg : Str → Option Value} {base : Heap} (T : Txt K mg) (hm : HM T P w base) : FnOk P w K mg base (L2.CX P w) 2 T.a_place_of T.fd_place_of ["word"] (toSp K sp_place_of) := by
  refine fnE T.F_place_of sc_place_of (fun ds S Q E h => ?_) (fun cdv A outer s H E RX hr => ⟨_, (pds_cons (pd_setDc 1 (own := [("name", 3), ("sign", 4)]) (p := .t [.n 3, .n 4]) rfl sc_place_of.nd rfl rfl (sw_trueD rfl rfl rfl (by decide +kernel)) (pdi_itemsC hm.it_SIGNS (pd_glob (v := .ref T.z_SIGNS) (d := .ref T.z_SIGNS) T.m_SIGNS rfl (fun _ => rfl))) (blkOk_by (N := ["word", "words", "number", "name", "sign"]) (sc := defScope s_place_of) (own := [("name", 3), ("sign", 4)]) (by decide +kernel)) (fun _ _ _ _ _ => (pg_tup rfl (pgs_cons (pg_name (i := 3) sc_place_of.nd rfl (by first | exact Or.inl rfl | exact Or.inr rfl)) (pgs_cons (pg_name (i := 4) sc_place_of.nd rfl (by first | exact Or.inl rfl | exact Or.inr rfl)) pgs_nil)))) (fun _ _ _ _ _ => pdts_nil) (fun _ _ _ _ _ => (pd_var 4)) (fun _ _ _ _ _ => (pd_var 3)))
    (pds_cons (pd_set 2 sc_place_of.nd (pd_call (takes_of rfl rfl rfl rfl) (ok_integer_of T hm) (hr.mono (by decide)) T.m_integer_of T.F_integer_of.kp T.d_integer_of (pda_cons (pd_sliceS (pd_var 0) (pdo_some pd_int) pdo_none) pda_nil)))
    (pds_one (pd_ret (pd_if (PDW.pt (pdw_and (pdt_cmp od_isnot (pd_var 2) pd_non) (pdw_and1 (pdt_din (hu_of hr) (pd_ix (pd_var 0) pd_int) (pd_var 1))))) (pd_tup (pda_cons (pd_dget (hu_of hr) (pd_var 1) (pd_ix (pd_var 0) pd_int)) (pda_cons (pd_var 2) pda_nil))) pd_non))))), fun ds S Q h => ?_⟩)
  · obtain ⟨_, rfl, _⟩ := h
    rfl
  · obtain ⟨⟨b, k⟩, rfl, hp, h⟩ := h
    cases b with
    | true =>
      have hs : (plS (true, k)).length ≤ 100 := Nat.le_trans (pl_len (p := (true, k)) (hp.2.mono (by decide))) (by decide)
      walk_at "w"
      refine ⟨rfl, ?_⟩
      refine ⟨fun i acc S' => i ≤ 2 ∧ acc = wordsD.take i ∧ S' = S, ⟨by decide, rfl, rfl⟩, fun i acc S' ⟨hi, ea, eS⟩ => ⟨trivial, fun x hx => ?_, fun hend => ?_⟩⟩
      · subst eS
        match i, hx, ea with
        | 0, hx, ea =>
          cases (Option.some.inj hx)
          subst ea
          walk_at "w"
          refine IFB.t rfl ?_
          walk_at "w"
          exact ⟨.inr "s", rfl, by show _ < 16777216; decide, by decide, dput1, rfl⟩
        | 1, hx, ea =>
          cases (Option.some.inj hx)
          subst ea
          walk_at "w"
          refine IFB.t rfl ?_
          walk_at "w"
          exact ⟨.inr "i", rfl, by show _ < 16777216; decide, by decide, dput2, rfl⟩
      · intro p hp0
        have hi2 : i = 2 := hend
        subst hi2 eS ea
        generalize hSS : DL.sup S' p _ = S1
        obtain ⟨ep, y1, -⟩ := sup_of hSS
        have y1 := y1 hp0
        clear hSS
        walk_at "w"
        refine ⟨by show (plS (true, k)).length ≤ 16777216; omega, ?_⟩
        rw [show cutS (plS (true, k)) (some 1) none = itS k from cut_from (y := "s") (x := itS k) (by decide +kernel)]
        walk_at "w"
        refine ⟨k, rfl, hp, ?_⟩
        walk_at "g"
        have ep : S1 p = some (.dK wordsD) := ep
        refine ⟨_, by show (plS (true, k)).length ≤ 16777216; omega, pl_at (w := "s") t_s, wordsD, _, ep, rfl, ?_⟩
        dsimp only
        rw [dval_s]
        walk_at "g"
        refine ⟨_, by show (plS (true, k)).length ≤ 16777216; omega, pl_at (w := "s") t_s, wordsD, _, ep, rfl, _, dval_s, ?_⟩
        exact ⟨S', y1, h⟩
    | false =>
      have hs : (plS (false, k)).length ≤ 100 := Nat.le_trans (pl_len (p := (false, k)) (hp.2.mono (by decide))) (by decide)
      walk_at "w"
      refine ⟨rfl, ?_⟩
      refine ⟨fun i acc S' => i ≤ 2 ∧ acc = wordsD.take i ∧ S' = S, ⟨by decide, rfl, rfl⟩, fun i acc S' ⟨hi, ea, eS⟩ => ⟨trivial, fun x hx => ?_, fun hend => ?_⟩⟩
      · subst eS
        match i, hx, ea with
        | 0, hx, ea =>
          cases (Option.some.inj hx)
          subst ea
          walk_at "w"
          refine IFB.t rfl ?_
          walk_at "w"
          exact ⟨.inr "s", rfl, by show _ < 16777216; decide, by decide, dput1, rfl⟩
        | 1, hx, ea =>
          cases (Option.some.inj hx)
          subst ea
          walk_at "w"
          refine IFB.t rfl ?_
          walk_at "w"
          exact ⟨.inr "i", rfl, by show _ < 16777216; decide, by decide, dput2, rfl⟩
      · intro p hp0
        have hi2 : i = 2 := hend
        subst hi2 eS ea
        generalize hSS : DL.sup S' p _ = S1
        obtain ⟨ep, y1, -⟩ := sup_of hSS
        have y1 := y1 hp0
        clear hSS
        walk_at "w"
        refine ⟨by show (plS (false, k)).length ≤ 16777216; omega, ?_⟩
        rw [show cutS (plS (false, k)) (some 1) none = itS k from cut_from (y := "i") (x := itS k) (by decide +kernel)]
        walk_at "w"
        refine ⟨k, rfl, hp, ?_⟩
        walk_at "g"
        have ep : S1 p = some (.dK wordsD) := ep
        refine ⟨_, by show (plS (false, k)).length ≤ 16777216; omega, pl_at (w := "i") t_i, wordsD, _, ep, rfl, ?_⟩
        dsimp only
        rw [dval_i]
        walk_at "g"
        refine ⟨_, by show (plS (false, k)).length ≤ 16777216; omega, pl_at (w := "i") t_i, wordsD, _, ep, rfl, _, dval_i, ?_⟩
        exact ⟨S', y1, h⟩

theorem ok_row_of {P : Program} {w : World} {K : PySem.W.Frag} {mg : Str → Option Value} {base : Heap} (T : Txt K mg) (hm : HM T P w base) : FnOk P w K mg base (L2.CX P w) 3 T.a_row_of T.fd_row_of ["line"] (toSp K sp_row_of) := by
  refine fnE T.F_row_of sc_row_of (fun ds S Q E h => ?_) (fun cdv A outer s H E RX hr => ⟨_, (pds_cons (pd_set 1 sc_row_of.nd (pd_sm PySem.F.slot_str_split PySem.F.type_str_split md_split (pd_var 0) (pda_cons pd_str pda_nil)))
    (pds_one (pd_ret (pd_if (pdt_cmp (od_eq hr.units) (pd_blt cd_len T.b_len (by decide +kernel) (pda_cons (pd_var 1) pda_nil)) pd_int) (pd_call (takes_of rfl rfl rfl rfl) (ok_whole T) (hr.mono (by decide)) T.m_whole T.F_whole.kp T.d_whole (pda_cons (pd_lc (own := [("word", 2)]) (p := .n 2) rfl sc_row_of.nd (pdi_it (pd_var 1)) (blkOk_by (N := ["line", "words", "word"]) (sc := defScope s_row_of) (own := [("word", 2)]) (by decide +kernel)) (fun _ _ _ _ _ => (pg_name (i := 2) sc_row_of.nd rfl (by first | exact Or.inl rfl | exact Or.inr rfl))) (fun _ _ _ _ _ => pdts_nil) (fun _ _ _ _ _ => (pd_call takes0 (ok_place_of T hm) (hr.mono (by decide)) T.m_place_of T.F_place_of.kp T.d_place_of (pda_cons (pd_var 2) pda_nil)))) pda_nil)) pd_non)))), fun ds S Q h => ?_⟩)
  · obtain ⟨_, rfl, _⟩ := h
    rfl
  · obtain ⟨q, rfl, h1, h2, h⟩ := h
    have hs := st_len (q := q) ⟨h1.2.mono (show 30 ≤ 70 by decide), h2.2.mono (show 30 ≤ 70 by decide)⟩
    have hsp : Txt.split (stS q) " " = [q.1, q.2].map plS := st_split h1 h2
    have hall : ∀ a ∈ [q.1, q.2], Nn a.2 := List.forall_mem_cons.mpr ⟨h1, List.forall_mem_cons.mpr ⟨h2, fun _ z => absurd z List.not_mem_nil⟩⟩
    have hll : [q.1, q.2].length = 2 := rfl
    walk_at "w"
    refine ⟨trivial, ⟨by decide +kernel, by have := hs; show _ ≤ 16777216; omega⟩, ?_⟩
    intro p1 hp1
    generalize hSS : DL.sup S p1 _ = S1
    obtain ⟨ep1, y1, -⟩ := sup_of hSS
    have y1 := y1 hp1
    clear hSS
    rw [hsp, List.map_map] at ep1
    walk_at "w"
    refine ⟨_, .inl ⟨p1, rfl, ep1⟩, ?_⟩
    walk_at "g"
    refine ⟨_, .inl ⟨p1, rfl, ep1⟩, ?_⟩
    refine lc_xsW (fun i acc S' => acc = ([q.1, q.2].take i).map pD ∧ Ext S1 S') ⟨rfl, Ext.refl _⟩ (fun i acc S' z => .inl ⟨p1, rfl, z.2 _ _ ep1⟩) ?_ ?_
    · rintro i x acc S' hi ⟨rfl, x2⟩
      obtain ⟨a, ha, rfl⟩ := map_at hi
      have hm := List.mem_of_getElem? ha
      have hil := (List.getElem?_eq_some_iff.mp ha).1
      walk_at "w"
      refine IFB.t rfl ?_
      walk_at "w"
      refine ⟨a, rfl, hall a hm, ?_⟩
      exact ⟨by rw [List.length_map, List.length_take]; show _ < 16777216; omega, take_s' ha, x2⟩
    · rintro S' v acc ⟨rfl, x2⟩ hv
      rw [List.length_map, List.take_length]
      walk_at "w"
      refine ⟨v, _, rfl, sup_same, mem_map_nn fun _ => rfl, by rw [List.length_map]; omega, ?_⟩
      exact ⟨S, y1.trans (x2.trans (Ext.new hv _)), h⟩

theorem ok_head_of {P : Program} {w : World} {K : PySem.W.Frag} {mg : Str → Option Value} {base : Heap} (T : Txt K mg) (hm : HM T P w base) : FnOk P w K mg base (L2.CX P w) 3 T.a_head_of T.fd_head_of ["line"] (toSp K sp_head_of) := by
  refine fnE T.F_head_of sc_head_of (fun ds S Q E h => ?_) (fun cdv A outer s H E RX hr => ⟨_, (pds_cons (pd_set 1 sc_head_of.nd (pd_sm PySem.F.slot_str_split PySem.F.type_str_split md_split (pd_sliceS (pd_var 0) (pdo_some (pd_blt cd_len T.b_len (by decide +kernel) (pda_cons (pd_glob (v := .str "machine ") (d := .str "machine ") T.m_HEAD ⟨_, rfl⟩ (fun _ => rfl)) pda_nil))) pdo_none) (pda_cons pd_str pda_nil)))
    (pds_cons (pd_ifS (PDW.pt (pdw_or (pdt_not (pdt_tru (pd_sm PySem.F.slot_str_startswith PySem.F.type_str_startswith md_startswith (pd_var 0) (pda_cons (pd_glob (v := .str "machine ") (d := .str "machine ") T.m_HEAD ⟨_, rfl⟩ (fun _ => rfl)) pda_nil)))) (pdw_or1 (pdt_cmp (od_ne hr.units) (pd_blt cd_len T.b_len (by decide +kernel) (pda_cons (pd_var 1) pda_nil)) pd_int)))) (pds_one (pd_ret pd_non)) pds_nil)
    (pds_one (pd_ret (pd_call (takes_of rfl rfl rfl rfl) (ok_whole T) (hr.mono (by decide)) T.m_whole T.F_whole.kp T.d_whole (pda_cons (pd_lst (pda_cons (pd_call (takes_of rfl rfl rfl rfl) (ok_integer_of T hm) (hr.mono (by decide)) T.m_integer_of T.F_integer_of.kp T.d_integer_of (pda_cons (pd_ix (pd_var 1) pd_int) pda_nil)) (pda_cons (pd_call (takes_of rfl rfl rfl rfl) (ok_place_of T hm) (hr.mono (by decide)) T.m_place_of T.F_place_of.kp T.d_place_of (pda_cons (pd_ix (pd_var 1) pd_int) pda_nil)) pda_nil))) pda_nil)))))), fun ds S Q h => ?_⟩)
  · obtain ⟨_, _, rfl, _⟩ := h
    rfl
  · obtain ⟨n, b, rfl, h1, h2, h⟩ := h
    have l1 := itS_len (by decide) (h1.2.mono (show 30 ≤ 70 by decide))
    have l2 := pl_len (p := b) (h2.2.mono (show 30 ≤ 70 by decide))
    have l3 := len9
    have l4 := len1
    have hs : (headS n b).length ≤ 300 := by unfold headS; rw [app_len, app_len, app_len]; omega
    have hs2 : (itS n ++ " " ++ plS b).length ≤ 300 := by rw [app_len, app_len]; omega
    have hst : Txt.startswith (headS n b) "machine " = true := by rw [head_cut]; exact starts_app (by rw [t_ma]; exact List.cons_ne_nil _ _)
    walk_at "w"
    refine ⟨by show _ ≤ 16777216; omega, ?_⟩
    walk_at "w"
    refine ⟨by show _ ≤ 16777216; omega, ?_⟩
    rw [show cutS (headS n b) (some (("machine " : Str).length : Int)) none = itS n ++ " " ++ plS b by rw [head_cut]; exact cut_from rfl]
    walk_at "w"
    refine ⟨trivial, ⟨by decide +kernel, by show _ ≤ 16777216; omega⟩, ?_⟩
    intro p hp
    generalize hSS : DL.sup S p _ = S1
    obtain ⟨ep, y1, -⟩ := sup_of hSS
    have y1 := y1 hp
    clear hSS
    rw [head_split h1 h2] at ep
    walk_at "w"
    refine ⟨trivial, ?_⟩
    walk_at "w"
    rw [hst]
    walk_at "g"
    refine ⟨_, .inl ⟨p, rfl, ep⟩, ?_⟩
    walk_at "g"
    refine ⟨_, _, .inl ⟨p, rfl, ep⟩, rfl, ?_⟩
    walk_at "w"
    refine ⟨n, rfl, h1, ?_⟩
    walk_at "w"
    refine ⟨_, _, .inl ⟨p, rfl, ep⟩, rfl, ?_⟩
    walk_at "w"
    refine ⟨b, rfl, h2, ?_⟩
    walk_at "w"
    intro q hq
    walk_at "w"
    refine ⟨q, _, rfl, sup_same, List.forall_mem_cons.mpr ⟨rfl, List.forall_mem_cons.mpr ⟨rfl, fun _ z => absurd z List.not_mem_nil⟩⟩, by show 2 ≤ 3000; decide, ?_⟩
    exact ⟨S, y1.trans (Ext.new hq _), h⟩
end K41
set_option Elab.async false
set_option linter.all false
set_option maxRecDepth 100000
set_option maxHeartbeats 4000000
namespace K41
open PySem PySem.Spec PyProof.Rows L2 DL
local macro_rules | `(tactic| walk_at "w") => `(tactic| conv => whnf)
local macro_rules | `(tactic| walk_at "g") => `(tactic| ((conv => whnf); repeat' (first | (refine IFB.t ?_ ?_; rfl; conv => whnf) | (refine IFB.f ?_ ?_; rfl; conv => whnf))))
set_option exponentiation.threshold 20000

theorem sh_len {l : List (Int × Int)} (hl : Ns l) : (allS l).length ≤ 2000000 := Nat.le_trans (join_len (mem_map_le fun q hq => nm_len ⟨(hl.2.2 q hq).tb.1.mono (show 30 ≤ 70 by decide), (hl.2.2 q hq).tb.2.mono (show 30 ≤ 70 by decide)⟩) (by rw [List.length_map]; exact hl.2.1) len1) (by decide)
theorem sh_free {l : List (Int × Int)} (hl : Ns l) : 10 ∉ tl (allS l) := join_free (by rw [t_sp]; decide) fun s hs => by
  obtain ⟨q, hq, rfl⟩ := List.mem_map.mp hs
  exact (hl.2.2 q hq).free (by omega)
theorem fig_len {a b : List Int} (ha : Zs a) (hb : Zs b) : (figS a b).length ≤ 2000000 := by
  have h1 := sign_len ha.1
  have h2 := sign_len hb.1
  have h3 := ha.2
  have h4 := hb.2
  have l6 := len6
  have l7 := len7
  unfold figS
  rw [app_len, app_len, app_len]
  omega
theorem fig_free {a b : List Int} (ha : Zs a) (hb : Zs b) : 10 ∉ tl (figS a b) := by
  unfold figS
  simp only [tl_app, List.mem_append, t_op, t_cl, List.mem_singleton]
  rintro (((z | z) | z) | z)
  · exact sign_free ha.1 (by omega) z
  · exact absurd z (by decide)
  · exact sign_free hb.1 (by omega) z
  · exact absurd z (by decide)
theorem lv_nl {a b : List (List Int)} (h : LvOk a b) : 10 ∉ tl (lvS a b) := by
  unfold lvS
  rw [tl_app, tl_app, t_ba, List.mem_append, List.mem_append]
  rintro ((z | z) | z)
  · revert z
    rcases h.1 with e | e
    · rw [if_pos e, t_mi]; decide
    · split
      · rw [t_mi]; decide
      · exact row_free e.2.2 (by omega) (by decide) (by decide)
  · revert z; decide
  · exact row_free h.2.1.2.2 (by omega) (by decide) (by decide) z
theorem toss_len {l : List Int} (hl : Zs l) : (tossS l).length ≤ 2000000 := by
  have h1 := sign_len hl.1
  have h2 := hl.2
  have l4 := len12
  unfold tossS
  split <;> omega
theorem toss_free {l : List Int} (hl : Zs l) : 10 ∉ tl (tossS l) := by
  unfold tossS
  split
  · rw [t_mi]; decide
  · exact sign_free hl.1 (by omega)
theorem tab_len {cs : List (Int × (Int × Int) × Int)} (h : Ces cs) : (tabS cs).length ≤ 2000000 := Nat.le_trans (join_len (mem_map_le fun q hq => ce_lenR (h.2.2 q hq)) (by rw [List.length_map]; exact h.2.1) len3) (by decide)
theorem tab_free {cs : List (Int × (Int × Int) × Int)} (h : Ces cs) : 10 ∉ tl (tabS cs) := join_free (by rw [t_co]; decide) fun s hs => by
  obtain ⟨q, hq, rfl⟩ := List.mem_map.mp hs
  exact ce_free (h.2.2 q hq) (by omega) (by decide)
theorem held_only {P : Program} {w : World} {K : PySem.W.Frag} {mg : Str → Option Value} {base : Heap} (T : Txt K mg) (hm : HM T P w base) : ∀ f spec, Fs T f spec → ∃ k' fd ps, k' ≤ 6 ∧ FnOk P w K mg base (L2.CX P w) k' f fd ps (toSp K spec) ∧ PySem.W.keepIn K (.ref f) = true ∧ Binds K fd ps [] := by
  rintro f spec (⟨rfl, rfl⟩ | ⟨rfl, rfl⟩ | ⟨rfl, rfl⟩ | ⟨rfl, rfl⟩ | ⟨rfl, rfl⟩ | ⟨rfl, rfl⟩)
  · exact ⟨_, _, _, by decide, ok_number_of T hm, T.F_number_of.kp, T.d_number_of⟩
  · exact ⟨_, _, _, by decide, ok_shares_of T hm, T.F_shares_of.kp, T.d_shares_of⟩
  · exact ⟨_, _, _, by decide, ok_figures_of T, T.F_figures_of.kp, T.d_figures_of⟩
  · exact ⟨_, _, _, by decide, ok_leaves_of T hm, T.F_leaves_of.kp, T.d_leaves_of⟩
  · exact ⟨_, _, _, by decide, ok_tosses_of T, T.F_tosses_of.kp, T.d_tosses_of⟩
  · exact ⟨_, _, _, by decide, ok_table_of T hm, T.F_table_of.kp, T.d_table_of⟩
theorem ok_only {P : Program} {w : World} {K : PySem.W.Frag} {mg : Str → Option Value} {base : Heap} (T : Txt K mg) (hm : HM T P w base) : FnOk P w K mg base (L2.CX P w) 7 T.a_only T.fd_only ["told", "text"] (toSp K (sp_only T)) := by
  refine fnD T.F_only sc_only (fun ds S Q E h => ?_) (fun cdv A outer s H E RX hr => ⟨_, (pds_cons (pd_asg (pd_sm PySem.F.slot_str_partition PySem.F.type_str_partition md_partition (pd_var 1) (pda_cons pd_str pda_nil)) (pdg_tup rfl (pdgs_cons (pdg_name 2 sc_only.nd) (pdgs_cons (pdg_name 3 sc_only.nd) (pdgs_cons (pdg_name 4 sc_only.nd) pdgs_nil)))))
    (pds_cons (pd_set 5 sc_only.nd (pd_callV 0 (takes_of rfl rfl rfl rfl) (held_only T hm) (hr.mono (by decide)) (pda_cons (pd_var 2) pda_nil)))
    (pds_cons (pd_ifS (pdt_cmp od_is (pd_var 5) pd_non) (pds_one pd_never) pds_nil)
    (pds_cons (pd_ifS (pdt_cmp (od_ne hr.units) (pd_var 3) pd_str) (pds_one pd_never) pds_nil)
    (pds_one (pd_ret (pd_var 5))))))), fun ds S Q h => ?_⟩)
  · obtain ⟨_, _, _, rfl, _⟩ := h
    rfl
  · obtain ⟨f, sp, t, rfl, hF, hl, hnl, h⟩ := h
    walk_at "w"
    refine ⟨trivial, ⟨by decide +kernel, by show _ ≤ 16777216; omega⟩, ?_⟩
    rw [show Txt.partition t "\n" = (t, Str.empty, Str.empty) from TL.partition_none (y := "\n") (s := 10) (S := []) t_nl hnl]
    walk_at "w"
    refine ⟨rfl, ?_⟩
    walk_at "w"
    refine ⟨f, sp, rfl, hF, ?_⟩
    rcases hF with ⟨rfl, rfl⟩ | ⟨rfl, rfl⟩ | ⟨rfl, rfl⟩ | ⟨rfl, rfl⟩ | ⟨rfl, rfl⟩ | ⟨rfl, rfl⟩
    · obtain ⟨p, e, hp, hn, hq⟩ := h fun _ _ _ => True
      refine ⟨p, e, hp, ?_⟩
      walk_at "w"
      refine IFB.f rfl ?_
      walk_at "w"
      refine IFB.np (fun z => absurd (show Str.empty = ("" : Str) by decide +kernel) z) (fun _ => ?_)
      walk_at "w"
      exact hq
    · obtain ⟨l, e, hl, hn, hq⟩ := h fun _ _ _ => True
      refine ⟨l, e, hl, ?_⟩
      walk_at "w"
      refine IFB.f rfl ?_
      walk_at "w"
      refine IFB.np (fun z => absurd (show Str.empty = ("" : Str) by decide +kernel) z) (fun _ => ?_)
      walk_at "w"
      exact hq
    · obtain ⟨a, b, e, ha, hb, hne, hn, hq⟩ := h fun _ _ _ => True
      refine ⟨a, b, e, ha, hb, hne, ?_⟩
      walk_at "w"
      refine IFB.f rfl ?_
      walk_at "w"
      refine IFB.np (fun z => absurd (show Str.empty = ("" : Str) by decide +kernel) z) (fun _ => ?_)
      walk_at "w"
      exact hq
    · obtain ⟨a, b, e, hab, hn, hq⟩ := h fun _ _ _ => True
      refine ⟨a, b, e, hab, ?_⟩
      walk_at "w"
      refine IFB.f rfl ?_
      walk_at "w"
      refine IFB.np (fun z => absurd (show Str.empty = ("" : Str) by decide +kernel) z) (fun _ => ?_)
      walk_at "w"
      exact hq
    · obtain ⟨l, e, hl, hn, hq⟩ := h fun _ _ _ => True
      refine ⟨l, e, hl, ?_⟩
      walk_at "w"
      refine IFB.f rfl ?_
      walk_at "w"
      refine IFB.np (fun z => absurd (show Str.empty = ("" : Str) by decide +kernel) z) (fun _ => ?_)
      walk_at "w"
      exact hq
    · obtain ⟨cs, e, hc, hn, hq⟩ := h fun _ _ _ => True
      refine ⟨cs, e, hc, ?_⟩
      walk_at "w"
      refine IFB.f rfl ?_
      walk_at "w"
      refine IFB.np (fun z => absurd (show Str.empty = ("" : Str) by decide +kernel) z) (fun _ => ?_)
      walk_at "w"
      exact hq

theorem ok_read_number {P : Program} {w : World} {K : PySem.W.Frag} {mg : Str → Option Value} {base : Heap} (T : Txt K mg) (hm : HM T P w base) : FnOk P w K mg base (L2.CX P w) 8 T.a_read_number T.fd_read_number ["text"] (toSp K sp_read_number) := by
  refine fnD T.F_read_number sc_read_number (fun ds S Q E h => ?_) (fun cdv A outer s H E RX hr => ⟨_, (pds_one (pd_ret (pd_call (takes_of rfl rfl rfl rfl) (ok_only T hm) (hr.mono (by decide)) T.m_only T.F_only.kp T.d_only (pda_cons (pd_glob (v := .ref T.a_number_of) (d := .ref T.a_number_of) T.m_number_of rfl (fun _ => rfl)) (pda_cons (pd_var 0) pda_nil))))), fun ds S Q h => ?_⟩)
  · obtain ⟨_, rfl, _⟩ := h
    rfl
  · obtain ⟨p, rfl, hp, h⟩ := h
    walk_at "w"
    refine ⟨T.a_number_of, sp_number_of, _, rfl, .inl ⟨rfl, rfl⟩, Nat.le_trans (nm_len (q := p) ⟨hp.tb.1.mono (show 30 ≤ 70 by decide), hp.tb.2.mono (show 30 ≤ 70 by decide)⟩) (by decide), hp.free (by omega), fun E => ⟨p, rfl, hp, ?_⟩⟩
    exact ⟨rfl, h⟩

theorem ok_read_shares {P : Program} {w : World} {K : PySem.W.Frag} {mg : Str → Option Value} {base : Heap} (T : Txt K mg) (hm : HM T P w base) : FnOk P w K mg base (L2.CX P w) 8 T.a_read_shares T.fd_read_shares ["text"] (toSp K sp_read_shares) := by
  refine fnD T.F_read_shares sc_read_shares (fun ds S Q E h => ?_) (fun cdv A outer s H E RX hr => ⟨_, (pds_one (pd_ret (pd_call (takes_of rfl rfl rfl rfl) (ok_only T hm) (hr.mono (by decide)) T.m_only T.F_only.kp T.d_only (pda_cons (pd_glob (v := .ref T.a_shares_of) (d := .ref T.a_shares_of) T.m_shares_of rfl (fun _ => rfl)) (pda_cons (pd_var 0) pda_nil))))), fun ds S Q h => ?_⟩)
  · obtain ⟨_, rfl, _⟩ := h
    rfl
  · obtain ⟨l, rfl, hl, h⟩ := h
    walk_at "w"
    refine ⟨T.a_shares_of, sp_shares_of, _, rfl, .inr (.inl ⟨rfl, rfl⟩), sh_len hl.1, sh_free hl.1, fun E => ⟨l, rfl, hl, ?_⟩⟩
    exact ⟨rfl, h⟩

theorem ok_read_figures {P : Program} {w : World} {K : PySem.W.Frag} {mg : Str → Option Value} {base : Heap} (T : Txt K mg) (hm : HM T P w base) : FnOk P w K mg base (L2.CX P w) 8 T.a_read_figures T.fd_read_figures ["text"] (toSp K sp_read_figures) := by
  refine fnD T.F_read_figures sc_read_figures (fun ds S Q E h => ?_) (fun cdv A outer s H E RX hr => ⟨_, (pds_one (pd_ret (pd_call (takes_of rfl rfl rfl rfl) (ok_only T hm) (hr.mono (by decide)) T.m_only T.F_only.kp T.d_only (pda_cons (pd_glob (v := .ref T.a_figures_of) (d := .ref T.a_figures_of) T.m_figures_of rfl (fun _ => rfl)) (pda_cons (pd_var 0) pda_nil))))), fun ds S Q h => ?_⟩)
  · obtain ⟨_, _, rfl, _⟩ := h
    rfl
  · obtain ⟨a, b, rfl, ha, hb, hne, h⟩ := h
    walk_at "w"
    refine ⟨T.a_figures_of, sp_figures_of, _, rfl, .inr (.inr (.inl ⟨rfl, rfl⟩)), fig_len ha hb, fig_free ha hb, fun E => ⟨a, b, rfl, ha, hb, hne, ?_⟩⟩
    exact ⟨rfl, h⟩

theorem ok_read_leaves {P : Program} {w : World} {K : PySem.W.Frag} {mg : Str → Option Value} {base : Heap} (T : Txt K mg) (hm : HM T P w base) : FnOk P w K mg base (L2.CX P w) 8 T.a_read_leaves T.fd_read_leaves ["text"] (toSp K sp_read_leaves) := by
  refine fnD T.F_read_leaves sc_read_leaves (fun ds S Q E h => ?_) (fun cdv A outer s H E RX hr => ⟨_, (pds_one (pd_ret (pd_call (takes_of rfl rfl rfl rfl) (ok_only T hm) (hr.mono (by decide)) T.m_only T.F_only.kp T.d_only (pda_cons (pd_glob (v := .ref T.a_leaves_of) (d := .ref T.a_leaves_of) T.m_leaves_of rfl (fun _ => rfl)) (pda_cons (pd_var 0) pda_nil))))), fun ds S Q h => ?_⟩)
  · obtain ⟨_, _, rfl, _⟩ := h
    rfl
  · obtain ⟨a, b, rfl, hab, h⟩ := h
    walk_at "w"
    refine ⟨T.a_leaves_of, sp_leaves_of, _, rfl, .inr (.inr (.inr (.inl ⟨rfl, rfl⟩))), Nat.le_trans (lv_len hab) (by decide), lv_nl hab, fun E => ⟨a, b, rfl, hab, ?_⟩⟩
    exact ⟨rfl, h⟩

theorem ok_read_tosses {P : Program} {w : World} {K : PySem.W.Frag} {mg : Str → Option Value} {base : Heap} (T : Txt K mg) (hm : HM T P w base) : FnOk P w K mg base (L2.CX P w) 8 T.a_read_tosses T.fd_read_tosses ["text"] (toSp K sp_read_tosses) := by
  refine fnD T.F_read_tosses sc_read_tosses (fun ds S Q E h => ?_) (fun cdv A outer s H E RX hr => ⟨_, (pds_one (pd_ret (pd_call (takes_of rfl rfl rfl rfl) (ok_only T hm) (hr.mono (by decide)) T.m_only T.F_only.kp T.d_only (pda_cons (pd_glob (v := .ref T.a_tosses_of) (d := .ref T.a_tosses_of) T.m_tosses_of rfl (fun _ => rfl)) (pda_cons (pd_var 0) pda_nil))))), fun ds S Q h => ?_⟩)
  · obtain ⟨_, rfl, _⟩ := h
    rfl
  · obtain ⟨l, rfl, hl, h⟩ := h
    walk_at "w"
    refine ⟨T.a_tosses_of, sp_tosses_of, _, rfl, .inr (.inr (.inr (.inr (.inl ⟨rfl, rfl⟩)))), toss_len hl, toss_free hl, fun E => ⟨l, rfl, hl, ?_⟩⟩
    exact ⟨rfl, h⟩

theorem ok_read_table {P : Program} {w : World} {K : PySem.W.Frag} {mg : Str → Option Value} {base : Heap} (T : Txt K mg) (hm : HM T P w base) : FnOk P w K mg base (L2.CX P w) 8 T.a_read_table T.fd_read_table ["text"] (toSp K sp_read_table) := by
  refine fnD T.F_read_table sc_read_table (fun ds S Q E h => ?_) (fun cdv A outer s H E RX hr => ⟨_, (pds_one (pd_ret (pd_call (takes_of rfl rfl rfl rfl) (ok_only T hm) (hr.mono (by decide)) T.m_only T.F_only.kp T.d_only (pda_cons (pd_glob (v := .ref T.a_table_of) (d := .ref T.a_table_of) T.m_table_of rfl (fun _ => rfl)) (pda_cons (pd_var 0) pda_nil))))), fun ds S Q h => ?_⟩)
  · obtain ⟨_, rfl, _⟩ := h
    rfl
  · obtain ⟨cs, rfl, hc, h⟩ := h
    walk_at "w"
    refine ⟨T.a_table_of, sp_table_of, _, rfl, .inr (.inr (.inr (.inr (.inr ⟨rfl, rfl⟩)))), tab_len hc, tab_free hc, fun E => ⟨cs, rfl, hc, ?_⟩⟩
    exact ⟨rfl, h⟩

theorem ok_read_machine {P : Program} {w : World} {K : PySem.W.Frag} {mg : Str → Option Value} {base : Heap} (T : Txt K mg) (hm : HM T P w base) : FnOk P w K mg base (L2.CX P w) 7 T.a_read_machine T.fd_read_machine ["text"] (toSp K sp_read_machine) := by
  refine fnE T.F_read_machine sc_read_machine (fun ds S Q E h => ?_) (fun cdv A outer s H E RX hr => ⟨_, (pds_cons (pd_asg (pd_sm PySem.F.slot_str_split PySem.F.type_str_split md_split (pd_var 0) (pda_cons pd_str pda_nil)) (pdg_star2 1 2 rfl sc_read_machine.nd))
    (pds_cons (pd_par 3 4 rfl sc_read_machine.nd (pda_cons (pd_call (takes_of rfl rfl rfl rfl) (ok_head_of T hm) (hr.mono (by decide)) T.m_head_of T.F_head_of.kp T.d_head_of (pda_cons (pd_var 1) pda_nil)) (pda_cons (pd_lst pda_nil) pda_nil)) rfl)
    (pds_cons (pd_ifS (pdt_cmp od_is (pd_var 3) pd_non) (pds_one pd_never) pds_nil)
    (pds_cons (pd_for (passes_of rfl) rfl (pdi_enumL T.b_enumerate (pda_cons (pd_var 2) pda_nil)) (pdg_tup rfl (pdgs_cons (pdg_name 5 sc_read_machine.nd) (pdgs_cons (pdg_name 6 sc_read_machine.nd) pdgs_nil))) (pds_cons (pd_set 7 sc_read_machine.nd (pd_call (takes_of rfl rfl rfl rfl) (ok_row_of T hm) (hr.mono (by decide)) T.m_row_of T.F_row_of.kp T.d_row_of (pda_cons (pd_var 6) pda_nil)))
    (pds_cons (pd_ifS (pdt_cmp od_is (pd_var 7) pd_non) (pds_one pd_never) pds_nil)
    (pds_one (pd_expr (pd_lm PySem.F.slot_list_append PySem.F.type_list_append md_append (pd_var 4) (pda_cons (pd_var 7) pda_nil)))))))
    (pds_cons (pd_set 8 sc_read_machine.nd (pd_tupS (pd_var 3) (pd_bltTy cd_tuple T.b_tuple (by decide +kernel) (pda_cons (pd_var 4) pda_nil))))
    (pds_cons (pd_ifS (pdt_not (pdt_tru (pd_call (takes_of rfl rfl rfl rfl) (ok_is_machine T) (hr.mono (by decide)) T.m_is_machine T.F_is_machine.kp T.d_is_machine (pda_cons (pd_var 8) pda_nil)))) (pds_one pd_never) pds_nil)
    (pds_one (pd_ret (pd_var 8))))))))), fun ds S Q h => ?_⟩)
  · obtain ⟨_, _, _, rfl, _⟩ := h
    rfl
  · obtain ⟨n, b, rs, rfl, hM, hn, h⟩ := h
    have hs := mach_len hM hn
    have hv := hM.nn hn
    have hlen := hM.2.2.1
    walk_at "w"
    refine ⟨trivial, ⟨by decide +kernel, by show _ ≤ 16777216; omega⟩, ?_⟩
    intro p hp
    generalize hSS : DL.sup S p _ = S1
    obtain ⟨ep, y1, -⟩ := sup_of hSS
    have y1 := y1 hp
    clear hSS
    rw [mach_split hM hn, List.map_cons, List.map_map] at ep
    walk_at "w"
    refine ⟨_, _, .inl ⟨p, rfl, ep⟩, by rw [List.length_map]; omega, ?_⟩
    intro q hq
    generalize hSS : DL.sup S1 q _ = S2
    obtain ⟨eq, y2, -⟩ := sup_of hSS
    have y2 := y2 hq
    clear hSS
    walk_at "w"
    refine ⟨n, b, rfl, hn, hv.1, ?_⟩
    walk_at "w"
    intro r hr
    generalize hSS : DL.sup S2 r _ = S3
    obtain ⟨er, y3, -⟩ := sup_of hSS
    have y3 := y3 hr
    clear hSS
    have hrS : S r = none := none_of (y1.trans y2) hr
    have hrq : q ≠ r := fun z => by rw [z, hr] at eq; cases eq
    walk_at "g"
    refine ⟨_, .inl ⟨q, rfl, y3 _ _ eq⟩, ?_⟩
    refine for_xs (fun i ρ' S' => ∃ o5 o6 o7 o8, ρ' = [some (.str (machS n b rs)), some (.str (headS n b)), some (.ref q), some (.tup [.int n, pD b]), some (.ref r), o5, o6, o7, o8] ∧ S' r = some (.lst ((rs.take i).map sD)) ∧ S' q = some (.lst (rs.map (D.str ∘ stS))) ∧ Ext S S') ⟨_, _, _, _, rfl, er, y3 _ _ eq, (y1.trans y2).trans y3⟩ (fun i ρ' S' z => by obtain ⟨_, _, _, _, _, _, e2, _⟩ := z; exact .inl ⟨q, rfl, e2⟩) ?_ ?_
    · rintro i x _ S4 hi ⟨o5, o6, o7, o8, rfl, e1, e2, x4⟩
      rw [enD_get, List.getElem?_map] at hi
      cases ha : rs[i]? with
      | none => rw [ha] at hi; cases hi
      | some a =>
        rw [ha] at hi
        cases (Option.some.inj hi)
        have hm := hv.2 a (List.mem_of_getElem? ha)
        have hil := (List.getElem?_eq_some_iff.mp ha).1
        walk_at "w"
        refine ⟨rfl, ?_⟩
        walk_at "w"
        refine ⟨a, rfl, hm.1, hm.2, ?_⟩
        walk_at "g"
        refine ⟨⟨_, e1⟩, ?_⟩
        walk_at "w"
        refine ⟨_, e1, by rw [List.length_map, List.length_take]; show _ < 16777216; omega, ?_⟩
        walk_at "w"
        exact ⟨_, _, _, _, rfl, by rw [sup_same, take_s ha], (sup_ne hrq).trans e2, fun c d z => by rw [sup_ne (fun w => by rw [w, hrS] at z; cases z)]; exact x4 _ _ z⟩
    · rintro _ S4 ⟨o5, o6, o7, o8, rfl, e1, e2, x4⟩
      rw [enD_len, List.length_map, List.take_length] at e1
      walk_at "w"
      refine ⟨_, rfl, ?_⟩
      walk_at "w"
      refine ⟨_, .inl ⟨r, rfl, e1⟩, by show 2 + 1 ≤ 16777216; decide, ?_⟩
      walk_at "w"
      refine ⟨n, b, rs, rfl, hM, ?_⟩
      walk_at "g"
      exact ⟨S, x4, h⟩
end K41
set_option Elab.async false
set_option linter.all false
set_option maxRecDepth 100000
set_option maxHeartbeats 4000000
namespace K41
open PySem PySem.Spec PyProof.Rows L2 DL
local macro_rules | `(tactic| walk_at "w") => `(tactic| conv => whnf)
local macro_rules | `(tactic| walk_at "g") => `(tactic| ((conv => whnf); repeat' (first | (refine IFB.t ?_ ?_; rfl; conv => whnf) | (refine IFB.f ?_ ?_; rfl; conv => whnf))))
set_option exponentiation.threshold 20000
/-- beside a, what was there stays -/
def ExtB (a : Addr) (S S' : Sto) : Prop := ∀ b c, b ≠ a → S b = some c → S' b = some c
theorem ExtB.refl (a : Addr) (S : Sto) : ExtB a S S := fun _ _ _ h => h
theorem ExtB.trans {a : Addr} {S S1 S2 : Sto} (x : ExtB a S S1) (y : ExtB a S1 S2) : ExtB a S S2 := fun b c n h => y b c n (x b c n h)
theorem ExtB.of {a : Addr} {S S' : Sto} (h : ∀ b, b ≠ a → S' b = S b) : ExtB a S S' := fun b c n e => by rw [h b n]; exact e
theorem ExtB.ext {a : Addr} {S S' : Sto} (h : Ext S S') : ExtB a S S' := fun b c _ e => h b c e
theorem ExtB.free {a : Addr} {S S' : Sto} (x : ExtB a S S') {p : Addr} (hn : p ≠ a) (h : S' p = none) : S p = none := by
  cases q : S p with
  | none => rfl
  | some o => rw [x p o hn q] at h; cases h
theorem ExtB.wr {a : Addr} {S S' : Sto} {p : Addr} {c : Cell} (e : ExtB a S S') (h : S p = none) : ExtB a S (sup S' p c) := fun b o n q => by
  rw [sup_ne (fun z => ?_)]
  · exact e b o n q
  · subst z; rw [h] at q; cases q

def keepA (a : Addr) (S S' : Sto) : Sto := fun b => if b = a then S' a else S b
theorem keepA_ext {a : Addr} {S S' : Sto} (h : ExtB a S S') : Ext (keepA a S S') S' := fun b c e => by
  unfold keepA at e
  by_cases hb : b = a
  · subst hb; rw [if_pos rfl] at e; exact e
  · rw [if_neg hb] at e; exact h b c hb e
theorem keepA_a {a : Addr} {S S' : Sto} : keepA a S S' a = S' a := by unfold keepA; rw [if_pos rfl]
theorem keepA_ne {a : Addr} {S S' : Sto} : ∀ b, b ≠ a → keepA a S S' b = S b := fun b hb => by unfold keepA; rw [if_neg hb]

def WellD (S : Sto) (a : Addr) (c : Int) : Prop := ∃ w0 w1 w2 : Int, S a = some (.lst [.int w0, .int w1, .int w2]) ∧ 0 ≤ w1 ∧ w1 < 10 ^ 30 ∧ 0 ≤ w2 ∧ w2 ≤ c
def sp_law_well : DSp := fun ds S Q _ => ∃ (xs : List Int) (p : Int), ds = [.fro (xs.map D.int), .int p] ∧ 0 ≤ p ∧ p < 2 ^ 40 ∧ ∀ a S', S a = none → WellD S' a 0 → (∀ b, b ≠ a → S' b = S b) → Q (.ref a) S'
def sp_law_dip_ : DSp := fun ds S Q _ => ∃ (a : Addr) (u c : Int), ds = [.ref a, .int u] ∧ WellD S a c ∧ c < 1000000 ∧ 0 < u ∧ u < 2 ^ 64 ∧ ∀ (f : Int) S', 0 ≤ f → f < u → WellD S' a (c + 1) → (∀ b, b ≠ a → S' b = S b) → Q (.int f) S'
theorem WellD.ne {S : Sto} {a p : Addr} {c : Int} (h : WellD S a c) (hp : S p = none) : p ≠ a := fun z => by
  obtain ⟨_, _, _, e, _⟩ := h
  rw [← z, hp] at e
  cases e
theorem WellD.sup {S : Sto} {a p : Addr} {c : Int} {x : Cell} (h : WellD S a c) (hp : S p = none) : WellD (sup S p x) a c := by
  have q := (h.ne hp).symm
  obtain ⟨w0, w1, w2, e, r⟩ := h
  exact ⟨w0, w1, w2, by rw [sup_ne q]; exact e, r⟩
theorem atI_map {xs : List Int} {p : Int} (h : 0 ≤ p) (h1 : p < xs.length) : ∃ c, atI (xs.map D.int) p = some (.int c) := by
  obtain ⟨n, rfl⟩ := Int.eq_ofNat_of_zero_le h
  have : n < xs.length := by omega
  exact ⟨xs[n], atI_nat (by simp [this])⟩
theorem bits_le {k : Int} {n : Nat} (h : k.natAbs < 2 ^ n) : Builtin.Int.intBits k ≤ n := by
  unfold Builtin.Int.intBits
  split
  · exact Nat.zero_le _
  · have : k.natAbs.log2 < n := (Nat.log2_lt (by simp_all)).mpr h
    omega
theorem bits_mul {k j : Int} (h : k.natAbs < 2 ^ 200) (h0 : 0 ≤ j) (hj : j ≤ 100000) : 0 ≤ j ∧ (Builtin.Int.intBits k : Int) * j ≤ 2 ^ 27 := by
  have h1 := bits_le h
  have h2 : (Builtin.Int.intBits k : Int) * j ≤ 200 * 100000 := Int.mul_le_mul (by omega) hj h0 (by decide)
  omega
theorem WellD.ext {S S' : Sto} {a : Addr} {c : Int} (h : WellD S a c) (x : Ext S S') : WellD S' a c := by
  obtain ⟨w0, w1, w2, e, r⟩ := h
  exact ⟨w0, w1, w2, x _ _ e, r⟩
theorem WellD.mono {S : Sto} {a : Addr} {c c' : Int} (h : WellD S a c) (x : c ≤ c') : WellD S a c' := by
  obtain ⟨w0, w1, w2, e, r1, r2, r3, r4⟩ := h
  exact ⟨w0, w1, w2, e, r1, r2, r3, by omega⟩
theorem WellD.keep {S S' : Sto} {a : Addr} {c : Int} (h : WellD S' a c) : WellD (keepA a S S') a c := by
  obtain ⟨w0, w1, w2, e, r⟩ := h
  exact ⟨w0, w1, w2, by rw [keepA_a]; exact e, r⟩

def sp_law_draw : DSp := fun ds S Q _ => ∃ (a : Addr) (u c : Int), ds = [.ref a, .int u] ∧ WellD S a c ∧ c < 1000000 ∧ 0 < u ∧ ∀ (f : Int) S', 0 ≤ f → f < u → WellD S' a (c + 1) → (∀ b, b ≠ a → S' b = S b) → Q (.int f) S'
def sp_law_power : DSp := fun ds S Q _ => ∃ k : Nat, ds = [.int 10, .int (k : Int)] ∧ k ≤ 4200 ∧ Q (.int (10 ^ k)) S
theorem tb_of {k : Nat} {i : Int} (h0 : 0 ≤ i) (h : i < 10 ^ k) : TB k i := by
  have e : ((10 : Int) ^ k) = ((10 ^ k : Nat) : Int) := by simp
  rw [e] at h
  unfold TB
  omega
theorem p10_pos (k : Nat) : (0 : Int) < 10 ^ k := Int.pow_pos (by decide)
theorem p10_ge {k : Nat} (h : 1 ≤ k) : (10 : Int) ≤ 10 ^ k := by
  have e : ((10 : Int) ^ k) = ((10 ^ k : Nat) : Int) := by simp
  have : 10 ^ 1 ≤ 10 ^ k := Nat.pow_le_pow_right (by decide) h
  rw [e]
  omega
theorem p10_mono {j k : Nat} (h : j ≤ k) : (10 : Int) ^ j ≤ 10 ^ k := by
  have e : ∀ k : Nat, ((10 : Int) ^ k) = ((10 ^ k : Nat) : Int) := fun k => by simp
  have : 10 ^ j ≤ 10 ^ k := Nat.pow_le_pow_right (by decide) h
  rw [e, e]
  omega
theorem tb_13500 {k : Nat} {i : Int} (h : TB k i) (hk : k ≤ 4050) : i.natAbs < 2 ^ 13500 :=
  Nat.lt_of_lt_of_le (h.mono hk) (by decide +kernel)

theorem ExtB.none_of {a p : Addr} {S S' : Sto} (h : ExtB a S S') (hp : S' p = none) (hn : p ≠ a) : S p = none := by
  cases z : S p with
  | none => rfl
  | some c => rw [h _ _ hn z] at hp; cases hp
theorem WellD.put {S : Sto} {a p : Addr} {c : Int} {x : Cell} (h : WellD S a c) (hp : p ≠ a) : WellD (DL.sup S p x) a c := by
  obtain ⟨w0, w1, w2, e, r⟩ := h
  exact ⟨w0, w1, w2, by rw [sup_ne hp.symm]; exact e, r⟩
def dvs (N : Int) (ws : List Int) : List Rat := ws.map fun (w : Int) => (w : Rat) / (N : Rat)
theorem dvs_all {N : Int} (hp : 0 < N) {ws : List Int} (h3 : ∀ w ∈ ws, 0 < w) {q : Rat} (hq : q ∈ dvs N ws) : 0 < q ∧ Ov N q := by
  obtain ⟨w, hw, rfl⟩ := List.mem_map.mp hq
  refine ⟨?_, w, rfl⟩
  rw [Rat.div_def]
  exact Rat.mul_pos (ratPos (h3 w hw)) (Rat.inv_pos.mpr (ratPos hp))
theorem dvs_sum {N : Int} (hp : 0 < N) : ∀ ws : List Int, (dvs N ws).sum = ((ws.sum : Int) : Rat) / (N : Rat)
  | [] => by show (0 : Rat) = ((0 : Int) : Rat) / _; rw [Rat.intCast_zero, Rat.div_def, Rat.zero_mul]
  | w :: ws => by
    show ((w : Rat) / (N : Rat)) + (dvs N ws).sum = _
    rw [dvs_sum hp ws, List.sum_cons, Rat.intCast_add]
    have := ratNe hp
    grind
theorem dvs_sh {ws : List Int} (h1 : ws ≠ []) (h3 : ∀ w ∈ ws, 0 < w) (hp : 0 < ws.sum) : Sh ws.sum (dvs ws.sum ws) := by
  refine ⟨hp, fun z => h1 (List.map_eq_nil_iff.mp z), fun q hq => dvs_all hp h3 hq, ?_⟩
  rw [dvs_sum hp]
  have := ratNe hp
  grind
theorem ws_sum {m : Int} : ∀ {ws : List Int}, (∀ w ∈ ws, 1 ≤ w ∧ w ≤ m) → (ws.length : Int) ≤ ws.sum ∧ ws.sum ≤ m * ws.length
  | [], _ => by simp
  | w :: ws, h => by
    have h1 := h w (by simp)
    have h2 := ws_sum (ws := ws) fun x hx => h x (List.mem_cons_of_mem _ hx)
    rw [List.sum_cons, List.length_cons]
    have e : m * ((ws.length + 1 : Nat) : Int) = m * (ws.length : Int) + m := by rw [Int.natCast_add]; grind
    omega

def pq (q : Rat) : Int × Int := (q.num, (q.den : Int))
def sp_law_low : DSp := fun ds S Q _ => ∃ t b : Int, ds = [.int t, .int b] ∧ 0 ≤ t ∧ 0 < b ∧ TB 4000 t ∧ TB 4000 b ∧ Q (fr ((t : Rat) / (b : Rat))) S
def sp_law_integer : DSp := fun ds S Q _ => ∃ (a : Addr) (k : Nat) (c : Int), ds = [.ref a, .int (k : Int)] ∧ WellD S a c ∧ c < 900000 ∧ 1 ≤ k ∧ k ≤ 30 ∧ ∀ (i : Int) S', 0 ≤ i → (∀ j, k ≤ j → 2 ≤ j → TB j i) → WellD S' a (c + 3) → ExtB a S S' → Q (.int i) S'
def sp_law_number : DSp := fun ds S Q _ => ∃ (a : Addr) (c : Int), ds = [.ref a, .int 30] ∧ WellD S a c ∧ c < 850000 ∧ ∀ (q : Rat) S', Nm (pq q) → WellD S' a (c + 8) → ExtB a S S' → Q (fr q) S'
theorem nm_of {t b : Int} (h0 : 0 ≤ t) (h1 : 0 < b) (ht : TB 30 t) (hb : TB 30 b) : Nm (pq ((t : Rat) / (b : Rat))) := by
  have e1 := low_num (t := t) h1
  have e2 := low_den (t := t) h1
  have g1 : 0 < Nat.gcd t.natAbs b.natAbs := Nat.gcd_pos_of_pos_right _ (by omega)
  obtain ⟨t, rfl⟩ := Int.eq_ofNat_of_zero_le h0
  obtain ⟨b, rfl⟩ := Int.eq_ofNat_of_zero_le (Int.le_of_lt h1)
  have d1 := Nat.div_le_self t (Nat.gcd t b)
  have d2 := Nat.div_le_self b (Nat.gcd t b)
  have z1 : ((t / Nat.gcd t b : Nat) : Int) = (((t : Int) : Rat) / ((b : Int) : Rat)).num := e1
  have z2 : ((b / Nat.gcd t b : Nat) : Int) = ((((t : Int) : Rat) / ((b : Int) : Rat)).den : Int) := e2
  unfold TB at ht hb
  rw [Int.natAbs_natCast] at ht hb
  refine ⟨_, rfl, ?_, ?_, ?_⟩
  · refine Rat.num_nonneg.mp ?_
    rw [← z1]
    exact Int.natCast_nonneg _
  · show TB 30 (((t : Int) : Rat) / ((b : Int) : Rat)).num
    rw [← z1]
    unfold TB
    rw [Int.natAbs_natCast]
    omega
  · show TB 30 ((((t : Int) : Rat) / ((b : Int) : Rat)).den : Int)
    rw [← z2]
    unfold TB
    rw [Int.natAbs_natCast]
    omega
theorem tb30 {i : Int} {u : Int} (h0 : 0 ≤ i) (h : i < u) (hu : u ≤ 10 ^ 30) : TB 30 i := tb_of h0 (by omega)
theorem ok_law_well {P : Program} {w : World} {K : PySem.W.Frag} {mg : Str → Option Value} {base : Heap} (T : Txt K mg) : FnOk P w K mg base (L2.CX P w) 1 T.a_law_well T.fd_law_well ["script", "place"] (toSp K sp_law_well) := by
  refine fnD T.F_law_well sc_law_well (fun ds S Q E h => ?_) (fun cdv A outer s H E RX hr => ⟨_, (pds_cons (pd_set 2 sc_law_well.nd (pd_if (pdt_cmp od_lt (pd_var 1) (pd_blt cd_len T.b_len (by decide +kernel) (pda_cons (pd_var 0) pda_nil))) (pd_bltTy cd_int T.b_int (by decide +kernel) (pda_cons (pd_ix (pd_var 0) (pd_var 1)) pda_nil)) (pd_bin od_add (pd_bin od_mul (pd_var 1) pd_int) (pd_bin od_mul (pd_blt cd_len T.b_len (by decide +kernel) (pda_cons (pd_var 0) pda_nil)) pd_int))))
    (pds_one (pd_ret (pd_lst (pda_cons (pd_blt (cd_max2 rfl) T.b_max (by decide +kernel) (pda_cons pd_int (pda_cons (pd_bin od_sub (pd_blt cd_abs T.b_abs (by decide +kernel) (pda_cons (pd_var 2) pda_nil)) (pd_bin od_pow pd_int pd_int)) pda_nil))) (pda_cons (pd_bin od_mod (pd_bltTy cd_int T.b_int (by decide +kernel) (pda_cons (pd_bin od_add (pd_bin od_add (pd_bin od_mul (pd_var 2) pd_int) (pd_bin od_mul (pd_var 1) pd_int)) pd_int) pda_nil)) (pd_bin od_add (pd_bin od_pow pd_int pd_int) pd_int)) (pda_cons pd_int pda_nil))))))), fun ds S Q h => ?_⟩)
  · obtain ⟨_, _, rfl, _⟩ := h
    rfl
  · obtain ⟨xs, p, rfl, h0, h1, h⟩ := h
    walk_at "w"
    refine ⟨_, .inr rfl, ?_⟩
    walk_at "w"
    refine IFB.p (fun c1 => ?_) (fun c1 => ?_)
    · obtain ⟨c, ec⟩ := atI_map (xs := xs) h0 (by simpa using c1)
      walk_at "w"
      refine ⟨_, _, .inr rfl, ec, ?_⟩
      walk_at "w"
      refine ⟨by decide, ?_⟩
      walk_at "w"
      refine ⟨small_r (by decide) (by decide), ?_⟩
      walk_at "w"
      refine ⟨small_r (by decide) (by decide), ?_⟩
      walk_at "w"
      refine ⟨by decide, ?_⟩
      walk_at "w"
      refine ⟨by decide, ?_⟩
      walk_at "w"
      intro a ha
      exact h a _ ha ⟨_, _, _, sup_same, Int.emod_nonneg _ (by decide), Int.lt_of_lt_of_le (Int.emod_lt_of_pos _ (by decide)) (by decide), by decide, by decide⟩ (fun b hb => sup_ne hb)
    · walk_at "w"
      refine ⟨small_r (by decide) (by decide), ?_⟩
      walk_at "w"
      refine ⟨_, .inr rfl, ?_⟩
      walk_at "w"
      refine ⟨small_r (by decide) (by decide), ?_⟩
      walk_at "w"
      refine ⟨by decide, ?_⟩
      walk_at "w"
      refine ⟨small_r (by decide) (by decide), ?_⟩
      walk_at "w"
      refine ⟨small_r (by decide) (by decide), ?_⟩
      walk_at "w"
      refine ⟨by decide, ?_⟩
      walk_at "w"
      refine ⟨by decide, ?_⟩
      walk_at "w"
      intro a ha
      exact h a _ ha ⟨_, _, _, sup_same, Int.emod_nonneg _ (by decide), Int.lt_of_lt_of_le (Int.emod_lt_of_pos _ (by decide)) (by decide), by decide, by decide⟩ (fun b hb => sup_ne hb)

theorem ok_law_draw {P : Program} {w : World} {K : PySem.W.Frag} {mg : Str → Option Value} {base : Heap} (T : Txt K mg) (hm : HM T P w base) : FnOk P w K mg base (L2.CX P w) 40 T.a_law_draw T.fd_law_draw ["well", "many"] (toSp K sp_law_draw) := by
  refine fnD T.F_law_draw sc_law_draw (fun ds S Q E h => ?_) (fun cdv A outer s H E RX hr => ⟨_, (pds_cons (pd_ifS (pdt_cmp od_gt (pd_ix (pd_var 0) pd_int) pd_int) (pds_cons (pd_set 2 sc_law_draw.nd (pd_bin od_mod (pd_bltTy cd_int T.b_int (by decide +kernel) (pda_cons (pd_ix (pd_var 0) pd_int) pda_nil)) (pd_var 1)))
    (pds_cons (pd_asg (pd_bin (od_fdivS hm.seer ⟨hm.tree, _, _, rfl, sc_law_draw.gen, sc_law_draw.co, rfl, rfl⟩ (room_deep hr (by decide))) (pd_ix (pd_var 0) pd_int) (pd_var 1)) (pdg_sub sd_list (pd_var 0) pd_int))
    (pds_one (pd_ret (pd_var 2))))) pds_nil)
    (pds_cons (pd_asg (pd_bin od_add (pd_ix (pd_var 0) pd_int) pd_int) (pdg_sub sd_list (pd_var 0) pd_int))
    (pds_cons (pd_set 3 sc_law_draw.nd (pd_bin od_mod (pd_bltTy cd_int T.b_int (by decide +kernel) (pda_cons (pd_bin od_pow (pd_bin od_add (pd_ix (pd_var 0) pd_int) (pd_bin od_mul pd_int (pd_ix (pd_var 0) pd_int))) pd_int) pda_nil)) (pd_bin od_add (pd_bin od_pow pd_int pd_int) pd_int)))
    (pds_cons (pd_set 3 sc_law_draw.nd (pd_bin od_mod (pd_bltTy cd_int T.b_int (by decide +kernel) (pda_cons (pd_bin od_pow (pd_bin od_add (pd_var 3) pd_int) pd_int) pda_nil)) (pd_bin od_add (pd_bin od_pow pd_int pd_int) pd_int)))
    (pds_one (pd_ret (pd_bin od_mod (pd_bltTy cd_int T.b_int (by decide +kernel) (pda_cons (pd_bin (od_fdivS hm.seer ⟨hm.tree, _, _, rfl, sc_law_draw.gen, sc_law_draw.co, rfl, rfl⟩ (room_deep hr (by decide))) (pd_var 3) (pd_bin od_pow pd_int pd_int)) pda_nil)) (pd_var 1)))))))), fun ds S Q h => ?_⟩)
  · obtain ⟨_, _, _, rfl, _⟩ := h
    rfl
  · obtain ⟨a, u, c, rfl, ⟨w0, w1, w2, e, h1, h2, h3, h4⟩, h5, h6, h⟩ := h
    walk_at "w"
    refine ⟨_, _, .inl ⟨a, rfl, e⟩, rfl, ?_⟩
    walk_at "w"
    refine IFB.p (fun c1 => ?_) (fun c1 => ?_)
    · walk_at "w"
      refine ⟨_, _, .inl ⟨a, rfl, e⟩, rfl, ?_⟩
      walk_at "w"
      refine ⟨h6, ?_⟩
      walk_at "w"
      refine ⟨_, _, .inl ⟨a, rfl, e⟩, rfl, ?_⟩
      walk_at "w"
      refine ⟨h6, ?_⟩
      walk_at "w"
      refine ⟨_, 0, e, rfl, ?_⟩
      walk_at "w"
      exact h _ _ (Int.emod_nonneg _ (by omega)) (Int.emod_lt_of_pos _ h6) ⟨_, _, _, sup_same, h1, h2, h3, by omega⟩ (fun b hb => sup_ne hb)
    · walk_at "w"
      refine ⟨_, _, .inl ⟨a, rfl, e⟩, rfl, ?_⟩
      walk_at "w"
      refine ⟨_, 2, e, rfl, ?_⟩
      walk_at "w"
      have e1 : sup S a (.lst (List.set [.int w0, .int w1, .int w2] 2 (.int (w2 + 1)))) a = some (.lst [.int w0, .int w1, .int (w2 + 1)]) := sup_same
      refine ⟨_, _, .inl ⟨a, rfl, e1⟩, rfl, ?_⟩
      walk_at "w"
      refine ⟨_, _, .inl ⟨a, rfl, e1⟩, rfl, ?_⟩
      walk_at "w"
      refine ⟨small_l (by decide) (by decide), ?_⟩
      walk_at "w"
      refine ⟨bits_mul (by have : (2 : Nat) ^ 200 > 10 ^ 50 := by decide
                           omega) (by decide) (by decide), ?_⟩
      walk_at "w"
      refine ⟨by decide, ?_⟩
      walk_at "w"
      refine ⟨by decide, ?_⟩
      generalize hm : (w1 + _ * (w2 + 1)) ^ _ % _ = mx
      have hx0 : 0 ≤ mx := by rw [← hm]; exact Int.emod_nonneg _ (by decide)
      have hx1 : mx < 10 ^ 30 := by rw [← hm]; exact Int.lt_of_lt_of_le (Int.emod_lt_of_pos _ (by decide)) (by decide)
      walk_at "w"
      refine ⟨bits_mul (by have : (2 : Nat) ^ 200 > 10 ^ 50 := by decide
                           omega) (by decide) (by decide), ?_⟩
      walk_at "w"
      refine ⟨by decide, ?_⟩
      walk_at "w"
      refine ⟨by decide, ?_⟩
      walk_at "w"
      refine ⟨by decide, ?_⟩
      walk_at "w"
      refine ⟨by decide, ?_⟩
      walk_at "w"
      refine ⟨h6, ?_⟩
      walk_at "w"
      exact h _ _ (Int.emod_nonneg _ (by omega)) (Int.emod_lt_of_pos _ h6) ⟨_, _, _, e1, h1, h2, by omega, by omega⟩ (fun b hb => sup_ne hb)

theorem ok_law_power {P : Program} {w : World} {K : PySem.W.Frag} {mg : Str → Option Value} {base : Heap} (T : Txt K mg) : FnOk P w K mg base (L2.CX P w) 1 T.a_law_power T.fd_law_power ["b", "many"] (toSp K sp_law_power) := by
  refine fnD T.F_law_power sc_law_power (fun ds S Q E h => ?_) (fun cdv A outer s H E RX hr => ⟨_, (pds_cons (pd_set 2 sc_law_power.nd pd_int)
    (pds_cons (pd_for (passes_of rfl) rfl (pdi_range1 T.b_range (pda_cons (pd_var 1) pda_nil)) (pdg_name 3 sc_law_power.nd) (pds_one (pd_set 2 sc_law_power.nd (pd_bin od_mul (pd_var 2) (pd_var 0)))))
    (pds_one (pd_ret (pd_var 2))))), fun ds S Q h => ?_⟩)
  · obtain ⟨_, rfl, _⟩ := h
    rfl
  · obtain ⟨k, rfl, hk, h⟩ := h
    walk_at "w"
    refine ⟨⟨by omega, by omega⟩, for_rg (fun i ρ' S' => S' = S ∧ ∃ o, ρ' = [some (.int 10), some (.int (k : Int)), some (.int (10 ^ i)), o]) ⟨rfl, _, by rw [show (10 : Int) ^ 0 = 1 by simp]; rfl⟩ ?_ ?_⟩
    · rintro i _ _ hi ⟨rfl, o, rfl⟩
      walk_at "w"
      refine ⟨small_r (by omega) (by omega), ?_⟩
      walk_at "w"
      exact ⟨rfl, _, by rw [Int.pow_succ]; rfl⟩
    · rintro _ _ ⟨rfl, o, rfl⟩
      rw [show (k : Int).toNat = k from Int.toNat_natCast _]
      walk_at "w"
      exact h

theorem ok_law_low {P : Program} {w : World} {K : PySem.W.Frag} {mg : Str → Option Value} {base : Heap} (T : Txt K mg) : FnOk P w K mg base (L2.CX P w) 1 T.a_law_low T.fd_law_low ["top", "bottom"] (toSp K sp_law_low) := by
  refine fnD T.F_law_low sc_law_low (fun ds S Q E h => ?_) (fun cdv A outer s H E RX hr => ⟨_, (pds_cons (pd_par 2 3 rfl sc_law_low.nd (pda_cons (pd_var 0) (pda_cons (pd_var 1) pda_nil)) rfl)
    (pds_cons (pd_while (passes_of rfl) (pdt_cmp (od_ne hr.units) (pd_var 3) pd_int) (pds_one (pd_par 2 3 rfl sc_law_low.nd (pda_cons (pd_var 3) (pda_cons (pd_bin od_mod (pd_bltTy cd_int T.b_int (by decide +kernel) (pda_cons (pd_var 2) pda_nil)) (pd_var 3)) pda_nil)) rfl)))
    (pds_one (pd_ret (pd_tup (pda_cons (pd_bin od_fdivX (pd_var 0) (pd_var 2)) (pda_cons (pd_bin od_fdivX (pd_var 1) (pd_var 2)) pda_nil))))))), fun ds S Q h => ?_⟩)
  · obtain ⟨_, _, rfl, _⟩ := h
    rfl
  · obtain ⟨t, b, rfl, h0, h1, ht, hb, h⟩ := h
    have ht2 := tb_13500 ht (by decide)
    have hb2 := tb_13500 hb (by decide)
    obtain ⟨t, rfl⟩ := Int.eq_ofNat_of_zero_le h0
    obtain ⟨b, rfl⟩ := Int.eq_ofNat_of_zero_le (show 0 ≤ b by omega)
    walk_at "w"
    refine ⟨fun m ρ' S' => S' = S ∧ ∃ x : Nat, ρ' = [some (.int (t : Int)), some (.int (b : Int)), some (.int (x : Int)), some (.int (m : Int))] ∧ Nat.gcd x m = Nat.gcd t b, ⟨b, rfl, t, rfl, rfl⟩, ?_⟩
    rintro m _ _ ⟨rfl, x, rfl, hg⟩
    walk_at "w"
    refine IFB.np (fun c1 => ?_) (fun c1 => ?_)
    · walk_at "w"
      refine ⟨by omega, ?_⟩
      walk_at "w"
      exact ⟨x % m, Nat.mod_lt _ (by omega), rfl, m, rfl, by rw [Nat.gcd_comm, ← Nat.gcd_rec, Nat.gcd_comm]; exact hg⟩
    · have e : m = 0 := by omega
      subst e
      rw [Nat.gcd_zero_right] at hg
      have hb0 : 0 < b := by omega
      have hx0 : 0 < x := by rw [hg]; exact Nat.gcd_pos_of_pos_right _ hb0
      have hxb : x ≤ b := by rw [hg]; exact Nat.gcd_le_right _ hb0
      walk_at "w"
      refine ⟨divX (by omega) ht2, ?_⟩
      walk_at "w"
      refine ⟨divX (by omega) hb2, ?_⟩
      walk_at "w"
      rw [show D.tup [.int ((t : Int) / (x : Int)), .int ((b : Int) / (x : Int))] = fr (((t : Int) : Rat) / ((b : Int) : Rat)) by rw [hg]; exact low_fr h1]
      exact h

theorem ok_law_integer {P : Program} {w : World} {K : PySem.W.Frag} {mg : Str → Option Value} {base : Heap} (T : Txt K mg) (hm : HM T P w base) : FnOk P w K mg base (L2.CX P w) 41 T.a_law_integer T.fd_law_integer ["well", "digits"] (toSp K sp_law_integer) := by
  refine fnD T.F_law_integer sc_law_integer (fun ds S Q E h => ?_) (fun cdv A outer s H E RX hr => ⟨_, (pds_cons (pd_set 2 sc_law_integer.nd (pd_call (takes_of rfl rfl rfl rfl) (ok_law_draw T hm) (hr.mono (by decide)) T.m_law_draw T.F_law_draw.kp T.d_law_draw (pda_cons (pd_var 0) (pda_cons pd_int pda_nil))))
    (pds_cons (pd_ifS (pdt_cmp od_lt (pd_var 2) pd_int) (pds_one (pd_ret (pd_call (takes_of rfl rfl rfl rfl) (ok_law_draw T hm) (hr.mono (by decide)) T.m_law_draw T.F_law_draw.kp T.d_law_draw (pda_cons (pd_var 0) (pda_cons (pd_ix (pd_lst (pda_cons pd_int (pda_cons pd_int (pda_cons pd_int pda_nil)))) (pd_var 2)) pda_nil))))) pds_nil)
    (pds_cons (pd_ifS (pdt_cmp (od_eq hr.units) (pd_var 2) pd_int) (pds_one (pd_ret (pd_bin od_sub (pd_bin od_sub (pd_call (takes_of rfl rfl rfl rfl) (ok_law_power T) (hr.mono (by decide)) T.m_law_power T.F_law_power.kp T.d_law_power (pda_cons pd_int (pda_cons (pd_var 1) pda_nil))) pd_int) (pd_call (takes_of rfl rfl rfl rfl) (ok_law_draw T hm) (hr.mono (by decide)) T.m_law_draw T.F_law_draw.kp T.d_law_draw (pda_cons (pd_var 0) (pda_cons pd_int pda_nil)))))) pds_nil)
    (pds_one (pd_ret (pd_call (takes_of rfl rfl rfl rfl) (ok_law_draw T hm) (hr.mono (by decide)) T.m_law_draw T.F_law_draw.kp T.d_law_draw (pda_cons (pd_var 0) (pda_cons (pd_call (takes_of rfl rfl rfl rfl) (ok_law_power T) (hr.mono (by decide)) T.m_law_power T.F_law_power.kp T.d_law_power (pda_cons pd_int (pda_cons (pd_bin od_add pd_int (pd_call (takes_of rfl rfl rfl rfl) (ok_law_draw T hm) (hr.mono (by decide)) T.m_law_draw T.F_law_draw.kp T.d_law_draw (pda_cons (pd_var 0) (pda_cons (pd_var 1) pda_nil)))) pda_nil))) pda_nil)))))))), fun ds S Q h => ?_⟩)
  · obtain ⟨_, _, _, rfl, _⟩ := h
    rfl
  · obtain ⟨a, k, c, rfl, hd0, hc, hk1, hk2, h⟩ := h
    have x0 := ExtB.refl a S
    walk_at "w"
    refine ⟨a, 5, _, rfl, hd0, by omega, by decide, ?_⟩
    rintro f S1 f0 f1 hd1 g1
    have x1 := x0.trans (ExtB.of g1)
    walk_at "w"
    refine IFB.p (fun c1 => ?_) (fun c1 => ?_)
    · skip
      walk_at "w"
      intro p hp
      generalize hSS : DL.sup S1 p _ = S2
      obtain ⟨ep, yp, -⟩ := sup_of hSS
      have yp := yp hp
      have np := hd1.ne hp
      have hd2 := hd1.ext yp
      have x2 := x1.trans (ExtB.ext yp)
      clear hSS
      walk_at "w"
      obtain ⟨u, eu, hu0, hu1⟩ : ∃ u : Int, atI [D.int 2, .int 7, .int 60] f = some (.int u) ∧ 0 < u ∧ u ≤ 60 := by
        obtain ⟨n, rfl⟩ := Int.eq_ofNat_of_zero_le f0
        have hn : n < 3 := by omega
        match n, hn with
        | 0, _ => exact ⟨2, rfl, by decide, by decide⟩
        | 1, _ => exact ⟨7, rfl, by decide, by decide⟩
        | 2, _ => exact ⟨60, rfl, by decide, by decide⟩
      refine ⟨_, _, .inl ⟨p, rfl, ep⟩, eu, ?_⟩
      walk_at "w"
      refine ⟨a, u, _, rfl, hd2, by omega, hu0, ?_⟩
      rintro v S3 v0 v1 hd3 g3
      have x3 := x2.trans (ExtB.of g3)
      walk_at "w"
      exact h v S3 v0 (fun j _ j2 => tb_of v0 (Int.lt_of_lt_of_le (show v < 10 ^ 2 by have h100 : (10 : Int) ^ 2 = 100 := rfl; omega) (p10_mono j2))) (hd3.mono (by omega)) x3
    · walk_at "w"
      refine IFB.p (fun c2 => ?_) (fun c2 => ?_)
      · skip
        walk_at "w"
        refine ⟨k, rfl, by omega, ?_⟩
        walk_at "w"
        refine ⟨a, 9, _, rfl, hd1, by omega, by decide, ?_⟩
        rintro v S2 v0 v1 hd2 g2
        have x2 := x1.trans (ExtB.of g2)
        walk_at "w"
        have h2 := p10_ge hk1
        exact h _ S2 (by omega) (fun j j1 _ => tb_of (by omega) (by have := p10_mono j1; omega)) (hd2.mono (by omega)) x2
      · skip
        walk_at "w"
        refine ⟨a, _, _, rfl, hd1, by omega, by omega, ?_⟩
        rintro v S2 v0 v1 hd2 g2
        have x2 := x1.trans (ExtB.of g2)
        walk_at "w"
        obtain ⟨n, hn⟩ : ∃ n : Nat, 1 + v = (n : Int) := ⟨(1 + v).toNat, by omega⟩
        have hnk : n ≤ k := by omega
        rw [hn]
        refine ⟨n, rfl, by omega, ?_⟩
        walk_at "w"
        refine ⟨a, _, _, rfl, hd2, by omega, p10_pos n, ?_⟩
        rintro z S3 z0 z1 hd3 g3
        have x3 := x2.trans (ExtB.of g3)
        walk_at "w"
        exact h z S3 z0 (fun j j1 _ => tb_of z0 (by have := p10_mono (show n ≤ j by omega); omega)) (hd3.mono (by omega)) x3

theorem ok_law_number {P : Program} {w : World} {K : PySem.W.Frag} {mg : Str → Option Value} {base : Heap} (T : Txt K mg) (hm : HM T P w base) : FnOk P w K mg base (L2.CX P w) 42 T.a_law_number T.fd_law_number ["well", "digits"] (toSp K sp_law_number) := by
  refine fnD T.F_law_number sc_law_number (fun ds S Q E h => ?_) (fun cdv A outer s H E RX hr => ⟨_, (pds_cons (pd_set 2 sc_law_number.nd (pd_ix (pd_lst (pda_cons pd_int (pda_cons (pd_bin od_add pd_int (pd_call (takes_of rfl rfl rfl rfl) (ok_law_draw T hm) (hr.mono (by decide)) T.m_law_draw T.F_law_draw.kp T.d_law_draw (pda_cons (pd_var 0) (pda_cons pd_int pda_nil)))) (pda_cons (pd_blt (cd_max2 rfl) T.b_max (by decide +kernel) (pda_cons pd_int (pda_cons (pd_call (takes_of rfl rfl rfl rfl) (ok_law_integer T hm) (hr.mono (by decide)) T.m_law_integer T.F_law_integer.kp T.d_law_integer (pda_cons (pd_var 0) (pda_cons (pd_var 1) pda_nil))) pda_nil))) pda_nil)))) (pd_call (takes_of rfl rfl rfl rfl) (ok_law_draw T hm) (hr.mono (by decide)) T.m_law_draw T.F_law_draw.kp T.d_law_draw (pda_cons (pd_var 0) (pda_cons pd_int pda_nil)))))
    (pds_one (pd_ret (pd_call (takes_of rfl rfl rfl rfl) (ok_law_low T) (hr.mono (by decide)) T.m_law_low T.F_law_low.kp T.d_law_low (pda_cons (pd_call (takes_of rfl rfl rfl rfl) (ok_law_integer T hm) (hr.mono (by decide)) T.m_law_integer T.F_law_integer.kp T.d_law_integer (pda_cons (pd_var 0) (pda_cons (pd_var 1) pda_nil))) (pda_cons (pd_var 2) pda_nil)))))), fun ds S Q h => ?_⟩)
  · obtain ⟨_, _, rfl, _⟩ := h
    rfl
  · obtain ⟨a, c, rfl, hd0, hc, h⟩ := h
    have x0 := ExtB.refl a S
    walk_at "w"
    refine ⟨a, 60, _, rfl, hd0, by omega, by decide, ?_⟩
    rintro f S1 f0 f1 hd1 g1
    have x1 := x0.trans (ExtB.of g1)
    walk_at "w"
    refine ⟨a, 30, _, rfl, hd1, by omega, by decide, by decide, ?_⟩
    rintro i S2 i0 i1 hd2 z2
    have x2 := x1.trans z2
    walk_at "w"
    intro p hp
    generalize hSS : DL.sup S2 p _ = S3
    obtain ⟨ep, yp, -⟩ := sup_of hSS
    have yp := yp hp
    have np := hd2.ne hp
    have hd3 := hd2.ext yp
    have x3 := x2.trans (ExtB.ext yp)
    clear hSS
    walk_at "w"
    refine ⟨a, 3, _, rfl, hd3, by omega, by decide, ?_⟩
    rintro g S4 g0 g1 hd4 g4
    have x4 := x3.trans (ExtB.of g4)
    walk_at "w"
    have hi := i1 30 (by decide) (by decide)
    obtain ⟨u, eu, hu0, hu1⟩ : ∃ u : Int, atI [D.int 1, .int (1 + f), .int (if i > 1 then i else 1)] g = some (.int u) ∧ 0 < u ∧ TB 30 u := by
      obtain ⟨n, rfl⟩ := Int.eq_ofNat_of_zero_le g0
      have hn : n < 3 := by omega
      match n, hn with
      | 0, _ => exact ⟨1, rfl, by decide, by unfold TB; decide⟩
      | 1, _ => exact ⟨1 + f, rfl, by omega, tb30 (u := 100) (by omega) (by omega) (by decide)⟩
      | 2, _ =>
        by_cases q : i > 1
        · exact ⟨i, by rw [if_pos q]; rfl, by omega, hi⟩
        · exact ⟨1, by rw [if_neg q]; rfl, by decide, by unfold TB; decide⟩
    refine ⟨_, _, .inl ⟨p, rfl, (g4 p np).trans ep⟩, eu, ?_⟩
    walk_at "w"
    refine ⟨a, 30, _, rfl, hd4, by omega, by decide, by decide, ?_⟩
    rintro t S5 t0 t1 hd5 z5
    have x5 := x4.trans z5
    walk_at "w"
    have ht := t1 30 (by decide) (by decide)
    refine ⟨t, u, rfl, t0, hu0, ht.mono (by decide), hu1.mono (by decide), ?_⟩
    exact h _ S5 (nm_of t0 hu0 ht hu1) (hd5.mono (by omega)) x5
end K41
set_option Elab.async false
set_option linter.all false
set_option maxRecDepth 100000
set_option maxHeartbeats 4000000
namespace K41
open PySem PySem.Spec PyProof.Rows L2 DL
local macro_rules | `(tactic| walk_at "w") => `(tactic| conv => whnf)
local macro_rules | `(tactic| walk_at "g") => `(tactic| ((conv => whnf); repeat' (first | (refine IFB.t ?_ ?_; rfl; conv => whnf) | (refine IFB.f ?_ ?_; rfl; conv => whnf))))
set_option exponentiation.threshold 20000

def okS : Nat → D → Prop
  | _, .int _ => True
  | _, .str _ => True
  | n + 1, .tup xs => xs.length ≤ 1000 ∧ ∀ x ∈ xs, okS n x
  | _, _ => False
def sp_sameN : Nat → DSp
  | 0 => fun _ _ _ _ => False
  | n + 1 => fun ds S Q _ => ∃ t, ds = [t, t] ∧ okS n t ∧ Q (.bl true) S
def sp_law_same : DSp := sp_sameN 5
def Tk (t : Nat) (ws : List Int) (W : Int) (lf : Int) (m : Nat) : Prop := ws.length = t ∧ (∀ w ∈ ws, 0 < w) ∧ ws.sum + lf = W ∧ (m : Int) - (t : Int) ≤ lf
def sp_law_place : DSp := fun ds S Q _ => ∃ (a : Addr) (n m c : Int), ds = [.ref a, .int n, .int m] ∧ WellD S a c ∧ c < 850000 ∧ 0 < n ∧ 0 ≤ m ∧ ∀ (p : Bool × Int) S', PV n m p → WellD S' a (c + 2) → ExtB a S S' → Q (pD p) S'
def sp_law_signs : DSp := fun ds S Q _ => ∃ (a : Addr) (m : Nat) (c : Int), ds = [.ref a, .int (m : Int)] ∧ WellD S a c ∧ c < 800000 ∧ m ≤ 400 ∧ ∀ (l : List Int) S', Zs l → l.length = m → WellD S' a (c + 410) → ExtB a S S' → Q (tI l) S'
def sp_law_rows : DSp := fun ds S Q _ => ∃ (a : Addr) (m w k : Nat) (c : Int), ds = [.ref a, .int (m : Int), .int (w : Int), .int (k : Int)] ∧ WellD S a c ∧ c < 800000 ∧ m ≤ 60 ∧ w ≤ 45 ∧ 1 ≤ k ∧ k ≤ 30 ∧ ∀ (rs : List (List Int)) S', (∀ r ∈ rs, r.length = w ∧ ∀ i ∈ r, Nn i) → rs.length = m → WellD S' a (c + 10000) → ExtB a S S' → Q (.tup (rs.map tI)) S'
def sp_law_shares : DSp := fun ds S Q _ => ∃ (a : Addr) (m : Nat) (c : Int), ds = [.ref a, .int (m : Int), .int 29] ∧ WellD S a c ∧ c < 800000 ∧ 1 ≤ m ∧ m ≤ 45 ∧ ∀ (l : List (Int × Int)) S', Shs l → WellD S' a (c + 100) → ExtB a S S' → Q (.tup (l.map nD)) S'
def sp_law_cell : DSp := fun ds S Q _ => ∃ (a : Addr) (k : Nat) (c : Int), ds = [.ref a, .int (k : Int)] ∧ WellD S a c ∧ c < 850000 ∧ 1 ≤ k ∧ k ≤ 30 ∧ ∀ (x : Int × (Int × Int) × Int) S', Ce x → WellD S' a (c + 12) → ExtB a S S' → Q (cD x) S'
def sp_law_machine : DSp := fun ds S Q _ => ∃ (a : Addr) (c : Int), ds = [.ref a, .int 40, .int 180] ∧ WellD S a c ∧ c < 800000 ∧ ∀ n b rs S', Mv n b rs → Nn n → WellD S' a (c + 1000) → ExtB a S S' → Q (.tup [.int n, pD b, .tup (rs.map sD)]) S'
theorem zo_of {d : Int} (h0 : 0 ≤ d) (h1 : d < 2) : ZO d := by unfold ZO; omega
theorem shs_of {W : Int} {ws : List Int} (h1 : ws ≠ []) (h2 : ws.length ≤ 45) (h3 : ∀ w ∈ ws, 0 < w) (hs : ws.sum = W) (hW : 0 < W) (hT : TB 30 W) : Shs ((dvs W ws).map pq) := by
  have hle : ∀ w ∈ ws, w ≤ W := by
    have key : ∀ l : List Int, (∀ w ∈ l, 0 < w) → 0 ≤ l.sum ∧ ∀ w ∈ l, w ≤ l.sum := by
      intro l
      induction l with
      | nil => intro _; exact ⟨by simp, fun w hw => absurd hw List.not_mem_nil⟩
      | cons a l ih =>
        intro h
        obtain ⟨i0, i1⟩ := ih fun w hw => h w (List.mem_cons_of_mem _ hw)
        have ha := h a (List.mem_cons_self ..)
        rw [List.sum_cons]
        refine ⟨by omega, fun w hw => ?_⟩
        rcases List.mem_cons.mp hw with rfl | hw
        · omega
        · have := i1 w hw; omega
    intro w hw
    rw [← hs]
    exact (key ws h3).2 w hw
  have hN : ∀ p ∈ (dvs W ws).map pq, Nm p := fun p hp => by
    obtain ⟨q, hq, rfl⟩ := List.mem_map.mp hp
    obtain ⟨w, hw, rfl⟩ := List.mem_map.mp hq
    have h4 := h3 w hw
    have h5 := hle w hw
    exact nm_of (by omega) hW (by unfold TB at hT ⊢; omega) hT
  refine ⟨⟨fun e => h1 (List.map_eq_nil_iff.mp (List.map_eq_nil_iff.mp e)), by rw [List.length_map]; unfold dvs; rw [List.length_map]; omega, hN⟩, dvs W ws, W, rfl, ?_, ?_⟩
  · rw [← hs]
    exact dvs_sh h1 h3 (by rw [hs]; exact hW)
  · unfold TB at hT
    exact Nat.lt_trans hT (by decide +kernel)
theorem np_D (q : Rat) : nD (pq q) = fr q := rfl
theorem bar_eq {q : Rat} (h : (q.num = (q.den : Int))) : q.num = 1 ∧ (q.den : Int) = 1 := by
  have hc := q.reduced
  rw [h] at hc
  have : Nat.gcd q.den q.den = 1 := hc
  rw [Nat.gcd_self] at this
  omega
theorem bar_le {t b : Int} (h0 : 0 < t) (h1 : t ≤ b) : 0 < ((t : Rat) / (b : Rat)).num ∧ ((t : Rat) / (b : Rat)).num ≤ (((t : Rat) / (b : Rat)).den : Int) := by
  have hb : 0 < b := by omega
  have e1 := low_num (t := t) hb
  have e2 := low_den (t := t) hb
  have g1 : 0 < Nat.gcd t.natAbs b.natAbs := Nat.gcd_pos_of_pos_right _ (by omega)
  have g2 : ((Nat.gcd t.natAbs b.natAbs : Nat) : Int) ∣ t := by
    have z := Int.natCast_dvd_natCast.mpr (Nat.gcd_dvd_left t.natAbs b.natAbs)
    rw [show ((t.natAbs : Nat) : Int) = t by omega] at z
    exact z
  rw [← e1, ← e2]
  have g3 : (0 : Int) < ((Nat.gcd t.natAbs b.natAbs : Nat) : Int) := by omega
  refine ⟨?_, Int.ediv_le_ediv g3 h1⟩
  exact Int.ediv_pos_of_pos_of_dvd h0 (by omega) g2
theorem rec_law_same {P : Program} {w : World} {K : PySem.W.Frag} {mg : Str → Option Value} {base : Heap} (T : Txt K mg) (n : Nat) : FnOk P w K mg base (L2.CX P w) n T.a_law_same T.fd_law_same ["told", "due"] (toSp K (sp_sameN n)) := by
  induction n with
  | zero => exact fnok0.imp fun vs H Q E ⟨_, _, _, _, _, _, h, _⟩ => h.elim
  | succ n ih =>
    refine fnE (k := n) (sp := sp_sameN (n + 1)) T.F_law_same sc_law_same (fun ds S Q E h => ?_) (fun cdv A outer s H E RX hr => ⟨_, (pds_cons (pd_ifS (pdt_cmp od_is (pd_var 1) pd_non) (pds_one (pd_ret (pd_cmp od_is (pd_var 0) pd_non))) pds_nil)
      (pds_cons (pd_ifS (pdt_tru (pd_isi1 .bool (pd_var 1) T.b_isinstance T.b_bool)) (pds_one (pd_ret (pd_if (pdt_tru (pd_var 1)) (pd_cmp od_isB (pd_var 0) pd_bl) (pd_cmp od_isB (pd_var 0) pd_bl)))) pds_nil)
      (pds_cons (pd_ifS (pdt_tru (pd_isi1 .int (pd_var 1) T.b_isinstance T.b_int)) (pds_one (pd_ret (pd_and (pd_isi1 .int (pd_var 0) T.b_isinstance T.b_int) (pd_and (pd_not (pd_isi1 .bool (pd_var 0) T.b_isinstance T.b_bool)) (pd_one (pd_cmp (od_eq hr.units) (pd_var 0) (pd_var 1))))))) pds_nil)
      (pds_cons (pd_ifS (pdt_tru (pd_isi1 .str (pd_var 1) T.b_isinstance T.b_str)) (pds_one (pd_ret (pd_and (pd_isi1 .str (pd_var 0) T.b_isinstance T.b_str) (pd_one (pd_cmp (od_eq hr.units) (pd_var 0) (pd_var 1)))))) pds_nil)
      (pds_cons (pd_ifS (PDW.pt (pdw_or (pdt_cmp (od_ne hr.units) (pd_isi1 .tup (pd_var 1) T.b_isinstance T.b_tuple) (pd_isi1 .tup (pd_var 0) T.b_isinstance T.b_tuple)) (pdw_or1 (pdt_cmp (od_ne hr.units) (pd_isi1 .lst (pd_var 1) T.b_isinstance T.b_list) (pd_isi1 .lst (pd_var 0) T.b_isinstance T.b_list))))) (pds_one (pd_ret pd_bl)) pds_nil)
      (pds_one (pd_ret (pd_and (pd_cmp (od_eq hr.units) (pd_blt cd_len T.b_len (by decide +kernel) (pda_cons (pd_var 0) pda_nil)) (pd_blt cd_len T.b_len (by decide +kernel) (pda_cons (pd_var 1) pda_nil))) (pd_one (pd_blt (cd_all rfl) T.b_all (by decide +kernel) (pda_cons (pd_lc (own := [("k", 2)]) (p := .n 2) rfl sc_law_same.nd (pdi_range1 T.b_range (pda_cons (pd_blt cd_len T.b_len (by decide +kernel) (pda_cons (pd_var 1) pda_nil)) pda_nil)) (blkOk_by (N := ["told", "due", "k"]) (sc := defScope s_law_same) (own := [("k", 2)]) (by decide +kernel)) (fun _ _ _ _ _ => (pg_name (i := 2) sc_law_same.nd rfl (by first | exact Or.inl rfl | exact Or.inr rfl))) (fun _ _ _ _ _ => pdts_nil) (fun _ _ _ _ _ => (pd_call takes0 ih hr T.m_law_same T.F_law_same.kp T.d_law_same (pda_cons (pd_ix (pd_var 0) (pd_var 2)) (pda_cons (pd_ix (pd_var 1) (pd_var 2)) pda_nil))))) pda_nil))))))))))), fun ds S Q h => ?_⟩)
    · obtain ⟨_, rfl, _⟩ := h
      rfl
    · obtain ⟨t, rfl, ht, h⟩ := h
      cases t with
      | int i =>
        walk_at "g"
        rw [decide_eq_true rfl]
        exact ⟨S, Ext.refl _, h⟩
      | str s =>
        walk_at "g"
        rw [decide_eq_true rfl]
        exact ⟨S, Ext.refl _, h⟩
      | tup xs =>
        cases n with
        | zero => exact (show False from ht).elim
        | succ n =>
          obtain ⟨hl, hq⟩ : xs.length ≤ 1000 ∧ ∀ x ∈ xs, okS n x := ht
          walk_at "g"
          refine IFB.t (decide_eq_true rfl) ?_
          walk_at "w"
          refine ⟨⟨by omega, by omega⟩, ?_⟩
          refine lc_rgm (fun _ => D.bl true) ?_ ?_
          · rintro i acc S2 hi w2
            have hi' : i < xs.length := by omega
            walk_at "w"
            rw [show (0 : Int) + (i : Int) = (i : Int) from Int.zero_add _]
            refine IFB.t rfl ?_
            walk_at "w"
            refine ⟨xs[i], atI_nat (List.getElem?_eq_getElem hi'), ?_⟩
            walk_at "w"
            refine ⟨xs[i], atI_nat (List.getElem?_eq_getElem hi'), ?_⟩
            walk_at "w"
            refine ⟨xs[i], rfl, hq _ (List.getElem_mem hi'), ?_⟩
            exact lc_leaf hi w2 (by show _ ≤ 16777216; omega) rfl (Ext.refl _)
          · rintro S2 v ex hv
            walk_at "w"
            refine ⟨(List.range (xs.length : Int).toNat).map fun _ => true, .inl ⟨_, rfl, by rw [sup_same, List.map_map]; rfl⟩, ?_⟩
            rw [show ((List.range (xs.length : Int).toNat).map fun _ => true).all id = true by simp]
            exact ⟨S, ex.trans (Ext.new hv _), h⟩
      | _ => exact (show False from by cases n <;> exact ht).elim
theorem ok_law_same {P : Program} {w : World} {K : PySem.W.Frag} {mg : Str → Option Value} {base : Heap} (T : Txt K mg) : FnOk P w K mg base (L2.CX P w) 5 T.a_law_same T.fd_law_same ["told", "due"] (toSp K sp_law_same) := rec_law_same T 5
theorem ok_law_place {P : Program} {w : World} {K : PySem.W.Frag} {mg : Str → Option Value} {base : Heap} (T : Txt K mg) (hm : HM T P w base) : FnOk P w K mg base (L2.CX P w) 41 T.a_law_place T.fd_law_place ["well", "things", "states"] (toSp K sp_law_place) := by
  refine fnD T.F_law_place sc_law_place (fun ds S Q E h => ?_) (fun cdv A outer s H E RX hr => ⟨_, (pds_cons (pd_ifS (PDW.pt (pdw_or (pdt_cmp (od_eq hr.units) (pd_var 2) pd_int) (pdw_or1 (pdt_cmp (od_eq hr.units) (pd_call (takes_of rfl rfl rfl rfl) (ok_law_draw T hm) (hr.mono (by decide)) T.m_law_draw T.F_law_draw.kp T.d_law_draw (pda_cons (pd_var 0) (pda_cons pd_int pda_nil))) pd_int)))) (pds_one (pd_ret (pd_tup (pda_cons pd_str (pda_cons (pd_call (takes_of rfl rfl rfl rfl) (ok_law_draw T hm) (hr.mono (by decide)) T.m_law_draw T.F_law_draw.kp T.d_law_draw (pda_cons (pd_var 0) (pda_cons (pd_var 1) pda_nil))) pda_nil))))) pds_nil)
    (pds_one (pd_ret (pd_tup (pda_cons pd_str (pda_cons (pd_call (takes_of rfl rfl rfl rfl) (ok_law_draw T hm) (hr.mono (by decide)) T.m_law_draw T.F_law_draw.kp T.d_law_draw (pda_cons (pd_var 0) (pda_cons (pd_var 2) pda_nil))) pda_nil)))))), fun ds S Q h => ?_⟩)
  · obtain ⟨_, _, _, _, rfl, _⟩ := h
    rfl
  · obtain ⟨a, n, m, c, rfl, hd0, hc, hn0, hm0, h⟩ := h
    have x0 := ExtB.refl a S
    have is_ : ∀ (S1 : Sto) (c1 : Int), WellD S1 a c1 → c1 ≤ c + 1 → ExtB a S S1 → sp_law_draw [.ref a, .int n] S1 (fun d S' => Q (.tup [.str "is", d]) S') (fun _ _ _ => False) := fun S1 c1 hd1 hc1 x1 => ⟨a, n, c1, rfl, hd1, by omega, hn0, fun f S2 f0 f1 hd2 g2 => h (false, f) S2 ⟨f0, f1⟩ (hd2.mono (by omega)) (x1.trans (ExtB.of g2))⟩
    walk_at "w"
    refine IFB.p (fun c1 => ?_) (fun c1 => ?_)
    · walk_at "g"
      exact is_ S c hd0 (by omega) x0
    · have hm2 : 0 < m := by omega
      walk_at "w"
      refine ⟨a, 2, _, rfl, hd0, by omega, by decide, ?_⟩
      rintro f S1 f0 f1 hd1 g1
      have x1 := x0.trans (ExtB.of g1)
      walk_at "w"
      refine IFB.p (fun c2 => ?_) (fun c2 => ?_)
      · walk_at "g"
        exact is_ S1 _ hd1 (by omega) x1
      · walk_at "g"
        exact ⟨a, m, _, rfl, hd1, by omega, hm2, fun f S2 f0 f1 hd2 g2 => h (true, f) S2 ⟨f0, f1⟩ (hd2.mono (by omega)) (x1.trans (ExtB.of g2))⟩

theorem ok_law_signs {P : Program} {w : World} {K : PySem.W.Frag} {mg : Str → Option Value} {base : Heap} (T : Txt K mg) (hm : HM T P w base) : FnOk P w K mg base (L2.CX P w) 41 T.a_law_signs T.fd_law_signs ["well", "many"] (toSp K sp_law_signs) := by
  refine fnD T.F_law_signs sc_law_signs (fun ds S Q E h => ?_) (fun cdv A outer s H E RX hr => ⟨_, (pds_cons (pd_set 2 sc_law_signs.nd (pd_call (takes_of rfl rfl rfl rfl) (ok_law_draw T hm) (hr.mono (by decide)) T.m_law_draw T.F_law_draw.kp T.d_law_draw (pda_cons (pd_var 0) (pda_cons pd_int pda_nil))))
    (pds_one (pd_ret (pd_bltTy cd_tuple T.b_tuple (by decide +kernel) (pda_cons (pd_lc (own := [("turn", 3)]) (p := .n 3) rfl sc_law_signs.nd (pdi_range1 T.b_range (pda_cons (pd_var 1) pda_nil)) (blkOk_by (N := ["well", "many", "alike", "turn"]) (sc := defScope s_law_signs) (own := [("turn", 3)]) (by decide +kernel)) (fun _ _ _ _ _ => (pg_name (i := 3) sc_law_signs.nd rfl (by first | exact Or.inl rfl | exact Or.inr rfl))) (fun _ _ _ _ _ => pdts_nil) (fun _ _ _ _ _ => (pd_if (pdt_cmp od_gt (pd_var 2) pd_int) (pd_call takes0 (ok_law_draw T hm) (hr.mono (by decide)) T.m_law_draw T.F_law_draw.kp T.d_law_draw (pda_cons (pd_var 0) (pda_cons pd_int pda_nil))) (pd_var 2)))) pda_nil))))), fun ds S Q h => ?_⟩)
  · obtain ⟨_, _, _, rfl, _⟩ := h
    rfl
  · obtain ⟨a, m, c, rfl, hd0, hc, hm, h⟩ := h
    have x0 := ExtB.refl a S
    walk_at "w"
    refine ⟨a, 4, _, rfl, hd0, by omega, by decide, ?_⟩
    rintro f S1 f0 f1 hd1 g1
    have x1 := x0.trans (ExtB.of g1)
    walk_at "w"
    refine ⟨⟨by omega, by omega⟩, ?_⟩
    refine lc_rgW (fun i acc S' => ∃ l : List Int, acc = l.map D.int ∧ l.length = i ∧ (∀ z ∈ l, ZO z) ∧ WellD S' a (c + 1 + (i : Int)) ∧ ExtB a S S') ⟨[], rfl, rfl, (fun _ z => nomatch z), hd1.mono (by omega), x1⟩ ?_ ?_
    · rintro i acc T hi ⟨l, rfl, hl, hb, hdT, xT⟩
      have hi : i < 400 := by omega
      walk_at "w"
      refine IFB.t rfl ?_
      walk_at "w"
      refine IFB.p (fun c1 => ?_) (fun c1 => ?_)
      · walk_at "w"
        refine ⟨a, 2, _, rfl, hdT, by omega, by decide, ?_⟩
        rintro d T2 d0 d1 hdT2 gT2
        walk_at "w"
        refine ⟨by rw [List.length_map]; show _ < 16777216; omega, l ++ [d], by rw [List.map_append]; rfl, by rw [List.length_append, hl]; rfl, fun z hz => ?_, hdT2.mono (by omega), xT.trans (ExtB.of gT2)⟩
        rcases List.mem_append.mp hz with q | q
        · exact hb z q
        · rw [List.mem_singleton.mp q]; exact zo_of d0 d1
      · walk_at "w"
        refine ⟨by rw [List.length_map]; show _ < 16777216; omega, l ++ [f], by rw [List.map_append]; rfl, by rw [List.length_append, hl]; rfl, fun z hz => ?_, hdT.mono (by omega), xT⟩
        rcases List.mem_append.mp hz with q | q
        · exact hb z q
        · rw [List.mem_singleton.mp q]; exact zo_of f0 (by omega)
    · rintro T p acc ⟨l, rfl, hl, hb, hdT, xT⟩ hp
      generalize hSS : DL.sup T p _ = T2
      obtain ⟨e2, y2, -⟩ := sup_of hSS
      have y2 := y2 hp
      clear hSS
      walk_at "w"
      refine ⟨_, .inl ⟨p, rfl, e2⟩, ?_⟩
      exact h l T2 ⟨hb, by omega⟩ (by omega) ((hdT.ext y2).mono (by omega)) (xT.trans (ExtB.ext y2))

theorem ok_law_rows {P : Program} {w : World} {K : PySem.W.Frag} {mg : Str → Option Value} {base : Heap} (T : Txt K mg) (hm : HM T P w base) : FnOk P w K mg base (L2.CX P w) 42 T.a_law_rows T.fd_law_rows ["well", "many", "wide", "digits"] (toSp K sp_law_rows) := by
  refine fnD T.F_law_rows sc_law_rows (fun ds S Q E h => ?_) (fun cdv A outer s H E RX hr => ⟨_, (pds_one (pd_ret (pd_bltTy cd_tuple T.b_tuple (by decide +kernel) (pda_cons (pd_lc (own := [("row", 4)]) (p := .n 4) rfl sc_law_rows.nd (pdi_range1 T.b_range (pda_cons (pd_var 1) pda_nil)) (blkOk_by (N := ["well", "many", "wide", "digits", "row", "turn"]) (sc := defScope s_law_rows) (own := [("row", 4)]) (by decide +kernel)) (fun _ _ _ _ _ => (pg_name (i := 4) sc_law_rows.nd rfl (by first | exact Or.inl rfl | exact Or.inr rfl))) (fun _ _ _ _ _ => pdts_nil) (fun _ _ _ _ _ => (pd_bltTy cd_tuple T.b_tuple (by decide +kernel) (pda_cons (pd_lc (own := [("turn", 5)]) (p := .n 5) rfl sc_law_rows.nd (pdi_range1 T.b_range (pda_cons (pd_var 2) pda_nil)) (blkOk_by (by rfl)) (fun _ _ _ _ _ => (pg_name (i := 5) sc_law_rows.nd rfl (by first | exact Or.inl rfl | exact Or.inr rfl))) (fun _ _ _ _ _ => pdts_nil) (fun _ _ _ _ _ => (pd_call takes0 (ok_law_integer T hm) (hr.mono (by decide)) T.m_law_integer T.F_law_integer.kp T.d_law_integer (pda_cons (pd_var 0) (pda_cons (pd_var 3) pda_nil))))) pda_nil)))) pda_nil)))), fun ds S Q h => ?_⟩)
  · obtain ⟨_, _, _, _, _, rfl, _⟩ := h
    rfl
  · obtain ⟨a, m, wd, k, c, rfl, hd0, hc, hm, hwd, hk1, hk2, h⟩ := h
    have x0 := ExtB.refl a S
    walk_at "w"
    refine ⟨⟨by omega, by omega⟩, ?_⟩
    refine lc_rgW (fun i acc S' => ∃ rs : List (List Int), acc = rs.map tI ∧ rs.length = i ∧ (∀ r ∈ rs, r.length = wd ∧ ∀ i ∈ r, Nn i) ∧ WellD S' a (c + 140 * (i : Int)) ∧ ExtB a S S') ⟨[], rfl, rfl, (fun _ z => nomatch z), hd0.mono (by omega), x0⟩ ?_ ?_
    · rintro i acc T hi ⟨rs, rfl, hrl, hrs, hdT, xT⟩
      have hi : i < 60 := by omega
      walk_at "w"
      refine IFB.t rfl ?_
      walk_at "w"
      refine ⟨⟨by omega, by omega⟩, ?_⟩
      refine lc_rgW (fun j acc S' => ∃ l : List Int, acc = l.map D.int ∧ l.length = j ∧ (∀ z ∈ l, Nn z) ∧ WellD S' a (c + 140 * (i : Int) + 3 * (j : Int)) ∧ ExtB a S S') ⟨[], rfl, rfl, (fun _ z => nomatch z), hdT.mono (by omega), xT⟩ ?_ ?_
      · rintro j acc T2 hj ⟨l, rfl, hl, hb, hdT2, xT2⟩
        have hj : j < 45 := by omega
        walk_at "w"
        refine IFB.t rfl ?_
        walk_at "w"
        refine ⟨a, k, _, rfl, hdT2, by omega, hk1, by omega, ?_⟩
        rintro d T3 d0 d1 hdT3 zT3
        refine ⟨by rw [List.length_map]; show _ < 16777216; omega, l ++ [d], by rw [List.map_append]; rfl, by rw [List.length_append, hl]; rfl, fun z hz => ?_, hdT3.mono (by omega), xT2.trans zT3⟩
        rcases List.mem_append.mp hz with q | q
        · exact hb z q
        · rw [List.mem_singleton.mp q]; exact ⟨d0, d1 30 hk2 (by decide)⟩
      · rintro T2 p acc ⟨l, rfl, hl, hb, hdT2, xT2⟩ hp
        generalize hSS : DL.sup T2 p _ = T3
        obtain ⟨e3, y3, -⟩ := sup_of hSS
        have y3 := y3 hp
        clear hSS
        walk_at "w"
        refine ⟨_, .inl ⟨p, rfl, e3⟩, ?_⟩
        refine ⟨by rw [List.length_map]; show _ < 16777216; omega, rs ++ [l], by rw [List.map_append]; rfl, by rw [List.length_append, hrl]; rfl, fun z hz => ?_, (hdT2.ext y3).mono (by omega), xT2.trans (ExtB.ext y3)⟩
        rcases List.mem_append.mp hz with q | q
        · exact hrs z q
        · rw [List.mem_singleton.mp q]; exact ⟨by omega, hb⟩
    · rintro T p acc ⟨rs, rfl, hrl, hrs, hdT, xT⟩ hp
      generalize hSS : DL.sup T p _ = T2
      obtain ⟨e2, y2, -⟩ := sup_of hSS
      have y2 := y2 hp
      clear hSS
      walk_at "w"
      refine ⟨_, .inl ⟨p, rfl, e2⟩, ?_⟩
      exact h rs T2 hrs (by omega) ((hdT.ext y2).mono (by omega)) (xT.trans (ExtB.ext y2))
end K41
set_option Elab.async false
set_option linter.all false
set_option maxRecDepth 100000
set_option maxHeartbeats 4000000
namespace K41
open PySem PySem.Spec PyProof.Rows L2 DL
local macro_rules | `(tactic| walk_at "w") => `(tactic| conv => whnf)
local macro_rules | `(tactic| walk_at "g") => `(tactic| ((conv => whnf); repeat' (first | (refine IFB.t ?_ ?_; rfl; conv => whnf) | (refine IFB.f ?_ ?_; rfl; conv => whnf))))
set_option exponentiation.threshold 20000
theorem ok_law_shares {P : Program} {w : World} {K : PySem.W.Frag} {mg : Str → Option Value} {base : Heap} (T : Txt K mg) (hm : HM T P w base) : FnOk P w K mg base (L2.CX P w) 42 T.a_law_shares T.fd_law_shares ["well", "many", "digits"] (toSp K sp_law_shares) := by
  refine fnD T.F_law_shares sc_law_shares (fun ds S Q E h => ?_) (fun cdv A outer s H E RX hr => ⟨_, (pds_cons (pd_set 3 sc_law_shares.nd (pd_bin od_add (pd_var 1) (pd_ix (pd_lst (pda_cons (pd_call (takes_of rfl rfl rfl rfl) (ok_law_draw T hm) (hr.mono (by decide)) T.m_law_draw T.F_law_draw.kp T.d_law_draw (pda_cons (pd_var 0) (pda_cons pd_int pda_nil))) (pda_cons (pd_call (takes_of rfl rfl rfl rfl) (ok_law_integer T hm) (hr.mono (by decide)) T.m_law_integer T.F_law_integer.kp T.d_law_integer (pda_cons (pd_var 0) (pda_cons (pd_var 2) pda_nil))) pda_nil))) (pd_call (takes_of rfl rfl rfl rfl) (ok_law_draw T hm) (hr.mono (by decide)) T.m_law_draw T.F_law_draw.kp T.d_law_draw (pda_cons (pd_var 0) (pda_cons pd_int pda_nil))))))
    (pds_cons (pd_par 4 5 rfl sc_law_shares.nd (pda_cons (pd_var 3) (pda_cons (pd_lst pda_nil) pda_nil)) rfl)
    (pds_cons (pd_for (passes_of rfl) rfl (pdi_range1 T.b_range (pda_cons (pd_bin od_sub (pd_var 1) pd_int) pda_nil)) (pdg_name 6 sc_law_shares.nd) (pds_cons (pd_set 7 sc_law_shares.nd (pd_bin od_sub (pd_var 4) (pd_bin od_sub (pd_bin od_sub (pd_var 1) pd_int) (pd_var 6))))
    (pds_cons (pd_set 8 sc_law_shares.nd (pd_bin od_add pd_int (pd_call (takes_of rfl rfl rfl rfl) (ok_law_draw T hm) (hr.mono (by decide)) T.m_law_draw T.F_law_draw.kp T.d_law_draw (pda_cons (pd_var 0) (pda_cons (pd_ix (pd_lst (pda_cons (pd_var 7) (pda_cons (pd_blt (cd_min2 rfl) T.b_min (by decide +kernel) (pda_cons (pd_var 7) (pda_cons pd_int pda_nil))) pda_nil))) (pd_call (takes_of rfl rfl rfl rfl) (ok_law_draw T hm) (hr.mono (by decide)) T.m_law_draw T.F_law_draw.kp T.d_law_draw (pda_cons (pd_var 0) (pda_cons pd_int pda_nil)))) pda_nil)))))
    (pds_cons (pd_expr (pd_lm PySem.F.slot_list_append PySem.F.type_list_append md_append (pd_var 5) (pda_cons (pd_call (takes_of rfl rfl rfl rfl) (ok_law_low T) (hr.mono (by decide)) T.m_law_low T.F_law_low.kp T.d_law_low (pda_cons (pd_var 8) (pda_cons (pd_var 3) pda_nil))) pda_nil)))
    (pds_one (pd_set 4 sc_law_shares.nd (pd_bin od_sub (pd_var 4) (pd_var 8))))))))
    (pds_one (pd_ret (pd_bltTy cd_tuple T.b_tuple (by decide +kernel) (pda_cons (pd_bin od_add (pd_var 5) (pd_lst (pda_cons (pd_call (takes_of rfl rfl rfl rfl) (ok_law_low T) (hr.mono (by decide)) T.m_law_low T.F_law_low.kp T.d_law_low (pda_cons (pd_var 4) (pda_cons (pd_var 3) pda_nil))) pda_nil))) pda_nil))))))), fun ds S Q h => ?_⟩)
  · obtain ⟨_, _, _, rfl, _⟩ := h
    rfl
  · obtain ⟨a, m, c, rfl, hd0, hc, hm1, hm2, h⟩ := h
    have x0 := ExtB.refl a S
    walk_at "w"
    refine ⟨a, 60, _, rfl, hd0, by omega, by decide, ?_⟩
    rintro f S1 f0 f1 hd1 g1
    have x1 := x0.trans (ExtB.of g1)
    walk_at "w"
    refine ⟨a, 29, _, rfl, hd1, by omega, by decide, by decide, ?_⟩
    rintro i S2 i0 i1 hd2 z2
    have x2 := x1.trans z2
    walk_at "w"
    intro p hp
    generalize hSS : DL.sup S2 p _ = S3
    obtain ⟨ep, yp, -⟩ := sup_of hSS
    have yp := yp hp
    have np := hd2.ne hp
    have hd3 := hd2.ext yp
    have x3 := x2.trans (ExtB.ext yp)
    clear hSS
    walk_at "w"
    refine ⟨a, 2, _, rfl, hd3, by omega, by decide, ?_⟩
    rintro g S4 g0 g1 hd4 g4
    have x4 := x3.trans (ExtB.of g4)
    walk_at "w"
    have hi := i1 29 (by decide) (by decide)
    obtain ⟨u, eu, hu0, hu1⟩ : ∃ u : Int, atI [D.int f, .int i] g = some (.int u) ∧ 0 ≤ u ∧ TB 29 u := by
      obtain ⟨n, rfl⟩ := Int.eq_ofNat_of_zero_le g0
      have hn : n < 2 := by omega
      match n, hn with
      | 0, _ => exact ⟨f, rfl, f0, tb_of f0 (Int.lt_of_lt_of_le (show f < 100 by omega) (by decide))⟩
      | 1, _ => exact ⟨i, rfl, i0, hi⟩
    refine ⟨_, _, .inl ⟨p, rfl, (g4 p np).trans ep⟩, eu, ?_⟩
    walk_at "w"
    have hW : TB 30 ((m : Int) + u) := by
      have h1 : (10 : Nat) ^ 30 = 10 * 10 ^ 29 := by decide
      have h2 : (45 : Nat) < 10 ^ 29 := by decide
      unfold TB at hu1 ⊢
      omega
    obtain ⟨W, hWe⟩ : ∃ W : Int, (m : Int) + u = W := ⟨_, rfl⟩
    have hWm : (m : Int) ≤ W := by omega
    have hW0 : 0 < W := by omega
    rw [hWe] at hW
    rw [hWe]
    clear hWe hu1 eu
    intro pf hpf
    generalize hSS : DL.sup S4 pf _ = S5
    obtain ⟨epf, ypf, -⟩ := sup_of hSS
    have ypf := ypf hpf
    have npf := hd4.ne hpf
    have hd5 := hd4.ext ypf
    have x5 := x4.trans (ExtB.ext ypf)
    clear hSS
    walk_at "w"
    have hpfN : S pf = none := x4.none_of hpf npf
    refine ⟨⟨by omega, by omega⟩, for_rg (fun t ρ' S' => ∃ (ws : List Int) (lf : Int) (o6 o7 o8 : Option D), ρ' = [some (.ref a), some (.int (m : Int)), some (.int 29), some (.int W), some (.int lf), some (.ref pf), o6, o7, o8] ∧ S' pf = some (.lst ((dvs W ws).map fr)) ∧ ws.length = t ∧ (∀ w ∈ ws, 0 < w) ∧ ws.sum + lf = W ∧ (m : Int) - (t : Int) ≤ lf ∧ lf ≤ W ∧ WellD S' a (c + 6 + 2 * (t : Int)) ∧ ExtB a S S') ⟨[], W, _, _, _, rfl, epf, rfl, (fun _ z => nomatch z), by simp, by omega, Int.le_refl _, hd5.mono (by omega), x5⟩ ?_ ?_⟩
    · rintro t _ T0 ht ⟨ws, lf, o6, o7, o8, rfl, e0, hl, hq, hsum, hlf, hlW, hdt, xt⟩
      have ht2 : t + 1 < m := by omega
      walk_at "w"
      intro q hqq
      generalize hSS : DL.sup T0 q _ = T1
      obtain ⟨eq1, y1, -⟩ := sup_of hSS
      have y1 := y1 hqq
      have nq := hdt.ne hqq
      have hdt1 := hdt.ext y1
      have xt1 := xt.trans (ExtB.ext y1)
      have e1 := y1 _ _ e0
      clear hSS
      walk_at "w"
      refine ⟨a, 2, _, rfl, hdt1, by omega, by decide, ?_⟩
      rintro g' T2 g0' g1' hdt2 gg
      have xt2 := xt1.trans (ExtB.of gg)
      have e2 := (gg pf npf).trans e1
      have eq2 := (gg q nq).trans eq1
      walk_at "w"
      obtain ⟨u2, eu2, hu20, hu21⟩ : ∃ u2 : Int, atI [D.int (lf - ((m : Int) - 1 - (0 + (t : Int)))), .int (if 4 < lf - ((m : Int) - 1 - (0 + (t : Int))) then 4 else lf - ((m : Int) - 1 - (0 + (t : Int))))] g' = some (.int u2) ∧ 0 < u2 ∧ u2 ≤ lf - ((m : Int) - 1 - (t : Int)) := by
        obtain ⟨n, rfl⟩ := Int.eq_ofNat_of_zero_le g0'
        have hn : n < 2 := by omega
        match n, hn with
        | 0, _ => exact ⟨_, rfl, by omega, by omega⟩
        | 1, _ => exact ⟨_, rfl, by split <;> omega, by split <;> omega⟩
      refine ⟨_, _, .inl ⟨q, rfl, eq2⟩, eu2, ?_⟩
      walk_at "w"
      refine ⟨a, u2, _, rfl, hdt2, by omega, hu20, ?_⟩
      rintro v T3 v0 v1 hdt3 gv
      have xt3 := xt2.trans (ExtB.of gv)
      have e3 := (gv pf npf).trans e2
      have hv : TB 30 (1 + v) := by unfold TB at hW ⊢; omega
      walk_at "w"
      refine ⟨⟨_, e3⟩, ?_⟩
      walk_at "w"
      refine ⟨1 + v, W, rfl, by omega, by omega, hv.mono (by decide), hW.mono (by decide), ?_⟩
      walk_at "w"
      refine ⟨_, e3, by unfold dvs; rw [List.length_map, List.length_map]; show _ < 16777216; omega, ?_⟩
      walk_at "w"
      have hpfS : S pf = none := hpfN
      refine ⟨ws ++ [1 + v], lf - (1 + v), _, _, _, rfl, by rw [sup_same]; unfold dvs; rw [List.map_append, List.map_append]; rfl, by rw [List.length_append, hl]; rfl, fun z hz => ?_, by rw [List.sum_append, List.sum_cons, List.sum_nil]; omega, by omega, by omega, (hdt3.put npf).mono (by omega), xt3.wr hpfS⟩
      rcases List.mem_append.mp hz with w | w
      · exact hq z w
      · rw [List.mem_singleton.mp w]; omega
    · rintro _ T0 ⟨ws, lf, o6, o7, o8, rfl, e0, hl, hq, hsum, hlf, hlW, hdt, xt⟩
      have hl2 : ws.length = m - 1 := by omega
      have hlT : TB 30 lf := by unfold TB at hW ⊢; omega
      walk_at "w"
      refine ⟨lf, W, rfl, by omega, by omega, hlT.mono (by decide), hW.mono (by decide), ?_⟩
      walk_at "w"
      intro p1 hp1
      generalize hSS : DL.sup T0 p1 _ = T1
      obtain ⟨e1, y1, -⟩ := sup_of hSS
      have y1 := y1 hp1
      clear hSS
      refine ⟨_, _, y1 _ _ e0, e1, by unfold dvs; rw [List.length_map, List.length_map]; show _ + 1 ≤ 16777216; omega, ?_⟩
      intro p2 hp2
      generalize hSS : DL.sup T1 p2 _ = T2
      obtain ⟨e2, y2, -⟩ := sup_of hSS
      have y2 := y2 hp2
      clear hSS
      walk_at "w"
      refine ⟨_, .inl ⟨p2, rfl, e2⟩, ?_⟩
      have em : (dvs W ws).map fr ++ [fr ((lf : Rat) / (W : Rat))] = ((dvs W (ws ++ [lf])).map pq).map nD := by unfold dvs; rw [List.map_map, List.map_map, List.map_map, List.map_append]; rfl
      rw [em]
      refine h _ T2 (shs_of (by simp) (by rw [List.length_append, hl2]; show m - 1 + 1 ≤ 45; omega) (fun z hz => ?_) (by rw [List.sum_append, List.sum_cons, List.sum_nil]; omega) hW0 hW) (((hdt.ext y1).ext y2).mono (by omega)) (xt.trans (ExtB.ext (y1.trans y2)))
      rcases List.mem_append.mp hz with w | w
      · exact hq z w
      · rw [List.mem_singleton.mp w]; omega

theorem ok_law_cell {P : Program} {w : World} {K : PySem.W.Frag} {mg : Str → Option Value} {base : Heap} (T : Txt K mg) (hm : HM T P w base) : FnOk P w K mg base (L2.CX P w) 42 T.a_law_cell T.fd_law_cell ["well", "digits"] (toSp K sp_law_cell) := by
  refine fnD T.F_law_cell sc_law_cell (fun ds S Q E h => ?_) (fun cdv A outer s H E RX hr => ⟨_, (pds_cons (pd_par 2 3 rfl sc_law_cell.nd (pda_cons (pd_call (takes_of rfl rfl rfl rfl) (ok_law_integer T hm) (hr.mono (by decide)) T.m_law_integer T.F_law_integer.kp T.d_law_integer (pda_cons (pd_var 0) (pda_cons (pd_var 1) pda_nil))) (pda_cons (pd_ix (pd_lst (pda_cons pd_int (pda_cons pd_int (pda_cons (pd_bin od_sub (pd_call (takes_of rfl rfl rfl rfl) (ok_law_power T) (hr.mono (by decide)) T.m_law_power T.F_law_power.kp T.d_law_power (pda_cons pd_int (pda_cons (pd_var 1) pda_nil))) pd_int) pda_nil)))) (pd_call (takes_of rfl rfl rfl rfl) (ok_law_draw T hm) (hr.mono (by decide)) T.m_law_draw T.F_law_draw.kp T.d_law_draw (pda_cons (pd_var 0) (pda_cons pd_int pda_nil)))) pda_nil)) rfl)
    (pds_cons (pd_set 4 sc_law_cell.nd (pd_bin od_add pd_int (pd_call (takes_of rfl rfl rfl rfl) (ok_law_draw T hm) (hr.mono (by decide)) T.m_law_draw T.F_law_draw.kp T.d_law_draw (pda_cons (pd_var 0) (pda_cons (pd_var 3) pda_nil)))))
    (pds_cons (pd_set 5 sc_law_cell.nd (pd_call (takes_of rfl rfl rfl rfl) (ok_law_low T) (hr.mono (by decide)) T.m_law_low T.F_law_low.kp T.d_law_low (pda_cons (pd_bin od_add pd_int (pd_call (takes_of rfl rfl rfl rfl) (ok_law_draw T hm) (hr.mono (by decide)) T.m_law_draw T.F_law_draw.kp T.d_law_draw (pda_cons (pd_var 0) (pda_cons (pd_var 4) pda_nil)))) (pda_cons (pd_var 4) pda_nil))))
    (pds_cons (pd_ifS (pdt_cmp (od_eq hr.units) (pd_var 5) (pd_tup (pda_cons pd_int (pda_cons pd_int pda_nil)))) (pds_one (pd_ret (pd_tup (pda_cons (pd_var 2) (pda_cons (pd_var 5) (pda_cons (pd_var 2) pda_nil)))))) pds_nil)
    (pds_cons (pd_set 6 sc_law_cell.nd (pd_call (takes_of rfl rfl rfl rfl) (ok_law_integer T hm) (hr.mono (by decide)) T.m_law_integer T.F_law_integer.kp T.d_law_integer (pda_cons (pd_var 0) (pda_cons (pd_var 1) pda_nil))))
    (pds_one (pd_ret (pd_tup (pda_cons (pd_var 2) (pda_cons (pd_var 5) (pda_cons (pd_if (pdt_cmp (od_ne hr.units) (pd_var 6) (pd_var 2)) (pd_var 6) (pd_bin od_add (pd_blt (cd_max2 rfl) T.b_max (by decide +kernel) (pda_cons pd_int (pda_cons (pd_bin od_sub (pd_var 2) pd_int) pda_nil))) (pd_bin od_mul pd_int (pd_bltTy cd_int T.b_int (by decide +kernel) (pda_cons (pd_cmp (od_eq hr.units) (pd_var 2) pd_int) pda_nil))))) pda_nil))))))))))), fun ds S Q h => ?_⟩)
  · obtain ⟨_, _, _, rfl, _⟩ := h
    rfl
  · obtain ⟨a, k, c, rfl, hd0, hc, hk1, hk2, h⟩ := h
    have x0 := ExtB.refl a S
    walk_at "w"
    refine ⟨a, k, _, rfl, hd0, by omega, hk1, by omega, ?_⟩
    rintro i S1 i0 i1 hd1 z1
    have x1 := x0.trans z1
    walk_at "w"
    refine ⟨k, rfl, by omega, ?_⟩
    walk_at "w"
    intro p hp
    generalize hSS : DL.sup S1 p _ = S2
    obtain ⟨ep, yp, -⟩ := sup_of hSS
    have yp := yp hp
    have np := hd1.ne hp
    have hd2 := hd1.ext yp
    have x2 := x1.trans (ExtB.ext yp)
    clear hSS
    walk_at "w"
    refine ⟨a, 3, _, rfl, hd2, by omega, by decide, ?_⟩
    rintro g S3 g0 g1 hd3 g3
    have x3 := x2.trans (ExtB.of g3)
    walk_at "w"
    obtain ⟨u, eu, hu0, hu1⟩ : ∃ u : Int, atI [D.int 1, .int 12, .int (10 ^ k - 1)] g = some (.int u) ∧ 0 < u ∧ u ≤ 10 ^ 30 - 1 := by
      have h1 := p10_ge hk1
      have h2 := p10_mono hk2
      obtain ⟨n, rfl⟩ := Int.eq_ofNat_of_zero_le g0
      have hn : n < 3 := by omega
      match n, hn with
      | 0, _ => exact ⟨1, rfl, by decide, by decide⟩
      | 1, _ => exact ⟨12, rfl, by decide, by decide⟩
      | 2, _ => exact ⟨_, rfl, by omega, by omega⟩
    refine ⟨_, _, .inl ⟨p, rfl, (g3 p np).trans ep⟩, eu, ?_⟩
    walk_at "w"
    refine ⟨a, u, _, rfl, hd3, by omega, hu0, ?_⟩
    rintro v S4 v0 v1 hd4 g4
    have x4 := x3.trans (ExtB.of g4)
    walk_at "w"
    refine ⟨a, 1 + v, _, rfl, hd4, by omega, by omega, ?_⟩
    rintro z S5 z0 z1 hd5 g5
    have x5 := x4.trans (ExtB.of g5)
    walk_at "w"
    have hb : TB 30 (1 + v) := tb_of (by omega) (by omega)
    have hz : TB 30 (1 + z) := by unfold TB at hb ⊢; omega
    have hi := i1 30 hk2 (by decide)
    have hNi : Nn i := ⟨i0, hi⟩
    have hbar := bar_le (t := 1 + z) (b := 1 + v) (by omega) (by omega)
    have hnm := nm_of (t := 1 + z) (b := 1 + v) (by omega) (by omega) hz hb
    refine ⟨1 + z, 1 + v, rfl, by omega, by omega, hz.mono (by decide), hb.mono (by decide), ?_⟩
    generalize ((1 + z : Int) : Rat) / ((1 + v : Int) : Rat) = q at hbar hnm ⊢
    walk_at "w"
    refine ⟨tuP [q.num, (q.den : Int)], tuP [1, 1], pyr_tuI [q.num, (q.den : Int)], pyr_tuI [1, 1], shaped_tuP _, shaped_tuP _, ?_⟩
    rw [eqv_tuP]
    walk_at "w"
    refine IFB.p (fun c1 => ?_) (fun c1 => ?_)
    · injection c1 with c1 c2
      injection c2 with c2 _
      walk_at "w"
      exact h (i, pq q, i) S5 ⟨hNi, hnm, hNi, hbar.1, hbar.2, iff_of_true rfl (by show q.num = (q.den : Int); omega)⟩ (hd5.mono (by omega)) x5
    · have hne : ¬ q.num = (q.den : Int) := fun z => by
        obtain ⟨b1, b2⟩ := bar_eq z
        exact c1 (by rw [b1, b2])
      walk_at "w"
      refine ⟨a, k, _, rfl, hd5, by omega, hk1, by omega, ?_⟩
      rintro j S6 j0 j1 hd6 z6
      have x6 := x5.trans z6
      have hNj : Nn j := ⟨j0, j1 30 hk2 (by decide)⟩
      walk_at "w"
      refine IFB.np (fun c2 => ?_) (fun c2 => ?_)
      · walk_at "w"
        exact h (i, pq q, j) S6 ⟨hNi, hnm, hNj, hbar.1, hbar.2, iff_of_false (fun z => c2 z.symm) hne⟩ (hd6.mono (by omega)) x6
      · walk_at "w"
        refine ⟨small_l (by decide) (by decide), ?_⟩
        walk_at "w"
        have hj2 : ∃ j2 : Int, ((if i - 1 > 0 then i - 1 else 0) + 2 * (if decide (i = 0) = true then 1 else 0) : Int) = j2 ∧ Nn j2 ∧ i ≠ j2 := by
          refine ⟨_, rfl, ?_⟩
          have h10 : (10 : Nat) ^ 30 > 5 := by decide
          unfold Nn TB
          unfold TB at hi
          by_cases hi0 : i = 0
          · rw [decide_eq_true hi0, if_neg (show ¬ (i - 1 > 0) by omega), if_pos rfl]; omega
          · rw [decide_eq_false hi0, if_neg (show ¬ (false = true) by decide)]; split <;> omega
        obtain ⟨j2, ej, hN2, hne2⟩ := hj2
        rw [show ((if i - 1 > 0 then i - 1 else 0) + 2 * (if decide (i = 0) = true then 1 else 0) : Int) = j2 from ej]
        exact h (i, pq q, j2) S6 ⟨hNi, hnm, hN2, hbar.1, hbar.2, iff_of_false hne2 hne⟩ (hd6.mono (by omega)) x6

theorem ok_law_machine {P : Program} {w : World} {K : PySem.W.Frag} {mg : Str → Option Value} {base : Heap} (T : Txt K mg) (hm : HM T P w base) : FnOk P w K mg base (L2.CX P w) 42 T.a_law_machine T.fd_law_machine ["well", "most", "more"] (toSp K sp_law_machine) := by
  refine fnD T.F_law_machine sc_law_machine (fun ds S Q E h => ?_) (fun cdv A outer s H E RX hr => ⟨_, (pds_cons (pd_asg (pd_tup (pda_cons (pd_bin od_add pd_int (pd_call (takes_of rfl rfl rfl rfl) (ok_law_draw T hm) (hr.mono (by decide)) T.m_law_draw T.F_law_draw.kp T.d_law_draw (pda_cons (pd_var 0) (pda_cons (pd_var 1) pda_nil)))) (pda_cons (pd_call (takes_of rfl rfl rfl rfl) (ok_law_draw T hm) (hr.mono (by decide)) T.m_law_draw T.F_law_draw.kp T.d_law_draw (pda_cons (pd_var 0) (pda_cons (pd_ix (pd_lst (pda_cons pd_int (pda_cons pd_int (pda_cons (pd_bin od_add (pd_var 1) pd_int) (pda_cons (pd_bin od_add (pd_var 2) pd_int) pda_nil))))) (pd_call (takes_of rfl rfl rfl rfl) (ok_law_draw T hm) (hr.mono (by decide)) T.m_law_draw T.F_law_draw.kp T.d_law_draw (pda_cons (pd_var 0) (pda_cons pd_int pda_nil)))) pda_nil))) pda_nil))) (pdg_tup rfl (pdgs_cons (pdg_name 3 sc_law_machine.nd) (pdgs_cons (pdg_name 4 sc_law_machine.nd) pdgs_nil))))
    (pds_cons (pd_setLc 5 (own := [("row", 6)]) (p := .n 6) rfl sc_law_machine.nd rfl rfl (sw_true rfl rfl rfl (by decide +kernel)) (pdi_range1 T.b_range (pda_cons (pd_var 4) pda_nil)) (blkOk_by (N := ["well", "most", "more", "things", "states", "rows", "row"]) (sc := defScope s_law_machine) (own := [("row", 6)]) (by decide +kernel)) (fun _ _ _ _ _ => (pg_name (i := 6) sc_law_machine.nd rfl (by first | exact Or.inl rfl | exact Or.inr rfl))) (fun _ _ _ _ _ => pdts_nil) (fun _ _ _ _ _ => (pd_tup (pda_cons (pd_call takes0 (ok_law_place T hm) (hr.mono (by decide)) T.m_law_place T.F_law_place.kp T.d_law_place (pda_cons (pd_var 0) (pda_cons (pd_var 3) (pda_cons (pd_var 4) pda_nil)))) (pda_cons (pd_call takes0 (ok_law_place T hm) (hr.mono (by decide)) T.m_law_place T.F_law_place.kp T.d_law_place (pda_cons (pd_var 0) (pda_cons (pd_var 3) (pda_cons (pd_var 4) pda_nil)))) pda_nil)))))
    (pds_one (pd_ret (pd_tup (pda_cons (pd_var 3) (pda_cons (pd_call (takes_of rfl rfl rfl rfl) (ok_law_place T hm) (hr.mono (by decide)) T.m_law_place T.F_law_place.kp T.d_law_place (pda_cons (pd_var 0) (pda_cons (pd_var 3) (pda_cons (pd_var 4) pda_nil)))) (pda_cons (pd_bltTy cd_tuple T.b_tuple (by decide +kernel) (pda_cons (pd_var 5) pda_nil)) pda_nil)))))))), fun ds S Q h => ?_⟩)
  · obtain ⟨_, _, rfl, _⟩ := h
    rfl
  · obtain ⟨a, c, rfl, hd0, hc, h⟩ := h
    have x0 := ExtB.refl a S
    walk_at "w"
    refine ⟨a, 40, _, rfl, hd0, by omega, by decide, ?_⟩
    rintro f S1 f0 f1 hd1 g1
    have x1 := x0.trans (ExtB.of g1)
    walk_at "w"
    intro p hp
    generalize hSS : DL.sup S1 p _ = S2
    obtain ⟨ep, yp, -⟩ := sup_of hSS
    have yp := yp hp
    have np := hd1.ne hp
    have hd2 := hd1.ext yp
    have x2 := x1.trans (ExtB.ext yp)
    clear hSS
    walk_at "w"
    refine ⟨a, 4, _, rfl, hd2, by omega, by decide, ?_⟩
    rintro g S3 g0 g1' hd3 g3
    have x3 := x2.trans (ExtB.of g3)
    walk_at "w"
    obtain ⟨u, eu, hu0, hu1⟩ : ∃ u : Int, atI [D.int 2, .int 5, .int (40 + 1), .int (180 + 1)] g = some (.int u) ∧ 0 < u ∧ u ≤ 181 := by
      obtain ⟨n, rfl⟩ := Int.eq_ofNat_of_zero_le g0
      have hn : n < 4 := by omega
      match n, hn with
      | 0, _ => exact ⟨2, rfl, by decide, by decide⟩
      | 1, _ => exact ⟨5, rfl, by decide, by decide⟩
      | 2, _ => exact ⟨_, rfl, by decide, by decide⟩
      | 3, _ => exact ⟨_, rfl, by decide, by decide⟩
    refine ⟨_, _, .inl ⟨p, rfl, (g3 p np).trans ep⟩, eu, ?_⟩
    walk_at "w"
    refine ⟨a, u, _, rfl, hd3, by omega, hu0, ?_⟩
    rintro m S4 m0 m1 hd4 g4
    have x4 := x3.trans (ExtB.of g4)
    walk_at "w"
    refine ⟨rfl, ?_⟩
    walk_at "w"
    refine ⟨⟨by omega, by omega⟩, ?_⟩
    refine lc_rgW (fun i acc S' => ∃ rs : List ((Bool × Int) × (Bool × Int)), acc = rs.map sD ∧ rs.length = i ∧ (∀ q ∈ rs, PV (1 + f) m q.1 ∧ PV (1 + f) m q.2) ∧ WellD S' a (c + 3 + 4 * (i : Int)) ∧ ExtB a S S') ⟨[], rfl, rfl, (fun _ z => nomatch z), hd4.mono (by omega), x4⟩ ?_ ?_
    · rintro i acc T hi ⟨rs, rfl, hrl, hrs, hdT, xT⟩
      have hi : i < 181 := by omega
      walk_at "w"
      refine IFB.t rfl ?_
      walk_at "w"
      refine ⟨a, 1 + f, m, _, rfl, hdT, by omega, by omega, by omega, ?_⟩
      rintro q1 T1 hq1 hdT1 xT1
      walk_at "w"
      refine ⟨a, 1 + f, m, _, rfl, hdT1, by omega, by omega, by omega, ?_⟩
      rintro q2 T2 hq2 hdT2 xT2
      walk_at "w"
      refine ⟨by rw [List.length_map]; show _ < 16777216; omega, rs ++ [(q1, q2)], by rw [List.map_append]; rfl, by rw [List.length_append, hrl]; rfl, fun z hz => ?_, hdT2.mono (by omega), (xT.trans xT1).trans xT2⟩
      rcases List.mem_append.mp hz with q | q
      · exact hrs z q
      · rw [List.mem_singleton.mp q]; exact ⟨hq1, hq2⟩
    · rintro T pr acc ⟨rs, rfl, hrl, hrs, hdT, xT⟩ hpr
      generalize hSS : DL.sup T pr _ = T2
      obtain ⟨e2, y2, -⟩ := sup_of hSS
      have y2 := y2 hpr
      have npr := hdT.ne hpr
      have hdT2 := hdT.ext y2
      clear hSS
      walk_at "w"
      refine ⟨a, 1 + f, m, _, rfl, hdT2, by omega, by omega, by omega, ?_⟩
      rintro b T3 hb hdT3 xT3
      walk_at "w"
      refine ⟨_, .inl ⟨pr, rfl, xT3 _ _ npr e2⟩, ?_⟩
      have em : m = (rs.length : Int) := by omega
      rw [em] at hb hrs
      exact h (1 + f) b rs T3 ⟨by omega, hb, by omega, hrs⟩ ⟨by omega, tb_of (by omega) (Int.lt_of_lt_of_le (show 1 + f < 100 by omega) (by decide))⟩ (hdT3.mono (by omega)) ((xT.trans (ExtB.ext y2)).trans xT3)
end K41
set_option Elab.async false
set_option linter.all false
set_option maxRecDepth 100000
set_option maxHeartbeats 4000000
namespace K41
open PySem PySem.Spec PyProof.Rows L2 DL
local macro_rules | `(tactic| walk_at "w") => `(tactic| conv => whnf)
local macro_rules | `(tactic| walk_at "g") => `(tactic| ((conv => whnf); repeat' (first | (refine IFB.t ?_ ?_; rfl; conv => whnf) | (refine IFB.f ?_ ?_; rfl; conv => whnf))))
set_option exponentiation.threshold 20000

inductive Tr : Int → D → Str → Prop
  | num (p : Int × Int) : Nm p → Tr 0 (nD p) (numS p.1 p.2)
  | shares (l : List (Int × Int)) : Shs l → Tr 1 (.tup (l.map nD)) (allS l)
  | figs (a b : List Int) : Zs a → Zs b → b ≠ [] → Tr 2 (.tup [tI a, tI b]) (figS a b)
  | leaves (a b : List (List Int)) : LvOk a b → Tr 3 (.tup [.tup (a.map tI), .tup (b.map tI)]) (lvS a b)
  | toss (l : List Int) : Zs l → Tr 4 (tI l) (tossS l)
  | table (cs : List (Int × (Int × Int) × Int)) : Ces cs → Tr 5 (.tup (cs.map cD)) (tabS cs)
  | mach (n : Int) (b : Bool × Int) (rs : List ((Bool × Int) × (Bool × Int))) : Mv n b rs → Nn n → Tr 6 (.tup [.int n, pD b, .tup (rs.map sD)]) (machS n b rs)
theorem Zs.sg {l : List Int} (h : Zs l) : SgOk l := ⟨by have := h.2; omega, fun i hi => by
  rcases h.1 i hi with rfl | rfl
  · unfold TB; decide
  · unfold TB; decide⟩
theorem Ns.nm {l : List (Int × Int)} (h : Ns l) : NmOk l := ⟨by have := h.2.1; omega, fun q hq => ⟨(h.2.2 q hq).tb.1.mono (by decide), (h.2.2 q hq).tb.2.mono (by decide)⟩⟩
theorem Rws.rw' {rs : List (List Int)} (h : Rws rs) : RwOk rs := ⟨by have := h.2.1; omega, fun r hr => ⟨⟨by have := (h.2.2 r hr).2.1; omega, fun i hi => ((h.2.2 r hr).2.2 i hi).2.mono (by decide)⟩, by have := (h.2.2 r hr).2.1; omega⟩⟩
theorem LvOk.ok {a b : List (List Int)} (h : LvOk a b) : RwOk a ∧ RwOk b := ⟨by
  rcases h.1 with rfl | e
  · exact ⟨by decide, fun _ z => absurd z List.not_mem_nil⟩
  · exact e.rw', h.2.1.rw'⟩
theorem Ces.ce {cs : List (Int × (Int × Int) × Int)} (h : Ces cs) : CeOk cs := ⟨h.2.1, fun c hc => ⟨(h.2.2 c hc).1.2.mono (by decide), ⟨(h.2.2 c hc).2.1.tb.1.mono (by decide), (h.2.2 c hc).2.1.tb.2.mono (by decide)⟩, (h.2.2 c hc).2.2.1.2.mono (by decide)⟩⟩
theorem Mv.ma {n : Int} {b : Bool × Int} {rs : List ((Bool × Int) × (Bool × Int))} (h : Mv n b rs) (hn : Nn n) : MaOk n b rs := ⟨hn.2.mono (by decide), (h.nn hn).1.2.mono (by decide), h.2.2.1, fun q hq => ⟨((h.nn hn).2 q hq).1.2.mono (by decide), ((h.nn hn).2 q hq).2.2.mono (by decide)⟩⟩
theorem rws_of {A : List (List Int)} {m : Nat} (hA : ∀ r ∈ A, r.length = m ∧ ∀ i ∈ r, Nn i) (hm : 1 ≤ m ∧ m ≤ 40) (hl : A.length ≤ 60) (hne : A ≠ []) : Rws A := ⟨hne, hl, fun r hr => ⟨fun z => by have := (hA r hr).1; rw [z] at this; simp at this; omega, by have := (hA r hr).1; omega, (hA r hr).2⟩⟩
theorem lv_of {A B : List (List Int)} {m : Nat} (hA : ∀ r ∈ A, r.length = m ∧ ∀ i ∈ r, Nn i) (hB : ∀ r ∈ B, r.length = m ∧ ∀ i ∈ r, Nn i) (hm : 1 ≤ m ∧ m ≤ 40) (h1 : A.length ≤ 60) (h2 : B.length ≤ 60) (hne : B ≠ []) : LvOk A B := ⟨by
  by_cases c : A = []
  · exact .inl c
  · exact .inr (rws_of hA hm h1 c), rws_of hB hm h2 hne, m, fun r hr => by
  rcases List.mem_append.mp hr with z | z
  · exact (hA r z).1
  · exact (hB r z).1⟩
theorem Tr.ok {d : Int} {t : D} {s : Str} (h : Tr d t s) : okS 4 t := by
  have oi : ∀ n i, okS n (.int i) := fun n i => by cases n <;> exact trivial
  have os : ∀ n s, okS n (.str s) := fun n s => by cases n <;> exact trivial
  have ot : ∀ n (xs : List D), xs.length ≤ 1000 → (∀ x ∈ xs, okS n x) → okS (n + 1) (.tup xs) := fun n xs h1 h2 => ⟨h1, h2⟩
  have om : ∀ {α : Type} (n : Nat) (f : α → D) (l : List α), l.length ≤ 1000 → (∀ a ∈ l, okS n (f a)) → okS (n + 1) (.tup (l.map f)) := fun n f l h1 h2 => ot n _ (by rw [List.length_map]; exact h1) fun x hx => by
    obtain ⟨a, ha, rfl⟩ := List.mem_map.mp hx
    exact h2 a ha
  have on : ∀ n (p : Int × Int), okS (n + 1) (nD p) := fun n p => ot n _ (by show 2 ≤ 1000; decide) (List.forall_mem_cons.mpr ⟨oi _ _, List.forall_mem_cons.mpr ⟨oi _ _, fun _ z => absurd z List.not_mem_nil⟩⟩)
  have op : ∀ n (p : Bool × Int), okS (n + 1) (pD p) := fun n p => ot n _ (by show 2 ≤ 1000; decide) (List.forall_mem_cons.mpr ⟨os _ _, List.forall_mem_cons.mpr ⟨oi _ _, fun _ z => absurd z List.not_mem_nil⟩⟩)
  have oz : ∀ n (l : List Int), l.length ≤ 1000 → okS (n + 1) (tI l) := fun n l hl => om n _ l hl fun _ _ => oi _ _
  cases h with
  | num p _ => exact on 3 p
  | shares l h => exact om 3 nD l (by have := h.1.2.1; omega) fun _ _ => on 2 _
  | figs a b ha hb _ => exact ot 3 _ (by show 2 ≤ 1000; decide) (List.forall_mem_cons.mpr ⟨oz 2 a (by have := ha.2; omega), List.forall_mem_cons.mpr ⟨oz 2 b (by have := hb.2; omega), fun _ z => absurd z List.not_mem_nil⟩⟩)
  | leaves a b h =>
    obtain ⟨h1, h2⟩ := h.ok
    refine ot 3 _ (by show 2 ≤ 1000; decide) (List.forall_mem_cons.mpr ⟨om 2 tI a (by have := h1.1; omega) fun r hr => oz 1 r (by have := (h1.2 r hr).2; omega), List.forall_mem_cons.mpr ⟨om 2 tI b (by have := h2.1; omega) fun r hr => oz 1 r (by have := (h2.2 r hr).2; omega), fun _ z => absurd z List.not_mem_nil⟩⟩)
  | toss l h => exact oz 3 l (by have := h.2; omega)
  | table cs h => exact om 3 cD cs (by have := h.2.1; omega) fun c _ => ot 2 _ (by show 3 ≤ 1000; decide) (List.forall_mem_cons.mpr ⟨oi _ _, List.forall_mem_cons.mpr ⟨on 1 _, List.forall_mem_cons.mpr ⟨oi _ _, fun _ z => absurd z List.not_mem_nil⟩⟩⟩)
  | mach n b rs h _ =>
    have hl := h.2.2.1
    exact ot 3 _ (by show 3 ≤ 1000; decide) (List.forall_mem_cons.mpr ⟨oi _ _, List.forall_mem_cons.mpr ⟨op 2 _, List.forall_mem_cons.mpr ⟨om 2 sD rs hl fun q _ => ot 1 _ (by show 2 ≤ 1000; decide) (List.forall_mem_cons.mpr ⟨op 0 _, List.forall_mem_cons.mpr ⟨op 0 _, fun _ z => absurd z List.not_mem_nil⟩⟩), fun _ z => absurd z List.not_mem_nil⟩⟩⟩)
theorem Tr.len {d : Int} {t : D} {s : Str} (h : Tr d t s) : s.length ≤ 2000000 := by
  cases h with
  | num p hp => exact Nat.le_trans (nm_len (q := p) ⟨hp.tb.1.mono (show 30 ≤ 70 by decide), hp.tb.2.mono (show 30 ≤ 70 by decide)⟩) (by decide)
  | shares l h => exact sh_len h.1
  | figs a b ha hb _ => exact fig_len ha hb
  | leaves a b h => exact Nat.le_trans (lv_len h) (by decide)
  | toss l h => exact toss_len h
  | table cs h => exact tab_len h
  | mach n b rs h hn => exact Nat.le_trans (mach_len h hn) (by decide)
def sp_law_read : DSp := fun ds S Q _ => ∃ (d : Int) (t : D) (s : Str) (n : Bool), ds = [.int d, .str s, .bl n] ∧ Tr d t s ∧ Q t S
def sp_law_shown : DSp := fun ds S Q _ => ∃ (d : Int) (t : D) (s : Str), ds = [.int d, t] ∧ Tr d t s ∧ Q (.str s) S
def sp_law_door : DSp := fun ds S Q _ => ∃ (a : Addr) (d c : Int), ds = [.ref a, .int d, .int 30, .int 40] ∧ WellD S a c ∧ c < 500000 ∧ 0 ≤ d ∧ d ≤ 6 ∧
  ∀ th said S', Tr d th said → WellD S' a (c + 30000) → ExtB a S S' → Q (.tup [th, .str said]) S'
theorem pk {xs : List D} {g : Int} {lo hi : Int} (g0 : 0 ≤ g) (g1 : g < (xs.length : Int)) (h : ∀ x ∈ xs, ∃ u : Int, x = .int u ∧ lo ≤ u ∧ u ≤ hi) : ∃ u : Int, atI xs g = some (.int u) ∧ lo ≤ u ∧ u ≤ hi := by
  obtain ⟨n, rfl⟩ := Int.eq_ofNat_of_zero_le g0
  have hn : n < xs.length := by omega
  obtain ⟨u, e, h1⟩ := h _ (List.getElem_mem hn)
  exact ⟨u, by rw [atI_nat (List.getElem?_eq_getElem hn), e], h1⟩
theorem ok_law_read {P : Program} {w : World} {K : PySem.W.Frag} {mg : Str → Option Value} {base : Heap} (T : Txt K mg) (hm : HM T P w base) : FnOk P w K mg base (L2.CX P w) 9 T.a_law_read T.fd_law_read ["door", "said", "named"] (toSp K sp_law_read) := by
  refine fnD T.F_law_read sc_law_read (fun ds S Q E h => ?_) (fun cdv A outer s H E RX hr => ⟨_, (pds_cons (pd_ifS (pdt_cmp (od_eq hr.units) (pd_var 0) pd_int) (pds_one (pd_ret (pd_if (pdt_tru (pd_var 2)) (pd_callK0 (takes_of rfl rfl rfl rfl) (ok_read_number T hm) (hr.mono (by decide)) T.m_read_number T.F_read_number.kp (kb_read_number_0_text T) (pdk_cons (pd_var 1) pdk_nil)) (pd_call (takes_of rfl rfl rfl rfl) (ok_read_number T hm) (hr.mono (by decide)) T.m_read_number T.F_read_number.kp T.d_read_number (pda_cons (pd_var 1) pda_nil))))) pds_nil)
    (pds_cons (pd_ifS (pdt_cmp (od_eq hr.units) (pd_var 0) pd_int) (pds_one (pd_ret (pd_if (pdt_tru (pd_var 2)) (pd_callK0 (takes_of rfl rfl rfl rfl) (ok_read_shares T hm) (hr.mono (by decide)) T.m_read_shares T.F_read_shares.kp (kb_read_shares_0_text T) (pdk_cons (pd_var 1) pdk_nil)) (pd_call (takes_of rfl rfl rfl rfl) (ok_read_shares T hm) (hr.mono (by decide)) T.m_read_shares T.F_read_shares.kp T.d_read_shares (pda_cons (pd_var 1) pda_nil))))) pds_nil)
    (pds_cons (pd_ifS (pdt_cmp (od_eq hr.units) (pd_var 0) pd_int) (pds_one (pd_ret (pd_if (pdt_tru (pd_var 2)) (pd_callK0 (takes_of rfl rfl rfl rfl) (ok_read_figures T hm) (hr.mono (by decide)) T.m_read_figures T.F_read_figures.kp (kb_read_figures_0_text T) (pdk_cons (pd_var 1) pdk_nil)) (pd_call (takes_of rfl rfl rfl rfl) (ok_read_figures T hm) (hr.mono (by decide)) T.m_read_figures T.F_read_figures.kp T.d_read_figures (pda_cons (pd_var 1) pda_nil))))) pds_nil)
    (pds_cons (pd_ifS (pdt_cmp (od_eq hr.units) (pd_var 0) pd_int) (pds_one (pd_ret (pd_if (pdt_tru (pd_var 2)) (pd_callK0 (takes_of rfl rfl rfl rfl) (ok_read_leaves T hm) (hr.mono (by decide)) T.m_read_leaves T.F_read_leaves.kp (kb_read_leaves_0_text T) (pdk_cons (pd_var 1) pdk_nil)) (pd_call (takes_of rfl rfl rfl rfl) (ok_read_leaves T hm) (hr.mono (by decide)) T.m_read_leaves T.F_read_leaves.kp T.d_read_leaves (pda_cons (pd_var 1) pda_nil))))) pds_nil)
    (pds_cons (pd_ifS (pdt_cmp (od_eq hr.units) (pd_var 0) pd_int) (pds_one (pd_ret (pd_if (pdt_tru (pd_var 2)) (pd_callK0 (takes_of rfl rfl rfl rfl) (ok_read_tosses T hm) (hr.mono (by decide)) T.m_read_tosses T.F_read_tosses.kp (kb_read_tosses_0_text T) (pdk_cons (pd_var 1) pdk_nil)) (pd_call (takes_of rfl rfl rfl rfl) (ok_read_tosses T hm) (hr.mono (by decide)) T.m_read_tosses T.F_read_tosses.kp T.d_read_tosses (pda_cons (pd_var 1) pda_nil))))) pds_nil)
    (pds_cons (pd_ifS (pdt_cmp (od_eq hr.units) (pd_var 0) pd_int) (pds_one (pd_ret (pd_if (pdt_tru (pd_var 2)) (pd_callK0 (takes_of rfl rfl rfl rfl) (ok_read_table T hm) (hr.mono (by decide)) T.m_read_table T.F_read_table.kp (kb_read_table_0_text T) (pdk_cons (pd_var 1) pdk_nil)) (pd_call (takes_of rfl rfl rfl rfl) (ok_read_table T hm) (hr.mono (by decide)) T.m_read_table T.F_read_table.kp T.d_read_table (pda_cons (pd_var 1) pda_nil))))) pds_nil)
    (pds_one (pd_ret (pd_if (pdt_tru (pd_var 2)) (pd_callK0 (takes_of rfl rfl rfl rfl) (ok_read_machine T hm) (hr.mono (by decide)) T.m_read_machine T.F_read_machine.kp (kb_read_machine_0_text T) (pdk_cons (pd_var 1) pdk_nil)) (pd_call (takes_of rfl rfl rfl rfl) (ok_read_machine T hm) (hr.mono (by decide)) T.m_read_machine T.F_read_machine.kp T.d_read_machine (pda_cons (pd_var 1) pda_nil))))))))))), fun ds S Q h => ?_⟩)
  · obtain ⟨_, _, _, _, rfl, _⟩ := h
    rfl
  · obtain ⟨d, t, s, nm, rfl, hs, h⟩ := h
    cases hs with
    | num p hp =>
      cases nm
      · walk_at "g"
        exact ⟨p, rfl, hp, h⟩
      · walk_at "g"
        exact ⟨p, rfl, hp, h⟩
    | shares l hl =>
      cases nm
      · walk_at "g"
        exact ⟨l, rfl, hl, h⟩
      · walk_at "g"
        exact ⟨l, rfl, hl, h⟩
    | figs a b ha hb hne =>
      cases nm
      · walk_at "g"
        exact ⟨a, b, rfl, ha, hb, hne, h⟩
      · walk_at "g"
        exact ⟨a, b, rfl, ha, hb, hne, h⟩
    | leaves a b hab =>
      cases nm
      · walk_at "g"
        exact ⟨a, b, rfl, hab, h⟩
      · walk_at "g"
        exact ⟨a, b, rfl, hab, h⟩
    | toss l hl =>
      cases nm
      · walk_at "g"
        exact ⟨l, rfl, hl, h⟩
      · walk_at "g"
        exact ⟨l, rfl, hl, h⟩
    | table cs hc =>
      cases nm
      · walk_at "g"
        exact ⟨cs, rfl, hc, h⟩
      · walk_at "g"
        exact ⟨cs, rfl, hc, h⟩
    | mach n b rs hM hn =>
      cases nm
      · walk_at "g"
        exact ⟨n, b, rs, rfl, hM, hn, h⟩
      · walk_at "g"
        exact ⟨n, b, rs, rfl, hM, hn, h⟩


theorem ok_law_shown {P : Program} {w : World} {K : PySem.W.Frag} {mg : Str → Option Value} {base : Heap} (T : Txt K mg) (hm : HM T P w base) : FnOk P w K mg base (L2.CX P w) 3 T.a_law_shown T.fd_law_shown ["door", "thing"] (toSp K sp_law_shown) := by
  refine fnD T.F_law_shown sc_law_shown (fun ds S Q E h => ?_) (fun cdv A outer s H E RX hr => ⟨_, (pds_cons (pd_ifS (pdt_cmp (od_eq hr.units) (pd_var 0) pd_int) (pds_one (pd_ret (pd_call (takes_of rfl rfl rfl rfl) (ok_show_number T hm) (hr.mono (by decide)) T.m_show_number T.F_show_number.kp T.d_show_number (pda_cons (pd_var 1) pda_nil)))) pds_nil)
    (pds_cons (pd_ifS (pdt_cmp (od_eq hr.units) (pd_var 0) pd_int) (pds_one (pd_ret (pd_call (takes_of rfl rfl rfl rfl) (ok_show_shares T hm) (hr.mono (by decide)) T.m_show_shares T.F_show_shares.kp T.d_show_shares (pda_cons (pd_var 1) pda_nil)))) pds_nil)
    (pds_cons (pd_ifS (pdt_cmp (od_eq hr.units) (pd_var 0) pd_int) (pds_one (pd_ret (pd_call (takes_of rfl rfl rfl rfl) (ok_show_figures T hm) (hr.mono (by decide)) T.m_show_figures T.F_show_figures.kp T.d_show_figures (pda_cons (pd_var 1) pda_nil)))) pds_nil)
    (pds_cons (pd_ifS (pdt_cmp (od_eq hr.units) (pd_var 0) pd_int) (pds_one (pd_ret (pd_call (takes_of rfl rfl rfl rfl) (ok_show_leaves T hm) (hr.mono (by decide)) T.m_show_leaves T.F_show_leaves.kp T.d_show_leaves (pda_cons (pd_var 1) pda_nil)))) pds_nil)
    (pds_cons (pd_ifS (pdt_cmp (od_eq hr.units) (pd_var 0) pd_int) (pds_one (pd_ret (pd_call (takes_of rfl rfl rfl rfl) (ok_show_tosses T hm) (hr.mono (by decide)) T.m_show_tosses T.F_show_tosses.kp T.d_show_tosses (pda_cons (pd_var 1) pda_nil)))) pds_nil)
    (pds_one (pd_ret (pd_if (pdt_cmp (od_eq hr.units) (pd_var 0) pd_int) (pd_call (takes_of rfl rfl rfl rfl) (ok_show_table T hm) (hr.mono (by decide)) T.m_show_table T.F_show_table.kp T.d_show_table (pda_cons (pd_var 1) pda_nil)) (pd_call (takes_of rfl rfl rfl rfl) (ok_show_machine T hm) (hr.mono (by decide)) T.m_show_machine T.F_show_machine.kp T.d_show_machine (pda_cons (pd_var 1) pda_nil)))))))))), fun ds S Q h => ?_⟩)
  · obtain ⟨_, _, _, rfl, _⟩ := h
    rfl
  · obtain ⟨d, t, s, rfl, hs, h⟩ := h
    cases hs with
    | num p hp =>
      walk_at "g"
      exact ⟨p, rfl, hp.tb.1.mono (by decide), hp.tb.2.mono (by decide), h⟩
    | shares l hl =>
      walk_at "g"
      exact ⟨l, rfl, hl.1.nm, h⟩
    | figs a b ha hb hne =>
      walk_at "g"
      exact ⟨a, b, rfl, ha.sg, hb.sg, h⟩
    | leaves a b hab =>
      walk_at "g"
      exact ⟨a, b, rfl, hab.ok.1, hab.ok.2, h⟩
    | toss l hl =>
      walk_at "g"
      exact ⟨l, rfl, hl.sg, h⟩
    | table cs hc =>
      walk_at "g"
      exact ⟨cs, rfl, hc.ce, h⟩
    | mach n b rs hM hn =>
      walk_at "g"
      exact ⟨n, b, rs, rfl, hM.ma hn, h⟩


theorem ok_law_door {P : Program} {w : World} {K : PySem.W.Frag} {mg : Str → Option Value} {base : Heap} (T : Txt K mg) (hm : HM T P w base) : FnOk P w K mg base (L2.CX P w) 43 T.a_law_door T.fd_law_door ["well", "door", "digits", "most"] (toSp K sp_law_door) := by
  refine fnD T.F_law_door sc_law_door (fun ds S Q E h => ?_) (fun cdv A outer s H E RX hr => ⟨_, (pds_cons (pd_set 4 sc_law_door.nd (pd_bin od_add pd_int (pd_ix (pd_lst (pda_cons pd_int (pda_cons pd_int (pda_cons (pd_call (takes_of rfl rfl rfl rfl) (ok_law_draw T hm) (hr.mono (by decide)) T.m_law_draw T.F_law_draw.kp T.d_law_draw (pda_cons (pd_var 0) (pda_cons pd_int pda_nil))) (pda_cons (pd_call (takes_of rfl rfl rfl rfl) (ok_law_draw T hm) (hr.mono (by decide)) T.m_law_draw T.F_law_draw.kp T.d_law_draw (pda_cons (pd_var 0) (pda_cons (pd_var 3) pda_nil))) (pda_cons (pd_bin od_sub (pd_var 3) pd_int) pda_nil)))))) (pd_call (takes_of rfl rfl rfl rfl) (ok_law_draw T hm) (hr.mono (by decide)) T.m_law_draw T.F_law_draw.kp T.d_law_draw (pda_cons (pd_var 0) (pda_cons pd_int pda_nil))))))
    (pds_cons (pd_ifS (pdt_cmp (od_eq hr.units) (pd_var 1) pd_int) (pds_cons (pd_set 5 sc_law_door.nd (pd_call (takes_of rfl rfl rfl rfl) (ok_law_number T hm) (hr.mono (by decide)) T.m_law_number T.F_law_number.kp T.d_law_number (pda_cons (pd_var 0) (pda_cons (pd_var 2) pda_nil))))
    (pds_one (pd_ret (pd_tup (pda_cons (pd_var 5) (pda_cons (pd_call (takes_of rfl rfl rfl rfl) (ok_law_said_number T hm) (hr.mono (by decide)) T.m_law_said_number T.F_law_said_number.kp T.d_law_said_number (pda_cons (pd_var 5) pda_nil)) pda_nil)))))) pds_nil)
    (pds_cons (pd_ifS (pdt_cmp (od_eq hr.units) (pd_var 1) pd_int) (pds_cons (pd_set 5 sc_law_door.nd (pd_call (takes_of rfl rfl rfl rfl) (ok_law_shares T hm) (hr.mono (by decide)) T.m_law_shares T.F_law_shares.kp T.d_law_shares (pda_cons (pd_var 0) (pda_cons (pd_var 4) (pda_cons (pd_bin od_sub (pd_var 2) pd_int) pda_nil)))))
    (pds_one (pd_ret (pd_tup (pda_cons (pd_var 5) (pda_cons (pd_call (takes_of rfl rfl rfl rfl) (ok_law_said_all T hm) (hr.mono (by decide)) T.m_law_said_all T.F_law_said_all.kp T.d_law_said_all (pda_cons (pd_var 5) pda_nil)) pda_nil)))))) pds_nil)
    (pds_cons (pd_ifS (pdt_cmp (od_eq hr.units) (pd_var 1) pd_int) (pds_cons (pd_set 6 sc_law_door.nd (pd_call (takes_of rfl rfl rfl rfl) (ok_law_draw T hm) (hr.mono (by decide)) T.m_law_draw T.F_law_draw.kp T.d_law_draw (pda_cons (pd_var 0) (pda_cons (pd_ix (pd_lst (pda_cons pd_int (pda_cons pd_int (pda_cons pd_int pda_nil)))) (pd_call (takes_of rfl rfl rfl rfl) (ok_law_draw T hm) (hr.mono (by decide)) T.m_law_draw T.F_law_draw.kp T.d_law_draw (pda_cons (pd_var 0) (pda_cons pd_int pda_nil)))) pda_nil))))
    (pds_cons (pd_set 7 sc_law_door.nd (pd_bin od_add pd_int (pd_call (takes_of rfl rfl rfl rfl) (ok_law_draw T hm) (hr.mono (by decide)) T.m_law_draw T.F_law_draw.kp T.d_law_draw (pda_cons (pd_var 0) (pda_cons (pd_ix (pd_lst (pda_cons pd_int (pda_cons pd_int (pda_cons (pd_bin od_sub pd_int (pd_var 6)) pda_nil)))) (pd_call (takes_of rfl rfl rfl rfl) (ok_law_draw T hm) (hr.mono (by decide)) T.m_law_draw T.F_law_draw.kp T.d_law_draw (pda_cons (pd_var 0) (pda_cons pd_int pda_nil)))) pda_nil)))))
    (pds_cons (pd_set 5 sc_law_door.nd (pd_tup (pda_cons (pd_call (takes_of rfl rfl rfl rfl) (ok_law_signs T hm) (hr.mono (by decide)) T.m_law_signs T.F_law_signs.kp T.d_law_signs (pda_cons (pd_var 0) (pda_cons (pd_var 6) pda_nil))) (pda_cons (pd_call (takes_of rfl rfl rfl rfl) (ok_law_signs T hm) (hr.mono (by decide)) T.m_law_signs T.F_law_signs.kp T.d_law_signs (pda_cons (pd_var 0) (pda_cons (pd_var 7) pda_nil))) pda_nil))))
    (pds_one (pd_ret (pd_tup (pda_cons (pd_var 5) (pda_cons (pd_bin od_add (pd_bin od_add (pd_bin od_add (pd_call (takes_of rfl rfl rfl rfl) (ok_law_said_signs T hm) (hr.mono (by decide)) T.m_law_said_signs T.F_law_said_signs.kp T.d_law_said_signs (pda_cons (pd_ix (pd_var 5) pd_int) pda_nil)) pd_str) (pd_call (takes_of rfl rfl rfl rfl) (ok_law_said_signs T hm) (hr.mono (by decide)) T.m_law_said_signs T.F_law_said_signs.kp T.d_law_said_signs (pda_cons (pd_ix (pd_var 5) pd_int) pda_nil))) pd_str) pda_nil)))))))) pds_nil)
    (pds_cons (pd_ifS (pdt_cmp (od_eq hr.units) (pd_var 1) pd_int) (pds_cons (pd_par 8 9 rfl sc_law_door.nd (pda_cons (pd_ix (pd_lst (pda_cons pd_int (pda_cons (pd_var 2) pda_nil))) (pd_call (takes_of rfl rfl rfl rfl) (ok_law_draw T hm) (hr.mono (by decide)) T.m_law_draw T.F_law_draw.kp T.d_law_draw (pda_cons (pd_var 0) (pda_cons pd_int pda_nil)))) (pda_cons (pd_call (takes_of rfl rfl rfl rfl) (ok_law_draw T hm) (hr.mono (by decide)) T.m_law_draw T.F_law_draw.kp T.d_law_draw (pda_cons (pd_var 0) (pda_cons (pd_ix (pd_lst (pda_cons pd_int (pda_cons pd_int (pda_cons pd_int pda_nil)))) (pd_call (takes_of rfl rfl rfl rfl) (ok_law_draw T hm) (hr.mono (by decide)) T.m_law_draw T.F_law_draw.kp T.d_law_draw (pda_cons (pd_var 0) (pda_cons pd_int pda_nil)))) pda_nil))) pda_nil)) rfl)
    (pds_cons (pd_set 6 sc_law_door.nd (pd_call (takes_of rfl rfl rfl rfl) (ok_law_rows T hm) (hr.mono (by decide)) T.m_law_rows T.F_law_rows.kp T.d_law_rows (pda_cons (pd_var 0) (pda_cons (pd_var 9) (pda_cons (pd_var 4) (pda_cons (pd_var 8) pda_nil))))))
    (pds_cons (pd_set 5 sc_law_door.nd (pd_tup (pda_cons (pd_var 6) (pda_cons (pd_call (takes_of rfl rfl rfl rfl) (ok_law_rows T hm) (hr.mono (by decide)) T.m_law_rows T.F_law_rows.kp T.d_law_rows (pda_cons (pd_var 0) (pda_cons (pd_bin od_add pd_int (pd_call (takes_of rfl rfl rfl rfl) (ok_law_draw T hm) (hr.mono (by decide)) T.m_law_draw T.F_law_draw.kp T.d_law_draw (pda_cons (pd_var 0) (pda_cons (pd_ix (pd_lst (pda_cons pd_int (pda_cons pd_int (pda_cons pd_int pda_nil)))) (pd_call (takes_of rfl rfl rfl rfl) (ok_law_draw T hm) (hr.mono (by decide)) T.m_law_draw T.F_law_draw.kp T.d_law_draw (pda_cons (pd_var 0) (pda_cons pd_int pda_nil)))) pda_nil)))) (pda_cons (pd_var 4) (pda_cons (pd_var 8) pda_nil))))) pda_nil))))
    (pds_one (pd_ret (pd_tup (pda_cons (pd_var 5) (pda_cons (pd_bin od_add (pd_bin od_add (pd_call (takes_of rfl rfl rfl rfl) (ok_law_said_rows T hm) (hr.mono (by decide)) T.m_law_said_rows T.F_law_said_rows.kp T.d_law_said_rows (pda_cons (pd_ix (pd_var 5) pd_int) pda_nil)) pd_str) (pd_call (takes_of rfl rfl rfl rfl) (ok_law_said_rows T hm) (hr.mono (by decide)) T.m_law_said_rows T.F_law_said_rows.kp T.d_law_said_rows (pda_cons (pd_ix (pd_var 5) pd_int) pda_nil))) pda_nil)))))))) pds_nil)
    (pds_cons (pd_ifS (pdt_cmp (od_eq hr.units) (pd_var 1) pd_int) (pds_cons (pd_set 5 sc_law_door.nd (pd_call (takes_of rfl rfl rfl rfl) (ok_law_signs T hm) (hr.mono (by decide)) T.m_law_signs T.F_law_signs.kp T.d_law_signs (pda_cons (pd_var 0) (pda_cons (pd_call (takes_of rfl rfl rfl rfl) (ok_law_draw T hm) (hr.mono (by decide)) T.m_law_draw T.F_law_draw.kp T.d_law_draw (pda_cons (pd_var 0) (pda_cons (pd_ix (pd_lst (pda_cons pd_int (pda_cons pd_int (pda_cons pd_int pda_nil)))) (pd_call (takes_of rfl rfl rfl rfl) (ok_law_draw T hm) (hr.mono (by decide)) T.m_law_draw T.F_law_draw.kp T.d_law_draw (pda_cons (pd_var 0) (pda_cons pd_int pda_nil)))) pda_nil))) pda_nil))))
    (pds_one (pd_ret (pd_tup (pda_cons (pd_var 5) (pda_cons (pd_if (pdt_cmp (od_neE hr.units) (pd_var 5) (pd_tup pda_nil)) (pd_call (takes_of rfl rfl rfl rfl) (ok_law_said_signs T hm) (hr.mono (by decide)) T.m_law_said_signs T.F_law_said_signs.kp T.d_law_said_signs (pda_cons (pd_var 5) pda_nil)) pd_str) pda_nil)))))) pds_nil)
    (pds_cons (pd_ifS (pdt_cmp (od_eq hr.units) (pd_var 1) pd_int) (pds_cons (pd_set 10 sc_law_door.nd (pd_ix (pd_lst (pda_cons pd_int (pda_cons pd_int pda_nil))) (pd_call (takes_of rfl rfl rfl rfl) (ok_law_draw T hm) (hr.mono (by decide)) T.m_law_draw T.F_law_draw.kp T.d_law_draw (pda_cons (pd_var 0) (pda_cons pd_int pda_nil)))))
    (pds_cons (pd_set 5 sc_law_door.nd (pd_bltTy cd_tuple T.b_tuple (by decide +kernel) (pda_cons (pd_lc (own := [("turn", 11)]) (p := .n 11) rfl sc_law_door.nd (pdi_range1 T.b_range (pda_cons (pd_blt (cd_min2 rfl) T.b_min (by decide +kernel) (pda_cons pd_int (pda_cons (pd_bin od_mul (pd_var 4) (pd_var 10)) pda_nil))) pda_nil)) (blkOk_by (N := ["well", "door", "digits", "most", "many", "thing", "ahead", "again", "figures", "first", "far", "turn"]) (sc := defScope s_law_door) (own := [("turn", 11)]) (by decide +kernel)) (fun _ _ _ _ _ => (pg_name (i := 11) sc_law_door.nd rfl (by first | exact Or.inl rfl | exact Or.inr rfl))) (fun _ _ _ _ _ => pdts_nil) (fun _ _ _ _ _ => (pd_call takes0 (ok_law_cell T hm) (hr.mono (by decide)) T.m_law_cell T.F_law_cell.kp T.d_law_cell (pda_cons (pd_var 0) (pda_cons (pd_ix (pd_lst (pda_cons pd_int (pda_cons (pd_var 2) pda_nil))) (pd_call takes0 (ok_law_draw T hm) (hr.mono (by decide)) T.m_law_draw T.F_law_draw.kp T.d_law_draw (pda_cons (pd_var 0) (pda_cons pd_int pda_nil)))) pda_nil))))) pda_nil)))
    (pds_one (pd_ret (pd_tup (pda_cons (pd_var 5) (pda_cons (pd_call (takes_of rfl rfl rfl rfl) (ok_law_said_table T hm) (hr.mono (by decide)) T.m_law_said_table T.F_law_said_table.kp T.d_law_said_table (pda_cons (pd_var 5) pda_nil)) pda_nil))))))) pds_nil)
    (pds_cons (pd_set 5 sc_law_door.nd (pd_call (takes_of rfl rfl rfl rfl) (ok_law_machine T hm) (hr.mono (by decide)) T.m_law_machine T.F_law_machine.kp T.d_law_machine (pda_cons (pd_var 0) (pda_cons (pd_var 3) (pda_cons pd_int pda_nil)))))
    (pds_one (pd_ret (pd_tup (pda_cons (pd_var 5) (pda_cons (pd_call (takes_of rfl rfl rfl rfl) (ok_law_said_machine T hm) (hr.mono (by decide)) T.m_law_said_machine T.F_law_said_machine.kp T.d_law_said_machine (pda_cons (pd_var 5) pda_nil)) pda_nil))))))))))))), fun ds S Q h => ?_⟩)
  · obtain ⟨_, _, _, rfl, _⟩ := h
    rfl
  · obtain ⟨a, d, c, rfl, hd0, hc, hdr0, hdr1, h⟩ := h
    have x0 := ExtB.refl a S
    walk_at "w"
    refine ⟨a, 6, _, rfl, hd0, by omega, by decide, ?_⟩
    rintro f S1 f0 f1 hd1 g1
    have x1 := x0.trans (ExtB.of g1)
    walk_at "w"
    refine ⟨a, 40, _, rfl, hd1, by omega, by decide, ?_⟩
    rintro f2 S2 f20 f21 hd2 g2
    have x2 := x1.trans (ExtB.of g2)
    walk_at "w"
    intro p hp
    generalize hSS : DL.sup S2 p _ = S3
    obtain ⟨ep, yp, -⟩ := sup_of hSS
    have yp := yp hp
    have np := hd2.ne hp
    have hd3 := hd2.ext yp
    have x3 := x2.trans (ExtB.ext yp)
    clear hSS
    walk_at "w"
    refine ⟨a, 5, _, rfl, hd3, by omega, by decide, ?_⟩
    rintro g S4 g0 g1 hd4 g4
    have x4 := x3.trans (ExtB.of g4)
    walk_at "w"
    obtain ⟨u, eu, u0, u1⟩ := pk (xs := [D.int 0, .int 1, .int f, .int f2, .int (40 - 1)]) (lo := 0) (hi := 39) g0 (by exact Int.lt_of_lt_of_le g1 (Int.le_of_eq rfl)) (List.forall_mem_cons.mpr ⟨⟨_, rfl, by omega, by omega⟩, (List.forall_mem_cons.mpr ⟨⟨_, rfl, by omega, by omega⟩, (List.forall_mem_cons.mpr ⟨⟨_, rfl, by omega, by omega⟩, (List.forall_mem_cons.mpr ⟨⟨_, rfl, by omega, by omega⟩, (List.forall_mem_cons.mpr ⟨⟨_, rfl, by omega, by omega⟩, (fun _ z => absurd z List.not_mem_nil)⟩)⟩)⟩)⟩)⟩)
    refine ⟨_, _, .inl ⟨p, rfl, (g4 p np).trans ep⟩, eu, ?_⟩
    walk_at "w"
    obtain ⟨m, hm⟩ : ∃ m : Nat, 1 + u = (m : Int) := ⟨(1 + u).toNat, by omega⟩
    have hm1 : 1 ≤ m ∧ m ≤ 40 := by omega
    rw [hm]
    rcases (show d = 0 ∨ d = 1 ∨ d = 2 ∨ d = 3 ∨ d = 4 ∨ d = 5 ∨ d = 6 by omega) with rfl | rfl | rfl | rfl | rfl | rfl | rfl
    · skip
      walk_at "g"
      refine ⟨a, _, rfl, hd4, by omega, ?_⟩
      rintro q S5 hq hd5 z5
      have x5 := x4.trans z5
      walk_at "w"
      refine ⟨pq q, rfl, hq.tb.1.mono (by decide), hq.tb.2.mono (by decide), ?_⟩
      walk_at "w"
      exact h _ _ S5 (.num (pq q) hq) (hd5.mono (by omega)) x5
    · skip
      walk_at "g"
      refine ⟨a, m, _, rfl, hd4, by omega, by omega, by omega, ?_⟩
      rintro l S5 hl hd5 z5
      have x5 := x4.trans z5
      walk_at "w"
      refine ⟨l, rfl, hl.1.nm, ?_⟩
      walk_at "w"
      exact h _ _ S5 (.shares l hl) (hd5.mono (by omega)) x5
    · skip
      walk_at "g"
      intro pa hpa
      generalize hSS : DL.sup S4 pa _ = S5
      obtain ⟨epa, ypa, -⟩ := sup_of hSS
      have ypa := ypa hpa
      have npa := hd4.ne hpa
      have hd5 := hd4.ext ypa
      have x5 := x4.trans (ExtB.ext ypa)
      clear hSS
      walk_at "w"
      refine ⟨a, 3, _, rfl, hd5, by omega, by decide, ?_⟩
      rintro ga S6 ga0 ga1 hd6 g6
      have x6 := x5.trans (ExtB.of g6)
      walk_at "w"
      obtain ⟨ua, eua, ua0, ua1⟩ := pk (xs := [D.int 2, .int 9, .int 100]) (lo := 1) (hi := 100) ga0 (by exact Int.lt_of_lt_of_le ga1 (Int.le_of_eq rfl)) (List.forall_mem_cons.mpr ⟨⟨_, rfl, by omega, by omega⟩, (List.forall_mem_cons.mpr ⟨⟨_, rfl, by omega, by omega⟩, (List.forall_mem_cons.mpr ⟨⟨_, rfl, by omega, by omega⟩, (fun _ z => absurd z List.not_mem_nil)⟩)⟩)⟩)
      refine ⟨_, _, .inl ⟨pa, rfl, (g6 pa npa).trans epa⟩, eua, ?_⟩
      walk_at "w"
      refine ⟨a, ua, _, rfl, hd6, by omega, by omega, ?_⟩
      rintro va S7 va0 va1 hd7 g7
      have x7 := x6.trans (ExtB.of g7)
      walk_at "w"
      intro pb hpb
      generalize hSS : DL.sup S7 pb _ = S8
      obtain ⟨epb, ypb, -⟩ := sup_of hSS
      have ypb := ypb hpb
      have npb := hd7.ne hpb
      have hd8 := hd7.ext ypb
      have x8 := x7.trans (ExtB.ext ypb)
      clear hSS
      walk_at "w"
      refine ⟨a, 3, _, rfl, hd8, by omega, by decide, ?_⟩
      rintro gb S9 gb0 gb1 hd9 g9
      have x9 := x8.trans (ExtB.of g9)
      walk_at "w"
      obtain ⟨ub, eub, ub0, ub1⟩ := pk (xs := [D.int 1, .int 9, .int (200 - va)]) (lo := 1) (hi := 200) gb0 (by exact Int.lt_of_lt_of_le gb1 (Int.le_of_eq rfl)) (List.forall_mem_cons.mpr ⟨⟨_, rfl, by omega, by omega⟩, (List.forall_mem_cons.mpr ⟨⟨_, rfl, by omega, by omega⟩, (List.forall_mem_cons.mpr ⟨⟨_, rfl, by omega, by omega⟩, (fun _ z => absurd z List.not_mem_nil)⟩)⟩)⟩)
      refine ⟨_, _, .inl ⟨pb, rfl, (g9 pb npb).trans epb⟩, eub, ?_⟩
      walk_at "w"
      refine ⟨a, ub, _, rfl, hd9, by omega, by omega, ?_⟩
      rintro vb S10 vb0 vb1 hd10 g10
      have x10 := x9.trans (ExtB.of g10)
      walk_at "w"
      obtain ⟨na, hna⟩ := Int.eq_ofNat_of_zero_le va0
      obtain ⟨nb, hnb⟩ : ∃ n : Nat, 1 + vb = (n : Int) := ⟨(1 + vb).toNat, by omega⟩
      rw [hnb]
      subst hna
      refine ⟨a, na, _, rfl, hd10, by omega, by omega, ?_⟩
      rintro A S11 hA hAl hd11 z11
      have x11 := x10.trans z11
      walk_at "w"
      refine ⟨a, nb, _, rfl, hd11, by omega, by omega, ?_⟩
      rintro B S12 hB hBl hd12 z12
      have x12 := x11.trans z12
      walk_at "w"
      have l1 := sg_len hA.sg
      have l2 := sg_len hB.sg
      have l3 := len6
      have l4 := len7
      refine ⟨_, rfl, ?_⟩
      walk_at "w"
      refine ⟨A, rfl, hA.sg, ?_⟩
      walk_at "w"
      refine ⟨by show _ ≤ 16777216; omega, ?_⟩
      walk_at "w"
      refine ⟨_, rfl, ?_⟩
      walk_at "w"
      refine ⟨B, rfl, hB.sg, ?_⟩
      walk_at "w"
      refine ⟨by show _ ≤ 16777216; rw [app_len]; omega, ?_⟩
      walk_at "w"
      refine ⟨by show _ ≤ 16777216; rw [app_len, app_len]; omega, ?_⟩
      exact h _ _ S12 (.figs A B hA hB (List.length_pos_iff.mp (by omega))) (hd12.mono (by omega)) x12
    · skip
      walk_at "g"
      intro pa hpa
      generalize hSS : DL.sup S4 pa _ = S5
      obtain ⟨epa, ypa, -⟩ := sup_of hSS
      have ypa := ypa hpa
      have npa := hd4.ne hpa
      have hd5 := hd4.ext ypa
      have x5 := x4.trans (ExtB.ext ypa)
      clear hSS
      walk_at "w"
      refine ⟨a, 2, _, rfl, hd5, by omega, by decide, ?_⟩
      rintro ga S6 ga0 ga1 hd6 g6
      have x6 := x5.trans (ExtB.of g6)
      walk_at "w"
      obtain ⟨ua, eua, ua0, ua1⟩ := pk (xs := [D.int 1, .int 30]) (lo := 1) (hi := 30) ga0 (by exact Int.lt_of_lt_of_le ga1 (Int.le_of_eq rfl)) (List.forall_mem_cons.mpr ⟨⟨_, rfl, by omega, by omega⟩, (List.forall_mem_cons.mpr ⟨⟨_, rfl, by omega, by omega⟩, (fun _ z => absurd z List.not_mem_nil)⟩)⟩)
      refine ⟨_, _, .inl ⟨pa, rfl, (g6 pa npa).trans epa⟩, eua, ?_⟩
      walk_at "w"
      intro pb hpb
      generalize hSS : DL.sup S6 pb _ = S7
      obtain ⟨epb, ypb, -⟩ := sup_of hSS
      have ypb := ypb hpb
      have npb := hd6.ne hpb
      have hd7 := hd6.ext ypb
      have x7 := x6.trans (ExtB.ext ypb)
      clear hSS
      walk_at "w"
      refine ⟨a, 3, _, rfl, hd7, by omega, by decide, ?_⟩
      rintro gb S8 gb0 gb1 hd8 g8
      have x8 := x7.trans (ExtB.of g8)
      walk_at "w"
      obtain ⟨ub, eub, ub0, ub1⟩ := pk (xs := [D.int 2, .int 5, .int 51]) (lo := 1) (hi := 51) gb0 (by exact Int.lt_of_lt_of_le gb1 (Int.le_of_eq rfl)) (List.forall_mem_cons.mpr ⟨⟨_, rfl, by omega, by omega⟩, (List.forall_mem_cons.mpr ⟨⟨_, rfl, by omega, by omega⟩, (List.forall_mem_cons.mpr ⟨⟨_, rfl, by omega, by omega⟩, (fun _ z => absurd z List.not_mem_nil)⟩)⟩)⟩)
      refine ⟨_, _, .inl ⟨pb, rfl, (g8 pb npb).trans epb⟩, eub, ?_⟩
      walk_at "w"
      refine ⟨a, ub, _, rfl, hd8, by omega, by omega, ?_⟩
      rintro vb S9 vb0 vb1 hd9 g9
      have x9 := x8.trans (ExtB.of g9)
      walk_at "w"
      obtain ⟨nb, rfl⟩ := Int.eq_ofNat_of_zero_le vb0
      obtain ⟨na, rfl⟩ := Int.eq_ofNat_of_zero_le (show 0 ≤ ua by omega)
      refine ⟨a, nb, m, na, _, rfl, hd9, by omega, by omega, by omega, by omega, by omega, ?_⟩
      rintro A S10 hA hAl hd10 z10
      have x10 := x9.trans z10
      walk_at "w"
      intro pc hpc
      generalize hSS : DL.sup S10 pc _ = S11
      obtain ⟨epc, ypc, -⟩ := sup_of hSS
      have ypc := ypc hpc
      have npc := hd10.ne hpc
      have hd11 := hd10.ext ypc
      have x11 := x10.trans (ExtB.ext ypc)
      clear hSS
      walk_at "w"
      refine ⟨a, 3, _, rfl, hd11, by omega, by decide, ?_⟩
      rintro gc S12 gc0 gc1 hd12 g12
      have x12 := x11.trans (ExtB.of g12)
      walk_at "w"
      obtain ⟨uc, euc, uc0, uc1⟩ := pk (xs := [D.int 1, .int 4, .int 50]) (lo := 1) (hi := 50) gc0 (by exact Int.lt_of_lt_of_le gc1 (Int.le_of_eq rfl)) (List.forall_mem_cons.mpr ⟨⟨_, rfl, by omega, by omega⟩, (List.forall_mem_cons.mpr ⟨⟨_, rfl, by omega, by omega⟩, (List.forall_mem_cons.mpr ⟨⟨_, rfl, by omega, by omega⟩, (fun _ z => absurd z List.not_mem_nil)⟩)⟩)⟩)
      refine ⟨_, _, .inl ⟨pc, rfl, (g12 pc npc).trans epc⟩, euc, ?_⟩
      walk_at "w"
      refine ⟨a, uc, _, rfl, hd12, by omega, by omega, ?_⟩
      rintro vc S13 vc0 vc1 hd13 g13
      have x13 := x12.trans (ExtB.of g13)
      walk_at "w"
      obtain ⟨nc, hnc⟩ : ∃ n : Nat, 1 + vc = (n : Int) := ⟨(1 + vc).toNat, by omega⟩
      rw [hnc]
      refine ⟨a, nc, m, na, _, rfl, hd13, by omega, by omega, by omega, by omega, by omega, ?_⟩
      rintro B S14 hB hBl hd14 z14
      have x14 := x13.trans z14
      walk_at "w"
      have hBne : B ≠ [] := List.length_pos_iff.mp (by omega)
      have hlv : LvOk A B := lv_of hA hB hm1 (by omega) (by omega) hBne
      have hA' := hlv.ok.1
      have hB' := hlv.ok.2
      have l1 := rw_len hA'
      have l2 := rw_len hB'
      have l3 := len8
      have l4 := len12
      refine ⟨_, rfl, ?_⟩
      walk_at "w"
      refine ⟨A, rfl, hA', ?_⟩
      walk_at "w"
      refine ⟨by show (if A = [] then ("-" : Str) else rowS A).length + (" | " : Str).length ≤ 16777216; split <;> omega, ?_⟩
      walk_at "w"
      refine ⟨_, rfl, ?_⟩
      walk_at "w"
      refine ⟨B, rfl, hB', ?_⟩
      rw [if_neg hBne]
      walk_at "w"
      refine ⟨by show ((if A = [] then ("-" : Str) else rowS A) ++ (" | " : Str)).length + (rowS B).length ≤ 16777216; rw [app_len]; split <;> omega, ?_⟩
      exact h _ _ S14 (.leaves A B hlv) (hd14.mono (by omega)) x14
    · skip
      walk_at "g"
      intro pa hpa
      generalize hSS : DL.sup S4 pa _ = S5
      obtain ⟨epa, ypa, -⟩ := sup_of hSS
      have ypa := ypa hpa
      have npa := hd4.ne hpa
      have hd5 := hd4.ext ypa
      have x5 := x4.trans (ExtB.ext ypa)
      clear hSS
      walk_at "w"
      refine ⟨a, 3, _, rfl, hd5, by omega, by decide, ?_⟩
      rintro ga S6 ga0 ga1 hd6 g6
      have x6 := x5.trans (ExtB.of g6)
      walk_at "w"
      obtain ⟨ua, eua, ua0, ua1⟩ := pk (xs := [D.int 2, .int 9, .int 301]) (lo := 1) (hi := 301) ga0 (by exact Int.lt_of_lt_of_le ga1 (Int.le_of_eq rfl)) (List.forall_mem_cons.mpr ⟨⟨_, rfl, by omega, by omega⟩, (List.forall_mem_cons.mpr ⟨⟨_, rfl, by omega, by omega⟩, (List.forall_mem_cons.mpr ⟨⟨_, rfl, by omega, by omega⟩, (fun _ z => absurd z List.not_mem_nil)⟩)⟩)⟩)
      refine ⟨_, _, .inl ⟨pa, rfl, (g6 pa npa).trans epa⟩, eua, ?_⟩
      walk_at "w"
      refine ⟨a, ua, _, rfl, hd6, by omega, by omega, ?_⟩
      rintro va S7 va0 va1 hd7 g7
      have x7 := x6.trans (ExtB.of g7)
      walk_at "w"
      obtain ⟨na, rfl⟩ := Int.eq_ofNat_of_zero_le va0
      refine ⟨a, na, _, rfl, hd7, by omega, by omega, ?_⟩
      rintro A S8 hA hAl hd8 z8
      have x8 := x7.trans z8
      walk_at "w"
      have hsh : Tr 4 (tI A) (tossS A) := .toss A hA
      unfold tossS at hsh
      refine .inl ⟨_, rfl, rfl, ?_⟩
      walk_at "w"
      by_cases c : A = []
      · rw [if_pos c] at hsh
        subst c
        refine IFB.f rfl ?_
        walk_at "w"
        exact h _ _ S8 hsh (hd8.mono (by omega)) x8
      · rw [if_neg c] at hsh
        refine IFB.t (by cases A with | nil => exact absurd rfl c | cons a l => rfl) ?_
        walk_at "w"
        refine ⟨A, rfl, hA.sg, ?_⟩
        walk_at "w"
        exact h _ _ S8 hsh (hd8.mono (by omega)) x8
    · skip
      walk_at "g"
      intro pa hpa
      generalize hSS : DL.sup S4 pa _ = S5
      obtain ⟨epa, ypa, -⟩ := sup_of hSS
      have ypa := ypa hpa
      have npa := hd4.ne hpa
      have hd5 := hd4.ext ypa
      have x5 := x4.trans (ExtB.ext ypa)
      clear hSS
      walk_at "w"
      refine ⟨a, 2, _, rfl, hd5, by omega, by decide, ?_⟩
      rintro ga S6 ga0 ga1 hd6 g6
      have x6 := x5.trans (ExtB.of g6)
      walk_at "w"
      obtain ⟨ua, eua, ua0, ua1⟩ := pk (xs := [D.int 1, .int 3]) (lo := 1) (hi := 3) ga0 (by exact Int.lt_of_lt_of_le ga1 (Int.le_of_eq rfl)) (List.forall_mem_cons.mpr ⟨⟨_, rfl, by omega, by omega⟩, (List.forall_mem_cons.mpr ⟨⟨_, rfl, by omega, by omega⟩, (fun _ z => absurd z List.not_mem_nil)⟩)⟩)
      refine ⟨_, _, .inl ⟨pa, rfl, (g6 pa npa).trans epa⟩, eua, ?_⟩
      walk_at "w"
      refine ⟨small_r (by omega) (by omega), ?_⟩
      walk_at "w"
      generalize hM : (if _ < (60 : Int) then _ else (60 : Int)) = M
      have hM60 : M ≤ 60 ∧ 1 ≤ M := by
        have : (m : Int) * 1 ≤ (m : Int) * ua := Int.mul_le_mul_of_nonneg_left (by omega) (by omega)
        rw [← hM]
        split <;> omega
      clear hM
      refine ⟨⟨by omega, by omega⟩, ?_⟩
      refine lc_rgW (fun i acc S' => ∃ cs : List (Int × (Int × Int) × Int), acc = cs.map cD ∧ cs.length = i ∧ (∀ c ∈ cs, Ce c) ∧ WellD S' a (c + 10 + 13 * (i : Int)) ∧ ExtB a S S') ⟨[], rfl, rfl, (fun _ z => nomatch z), hd6.mono (by omega), x6⟩ ?_ ?_
      · rintro i acc T hi ⟨cs, rfl, hcl, hcs, hdT, xT⟩
        have hi : i < 60 := by omega
        walk_at "w"
        refine IFB.t rfl ?_
        walk_at "w"
        intro q hq
        generalize hSS : DL.sup T q _ = T1
        obtain ⟨eq, yq, -⟩ := sup_of hSS
        have yq := yq hq
        have nq := hdT.ne hq
        have hdT1 := hdT.ext yq
        clear hSS
        walk_at "w"
        refine ⟨a, 2, _, rfl, hdT1, by omega, by decide, ?_⟩
        rintro gd T2 gd0 gd1 hdT2 gT2
        walk_at "w"
        obtain ⟨ud, eud, ud0, ud1⟩ := pk (xs := [D.int 1, .int 30]) (lo := 1) (hi := 30) gd0 (by exact Int.lt_of_lt_of_le gd1 (Int.le_of_eq rfl)) (List.forall_mem_cons.mpr ⟨⟨_, rfl, by omega, by omega⟩, (List.forall_mem_cons.mpr ⟨⟨_, rfl, by omega, by omega⟩, (fun _ z => absurd z List.not_mem_nil)⟩)⟩)
        refine ⟨_, _, .inl ⟨q, rfl, (gT2 q nq).trans eq⟩, eud, ?_⟩
        obtain ⟨nd, rfl⟩ := Int.eq_ofNat_of_zero_le (show 0 ≤ ud by omega)
        walk_at "w"
        refine ⟨a, nd, _, rfl, hdT2, by omega, by omega, by omega, ?_⟩
        rintro ce T3 hce hdT3 xT3
        refine ⟨by rw [List.length_map]; show _ < 16777216; omega, cs ++ [ce], by rw [List.map_append]; rfl, by rw [List.length_append, hcl]; rfl, fun z hz => ?_, hdT3.mono (by omega), ((xT.trans (ExtB.ext yq)).trans (ExtB.of gT2)).trans xT3⟩
        rcases List.mem_append.mp hz with w | w
        · exact hcs z w
        · rw [List.mem_singleton.mp w]; exact hce
      · rintro T q acc ⟨cs, rfl, hcl, hcs, hdT, xT⟩ hq
        generalize hSS : DL.sup T q _ = T2
        obtain ⟨e2, y2, -⟩ := sup_of hSS
        have y2 := y2 hq
        clear hSS
        have hok : Ces cs := ⟨List.length_pos_iff.mp (by omega), by omega, hcs⟩
        walk_at "w"
        refine ⟨_, .inl ⟨q, rfl, e2⟩, ?_⟩
        walk_at "w"
        refine ⟨cs, rfl, hok.ce, ?_⟩
        walk_at "w"
        exact h _ _ T2 (.table cs hok) ((hdT.ext y2).mono (by omega)) (xT.trans (ExtB.ext y2))
    · skip
      walk_at "g"
      refine ⟨a, _, rfl, hd4, by omega, ?_⟩
      rintro n b rs S5 hM hn hd5 z5
      have x5 := x4.trans z5
      walk_at "w"
      refine ⟨n, b, rs, rfl, hM.ma hn, ?_⟩
      walk_at "w"
      exact h _ _ S5 (.mach n b rs hM hn) (hd5.mono (by omega)) x5
end K41
set_option Elab.async false
set_option linter.all false
set_option maxRecDepth 100000
set_option maxHeartbeats 4000000
namespace K41
open PySem PySem.Spec PyProof.Rows L2 DL
local macro_rules | `(tactic| walk_at "w") => `(tactic| conv => whnf)
local macro_rules | `(tactic| walk_at "g") => `(tactic| ((conv => whnf); repeat' (first | (refine IFB.t ?_ ?_; rfl; conv => whnf) | (refine IFB.f ?_ ?_; rfl; conv => whnf))))
set_option exponentiation.threshold 20000

def eD (e : Int × D × Str) : D := .tup [.int e.1, e.2.1, .str e.2.2]
def sp_law : DSp := fun ds S Q _ => ∃ xs : List Int, ds = [.fro (xs.map D.int)] ∧ xs.length ≤ 63 ∧ ∀ S', Q (.bl true) S'
theorem ok_law {P : Program} {w : World} {K : PySem.W.Frag} {mg : Str → Option Value} {base : Heap} (T : Txt K mg) (hm : HM T P w base) : FnOk P w K mg base (L2.CX P w) 44 T.a_law T.fd_law ["script"] (toSp K sp_law) := by
  refine fnD T.F_law sc_law (fun ds S Q E h => ?_) (fun cdv A outer s H E RX hr => ⟨_, (pds_cons (pd_set 1 sc_law.nd (pd_lst pda_nil))
    (pds_cons (pd_for (passes_of rfl) rfl (pdi_range1 T.b_range (pda_cons (pd_blt (cd_max2 rfl) T.b_max (by decide +kernel) (pda_cons pd_int (pda_cons (pd_blt (cd_min2 rfl) T.b_min (by decide +kernel) (pda_cons pd_int (pda_cons (pd_blt cd_len T.b_len (by decide +kernel) (pda_cons (pd_var 0) pda_nil)) pda_nil))) pda_nil))) pda_nil)) (pdg_name 2 sc_law.nd) (pds_cons (pd_set 3 sc_law.nd (pd_call (takes_of rfl rfl rfl rfl) (ok_law_well T) (hr.mono (by decide)) T.m_law_well T.F_law_well.kp T.d_law_well (pda_cons (pd_var 0) (pda_cons (pd_var 2) pda_nil))))
    (pds_one (pd_for (passes_of rfl) rfl (pdi_range1 T.b_range (pda_cons pd_int pda_nil)) (pdg_name 4 sc_law.nd) (pds_cons (pd_asg (pd_call (takes_of rfl rfl rfl rfl) (ok_law_door T hm) (hr.mono (by decide)) T.m_law_door T.F_law_door.kp T.d_law_door (pda_cons (pd_var 3) (pda_cons (pd_var 4) (pda_cons pd_int (pda_cons pd_int pda_nil))))) (pdg_tup rfl (pdgs_cons (pdg_name 5 sc_law.nd) (pdgs_cons (pdg_name 6 sc_law.nd) pdgs_nil))))
    (pds_cons (pd_set 7 sc_law.nd (pd_call (takes_of rfl rfl rfl rfl) (ok_law_read T hm) (hr.mono (by decide)) T.m_law_read T.F_law_read.kp T.d_law_read (pda_cons (pd_var 4) (pda_cons (pd_var 6) (pda_cons (pd_cmp (od_eq hr.units) (pd_call (takes_of rfl rfl rfl rfl) (ok_law_draw T hm) (hr.mono (by decide)) T.m_law_draw T.F_law_draw.kp T.d_law_draw (pda_cons (pd_var 3) (pda_cons pd_int pda_nil))) pd_int) pda_nil)))))
    (pds_cons (pd_ifS (PDW.pt (pdw_or (pdt_not (pdt_tru (pd_call (takes_of rfl rfl rfl rfl) (ok_law_same T) (hr.mono (by decide)) T.m_law_same T.F_law_same.kp T.d_law_same (pda_cons (pd_var 7) (pda_cons (pd_var 5) pda_nil))))) (pdw_or1 (pdt_not (pdt_tru (pd_call (takes_of rfl rfl rfl rfl) (ok_law_same T) (hr.mono (by decide)) T.m_law_same T.F_law_same.kp T.d_law_same (pda_cons (pd_call (takes_of rfl rfl rfl rfl) (ok_law_shown T hm) (hr.mono (by decide)) T.m_law_shown T.F_law_shown.kp T.d_law_shown (pda_cons (pd_var 4) (pda_cons (pd_var 7) pda_nil))) (pda_cons (pd_var 6) pda_nil)))))))) (pds_one (pd_ret pd_bl)) pds_nil)
    (pds_one (pd_expr (pd_lm PySem.F.slot_list_append PySem.F.type_list_append md_append (pd_var 1) (pda_cons (pd_tup (pda_cons (pd_var 4) (pda_cons (pd_var 5) (pda_cons (pd_var 6) pda_nil)))) pda_nil)))))))))))
    (pds_cons (pd_for (passes_of rfl) rfl (pdi_it (pd_rev (pd_var 1))) (pdg_tup rfl (pdgs_cons (pdg_name 4 sc_law.nd) (pdgs_cons (pdg_name 5 sc_law.nd) (pdgs_cons (pdg_name 6 sc_law.nd) pdgs_nil)))) (pds_one (pd_ifS (pdt_not (pdt_tru (pd_call (takes_of rfl rfl rfl rfl) (ok_law_same T) (hr.mono (by decide)) T.m_law_same T.F_law_same.kp T.d_law_same (pda_cons (pd_call (takes_of rfl rfl rfl rfl) (ok_law_read T hm) (hr.mono (by decide)) T.m_law_read T.F_law_read.kp T.d_law_read (pda_cons (pd_var 4) (pda_cons (pd_var 6) (pda_cons (pd_cmp od_lt (pd_blt cd_len T.b_len (by decide +kernel) (pda_cons (pd_var 6) pda_nil)) pd_int) pda_nil)))) (pda_cons (pd_var 5) pda_nil))))) (pds_one (pd_ret pd_bl)) pds_nil)))
    (pds_one (pd_ret pd_bl))))), fun ds S Q h => ?_⟩)
  · obtain ⟨_, rfl, _⟩ := h
    rfl
  · obtain ⟨xs, rfl, hxl, h⟩ := h
    walk_at "w"
    intro pr hpr
    generalize hSS : DL.sup S pr _ = S0
    obtain ⟨epr0, -, -⟩ := sup_of hSS
    clear hSS hpr
    walk_at "w"
    refine ⟨_, .inr rfl, ?_⟩
    walk_at "w"
    rw [List.length_map]
    generalize hm : (if _ > (1 : Int) then _ else (1 : Int)) = m
    have hm8 : m ≤ 6 ∧ 0 ≤ m := by rw [← hm]; split <;> split at * <;> omega
    clear hm
    refine ⟨⟨by omega, by omega⟩, for_rg (fun i ρ' S' => ∃ (es : List (Int × D × Str)) (o2 o3 o4 o5 o6 o7 : Option D), ρ' = [some (.fro (xs.map D.int)), some (.ref pr), o2, o3, o4, o5, o6, o7] ∧ S' pr = some (.lst (es.map eD)) ∧ (∀ e ∈ es, Tr e.1 e.2.1 e.2.2) ∧ es.length ≤ 7 * i) ⟨[], _, _, _, _, _, _, rfl, epr0, (fun _ z => nomatch z), Nat.le_refl _⟩ ?_ ?_⟩
    · rintro i _ S1 hi ⟨es0, o2, o3, o4, o5, o6, o7, rfl, epr1, hes0, hel0⟩
      have hi : i < 6 := by omega
      walk_at "w"
      refine ⟨xs, 0 + (i : Int), rfl, by omega, by omega, ?_⟩
      rintro a S2 ha hda fr
      have npr : pr ≠ a := fun z => by rw [← z, epr1] at ha; cases ha
      have epr1 := (fr pr npr).trans epr1
      walk_at "w"
      refine ⟨⟨by decide, by decide⟩, for_rg (fun j ρ' S' => ∃ (es : List (Int × D × Str)) (o4 o5 o6 o7 : Option D), ρ' = [some (.fro (xs.map D.int)), some (.ref pr), some (.int (0 + (i : Int))), some (.ref a), o4, o5, o6, o7] ∧ S' pr = some (.lst (es.map eD)) ∧ (∀ e ∈ es, Tr e.1 e.2.1 e.2.2) ∧ es.length ≤ 7 * i + j ∧ WellD S' a (31000 * (j : Int)) ∧ pr ≠ a) ⟨es0, _, _, _, _, rfl, epr1, hes0, by omega, hda.mono (by omega), npr⟩ ?_ ?_⟩
      · rintro j _ S2 hj ⟨es, o4, o5, o6, o7, rfl, epr2, hes, hel, hd2, npr⟩
        have hj : j < 7 := hj
        have x2 := ExtB.refl a S2
        walk_at "w"
        refine ⟨a, _, _, rfl, hd2, by omega, by omega, by omega, ?_⟩
        rintro th said S3 hsh hd3 z3
        have x3 := x2.trans z3
        walk_at "w"
        refine ⟨rfl, ?_⟩
        walk_at "w"
        refine ⟨a, 2, _, rfl, hd3, by omega, by decide, ?_⟩
        rintro nm S4 nm0 nm1 hd4 g4
        have x4 := x3.trans (ExtB.of g4)
        walk_at "w"
        refine ⟨_, th, said, _, rfl, hsh, ?_⟩
        walk_at "w"
        refine ⟨th, rfl, hsh.ok, ?_⟩
        walk_at "g"
        refine ⟨_, th, said, rfl, hsh, ?_⟩
        walk_at "w"
        refine ⟨.str said, rfl, trivial, ?_⟩
        walk_at "g"
        have epr4 : S4 pr = some (.lst (es.map eD)) := x4 pr _ npr epr2
        refine ⟨⟨_, epr4⟩, ?_⟩
        walk_at "w"
        refine ⟨_, epr4, by rw [List.length_map]; show _ < 16777216; omega, ?_⟩
        walk_at "w"
        refine ⟨es ++ [(0 + (j : Int), th, said)], _, _, _, _, rfl, by rw [sup_same, List.map_append]; rfl, fun e he => ?_, by rw [List.length_append]; show _ + 1 ≤ _; omega, (hd4.put npr).mono (by omega), npr⟩
        rcases List.mem_append.mp he with w | w
        · exact hes e w
        · rw [List.mem_singleton.mp w]; exact hsh
      · rintro _ S2 ⟨es, o4, o5, o6, o7, rfl, epr2, hes, hel, hd2, npr⟩
        rw [show (7 : Int).toNat = 7 from rfl] at hel
        walk_at "w"
        exact ⟨es, _, _, _, _, _, _, rfl, epr2, hes, by omega⟩
    · rintro _ S1 ⟨es, o2, o3, o4, o5, o6, o7, rfl, epr1, hes, hel⟩
      have hel : es.length ≤ 42 := by omega
      walk_at "w"
      refine ⟨_, .inl ⟨pr, rfl, epr1⟩, ?_⟩
      intro p2 hp2
      generalize hSS : DL.sup S1 p2 _ = S2
      obtain ⟨e2, -, -⟩ := sup_of hSS
      clear hSS hp2
      rw [← List.map_reverse] at e2
      have hes : ∀ e ∈ es.reverse, Tr e.1 e.2.1 e.2.2 := fun e he => hes e (List.mem_reverse.mp he)
      generalize es.reverse = er at *
      walk_at "w"
      refine ⟨_, .inl ⟨p2, rfl, e2⟩, ?_⟩
      refine for_xs (fun k ρ' S' => S' p2 = some (.lst (er.map eD)) ∧ ∃ o2 o3 o4 o5 o6 o7 : Option D, ρ' = [some (.fro (xs.map D.int)), some (.ref pr), o2, o3, o4, o5, o6, o7]) ⟨e2, _, _, _, _, _, _, rfl⟩ (fun _ _ _ hh => .inl ⟨p2, rfl, hh.1⟩) ?_ ?_
      · rintro k x _ S3 hk ⟨e3, o2, o3, o4, o5, o6, o7, rfl⟩
        obtain ⟨e, he, rfl⟩ := map_at hk
        have hse := hes e (List.mem_of_getElem? he)
        have hl := hse.len
        walk_at "w"
        refine ⟨rfl, ?_⟩
        walk_at "w"
        refine ⟨by show _ ≤ 16777216; omega, ?_⟩
        walk_at "w"
        refine ⟨e.1, e.2.1, e.2.2, _, rfl, hse, ?_⟩
        walk_at "w"
        refine ⟨e.2.1, rfl, hse.ok, ?_⟩
        walk_at "g"
        exact ⟨e3, _, _, _, _, _, _, rfl⟩
      · rintro _ S3 ⟨e3, o2, o3, o4, o5, o6, o7, rfl⟩
        walk_at "w"
        exact h _
end K41
set_option Elab.async false
set_option linter.all false
set_option maxRecDepth 100000
set_option maxHeartbeats 4000000
namespace K41
open PySem PySem.Spec PyProof.Rows L2 DL
local macro_rules | `(tactic| walk_at "w") => `(tactic| conv => whnf)
local macro_rules | `(tactic| walk_at "g") => `(tactic| ((conv => whnf); repeat' (first | (refine IFB.t ?_ ?_; rfl; conv => whnf) | (refine IFB.f ?_ ?_; rfl; conv => whnf))))
set_option exponentiation.threshold 20000

def KEnt (es : Array DictEntry) : Prop := es.size = 2 ∧ ∃ e0 e1 : DictEntry, es[0]? = some e0 ∧ es[1]? = some e1 ∧ (RelV (.str "to") e0.key ∧ RelV (.str "s") e0.val) ∧ RelV (.str "is") e1.key ∧ RelV (.str "i") e1.val
theorem kit_of {K : PySem.W.Frag} {z : Addr} {es : Array DictEntry} {n : Nat} (hz : (z == sysModules) = false) (hl : K.lookup z = some ⟨.type "dict", none, .dict es n, #[]⟩) (he : KEnt es) : KIt K z [("to", "s"), ("is", "i")] := by
  obtain ⟨h2, e0, e1, a0, a1, r0, r1⟩ := he
  refine ⟨hz, es, n, hl, h2, fun i k v e => ?_⟩
  match i, e with
  | 0, e => cases (Option.some.inj e); exact ⟨e0, a0, r0⟩
  | 1, e => cases (Option.some.inj e); exact ⟨e1, a1, r1⟩
theorem end_law (ns : List Int) (h : ns.length ≤ 63) (S : Sto) : sp_law [.fro (ns.map D.int)] S (fun d _ => d = .bl true) (fun _ _ _ => False) := ⟨ns, rfl, h, fun _ => rfl⟩
theorem all_of {l : PySem.W.OpenLaw} {w : World} {K : PySem.W.Frag} {mg : Str → Option Value} {fa : Addr} (T : Txt K mg) (htree : l.prog.given.tree = none) (hit : KIt K T.z_SIGNS [("to", "s"), ("is", "i")]) (sg : ∀ s v, sgF s = some v → KDct K w T.z_SIGNS s (.str v)) (hfa : mg "law" = some (.ref fa)) :
    ∃ fd : FuncData, (∀ (s : Shared) (u : Value), BindsTo s fd ⟨[u], []⟩ [("script", u)]) ∧ ∀ base : Heap, K.In base → base.Ns mainGlobals mg → Seer base → FnOk l.prog w K mg base (L2.CX l.prog w) 44 fa fd ["script"] (toSp K sp_law) := by
  have e := hfa.symm.trans T.m_law
  cases e
  exact ⟨T.fd_law, law_binds T.F_law fun _ _ _ _ _ _ _ => rfl, fun base _ _ hs => ok_law T ⟨hs, htree, hit, sg⟩⟩
theorem all_mk {l : PySem.W.OpenLaw} {w : World} {K : PySem.W.Frag} {h : Heap} {mg : Str → Option Value} {fa : Addr} (X : K.In h) (G : h.Ns mainGlobals mg) (hfa : mg "law" = some (.ref fa))
    {g0 : Addr} {od0 an0 : Option Addr} {sl0 : Array (Option Value)} {oc0 kV0 dc0 pm0 cd0 ct0 : Value}
    {g1 : Addr} {od1 an1 : Option Addr} {sl1 : Array (Option Value)} {oc1 kV1 dc1 pm1 cd1 ct1 : Value}
    {g2 : Addr} {od2 an2 : Option Addr} {sl2 : Array (Option Value)} {oc2 kV2 dc2 pm2 cd2 ct2 : Value}
    {g3 : Addr} {od3 an3 : Option Addr} {sl3 : Array (Option Value)} {oc3 kV3 dc3 pm3 cd3 ct3 : Value}
    {g4 : Addr} {od4 an4 : Option Addr} {sl4 : Array (Option Value)} {oc4 kV4 dc4 pm4 cd4 ct4 : Value}
    {g5 : Addr} {od5 an5 : Option Addr} {sl5 : Array (Option Value)} {oc5 kV5 dc5 pm5 cd5 ct5 : Value}
    {g6 : Addr} {od6 an6 : Option Addr} {sl6 : Array (Option Value)} {oc6 kV6 dc6 pm6 cd6 ct6 : Value}
    {g7 : Addr} {od7 an7 : Option Addr} {sl7 : Array (Option Value)} {oc7 kV7 dc7 pm7 cd7 ct7 : Value}
    {g8 : Addr} {od8 an8 : Option Addr} {sl8 : Array (Option Value)} {oc8 kV8 dc8 pm8 cd8 ct8 : Value}
    {g9 : Addr} {od9 an9 : Option Addr} {sl9 : Array (Option Value)} {oc9 kV9 dc9 pm9 cd9 ct9 : Value}
    {g10 : Addr} {od10 an10 : Option Addr} {sl10 : Array (Option Value)} {oc10 kV10 dc10 pm10 cd10 ct10 : Value}
    {g11 : Addr} {od11 an11 : Option Addr} {sl11 : Array (Option Value)} {oc11 kV11 dc11 pm11 cd11 ct11 : Value}
    {g12 : Addr} {od12 an12 : Option Addr} {sl12 : Array (Option Value)} {oc12 kV12 dc12 pm12 cd12 ct12 : Value}
    {g13 : Addr} {od13 an13 : Option Addr} {sl13 : Array (Option Value)} {oc13 kV13 dc13 pm13 cd13 ct13 : Value}
    {g14 : Addr} {od14 an14 : Option Addr} {sl14 : Array (Option Value)} {oc14 kV14 dc14 pm14 cd14 ct14 : Value}
    {g15 : Addr} {od15 an15 : Option Addr} {sl15 : Array (Option Value)} {oc15 kV15 dc15 pm15 cd15 ct15 : Value}
    {g16 : Addr} {od16 an16 : Option Addr} {sl16 : Array (Option Value)} {oc16 kV16 dc16 pm16 cd16 ct16 : Value}
    {g17 : Addr} {od17 an17 : Option Addr} {sl17 : Array (Option Value)} {oc17 kV17 dc17 pm17 cd17 ct17 : Value}
    {g18 : Addr} {od18 an18 : Option Addr} {sl18 : Array (Option Value)} {oc18 kV18 dc18 pm18 cd18 ct18 : Value}
    {g19 : Addr} {od19 an19 : Option Addr} {sl19 : Array (Option Value)} {oc19 kV19 dc19 pm19 cd19 ct19 : Value}
    {g20 : Addr} {od20 an20 : Option Addr} {sl20 : Array (Option Value)} {oc20 kV20 dc20 pm20 cd20 ct20 : Value}
    {g21 : Addr} {od21 an21 : Option Addr} {sl21 : Array (Option Value)} {oc21 kV21 dc21 pm21 cd21 ct21 : Value}
    {g22 : Addr} {od22 an22 : Option Addr} {sl22 : Array (Option Value)} {oc22 kV22 dc22 pm22 cd22 ct22 : Value}
    {g23 : Addr} {od23 an23 : Option Addr} {sl23 : Array (Option Value)} {oc23 kV23 dc23 pm23 cd23 ct23 : Value}
    {g24 : Addr} {od24 an24 : Option Addr} {sl24 : Array (Option Value)} {oc24 kV24 dc24 pm24 cd24 ct24 : Value}
    {g25 : Addr} {od25 an25 : Option Addr} {sl25 : Array (Option Value)} {oc25 kV25 dc25 pm25 cd25 ct25 : Value}
    {g26 : Addr} {od26 an26 : Option Addr} {sl26 : Array (Option Value)} {oc26 kV26 dc26 pm26 cd26 ct26 : Value}
    {g27 : Addr} {od27 an27 : Option Addr} {sl27 : Array (Option Value)} {oc27 kV27 dc27 pm27 cd27 ct27 : Value}
    {g28 : Addr} {od28 an28 : Option Addr} {sl28 : Array (Option Value)} {oc28 kV28 dc28 pm28 cd28 ct28 : Value}
    {g29 : Addr} {od29 an29 : Option Addr} {sl29 : Array (Option Value)} {oc29 kV29 dc29 pm29 cd29 ct29 : Value}
    {g30 : Addr} {od30 an30 : Option Addr} {sl30 : Array (Option Value)} {oc30 kV30 dc30 pm30 cd30 ct30 : Value}
    {g31 : Addr} {od31 an31 : Option Addr} {sl31 : Array (Option Value)} {oc31 kV31 dc31 pm31 cd31 ct31 : Value}
    {g32 : Addr} {od32 an32 : Option Addr} {sl32 : Array (Option Value)} {oc32 kV32 dc32 pm32 cd32 ct32 : Value}
    {g33 : Addr} {od33 an33 : Option Addr} {sl33 : Array (Option Value)} {oc33 kV33 dc33 pm33 cd33 ct33 : Value}
    {g34 : Addr} {od34 an34 : Option Addr} {sl34 : Array (Option Value)} {oc34 kV34 dc34 pm34 cd34 ct34 : Value}
    {g35 : Addr} {od35 an35 : Option Addr} {sl35 : Array (Option Value)} {oc35 kV35 dc35 pm35 cd35 ct35 : Value}
    {g36 : Addr} {od36 an36 : Option Addr} {sl36 : Array (Option Value)} {oc36 kV36 dc36 pm36 cd36 ct36 : Value}
    {g37 : Addr} {od37 an37 : Option Addr} {sl37 : Array (Option Value)} {oc37 kV37 dc37 pm37 cd37 ct37 : Value}
    {g38 : Addr} {od38 an38 : Option Addr} {sl38 : Array (Option Value)} {oc38 kV38 dc38 pm38 cd38 ct38 : Value}
    {g39 : Addr} {od39 an39 : Option Addr} {sl39 : Array (Option Value)} {oc39 kV39 dc39 pm39 cd39 ct39 : Value}
    {g40 : Addr} {od40 an40 : Option Addr} {sl40 : Array (Option Value)} {oc40 kV40 dc40 pm40 cd40 ct40 : Value}
    {g41 : Addr} {od41 an41 : Option Addr} {sl41 : Array (Option Value)} {oc41 kV41 dc41 pm41 cd41 ct41 : Value}
    {g42 : Addr} {od42 an42 : Option Addr} {sl42 : Array (Option Value)} {oc42 kV42 dc42 pm42 cd42 ct42 : Value}
    {g43 : Addr} {od43 an43 : Option Addr} {sl43 : Array (Option Value)} {oc43 kV43 dc43 pm43 cd43 ct43 : Value}
    {g44 : Addr} {od44 an44 : Option Addr} {sl44 : Array (Option Value)} {oc44 kV44 dc44 pm44 cd44 ct44 : Value}
    {g45 : Addr} {od45 an45 : Option Addr} {sl45 : Array (Option Value)} {oc45 kV45 dc45 pm45 cd45 ct45 : Value}
    {g46 : Addr} {od46 an46 : Option Addr} {sl46 : Array (Option Value)} {oc46 kV46 dc46 pm46 cd46 ct46 : Value}
    {g47 : Addr} {od47 an47 : Option Addr} {sl47 : Array (Option Value)} {oc47 kV47 dc47 pm47 cd47 ct47 : Value}
    {g48 : Addr} {od48 an48 : Option Addr} {sl48 : Array (Option Value)} {oc48 kV48 dc48 pm48 cd48 ct48 : Value}
    {g49 : Addr} {od49 an49 : Option Addr} {sl49 : Array (Option Value)} {oc49 kV49 dc49 pm49 cd49 ct49 : Value}
    {g50 : Addr} {od50 an50 : Option Addr} {sl50 : Array (Option Value)} {oc50 kV50 dc50 pm50 cd50 ct50 : Value}
    {g51 : Addr} {od51 an51 : Option Addr} {sl51 : Array (Option Value)} {oc51 kV51 dc51 pm51 cd51 ct51 : Value}
    {g52 : Addr} {od52 an52 : Option Addr} {sl52 : Array (Option Value)} {oc52 kV52 dc52 pm52 cd52 ct52 : Value}
    {g53 : Addr} {od53 an53 : Option Addr} {sl53 : Array (Option Value)} {oc53 kV53 dc53 pm53 cd53 ct53 : Value}
    {g54 : Addr} {od54 an54 : Option Addr} {sl54 : Array (Option Value)} {oc54 kV54 dc54 pm54 cd54 ct54 : Value}
    {g55 : Addr} {od55 an55 : Option Addr} {sl55 : Array (Option Value)} {oc55 kV55 dc55 pm55 cd55 ct55 : Value}
    {g56 : Addr} {od56 an56 : Option Addr} {sl56 : Array (Option Value)} {oc56 kV56 dc56 pm56 cd56 ct56 : Value}
    {g57 : Addr} {od57 an57 : Option Addr} {sl57 : Array (Option Value)} {oc57 kV57 dc57 pm57 cd57 ct57 : Value}
    {g58 : Addr} {od58 an58 : Option Addr} {sl58 : Array (Option Value)} {oc58 kV58 dc58 pm58 cd58 ct58 : Value}
    {g59 : Addr} {od59 an59 : Option Addr} {sl59 : Array (Option Value)} {oc59 kV59 dc59 pm59 cd59 ct59 : Value}
    {g60 : Addr} {od60 an60 : Option Addr} {sl60 : Array (Option Value)} {oc60 kV60 dc60 pm60 cd60 ct60 : Value}
    {g61 : Addr} {od61 an61 : Option Addr} {sl61 : Array (Option Value)} {oc61 kV61 dc61 pm61 cd61 ct61 : Value}
    {g62 : Addr} {od62 an62 : Option Addr} {sl62 : Array (Option Value)} {oc62 kV62 dc62 pm62 cd62 ct62 : Value}
    {g63 : Addr} {od63 an63 : Option Addr} {sl63 : Array (Option Value)} {oc63 kV63 dc63 pm63 cd63 ct63 : Value}
    {g64 : Addr} {od64 an64 : Option Addr} {sl64 : Array (Option Value)} {oc64 kV64 dc64 pm64 cd64 ct64 : Value}
    {g65 : Addr} {od65 an65 : Option Addr} {sl65 : Array (Option Value)} {oc65 kV65 dc65 pm65 cd65 ct65 : Value}
    {g66 : Addr} {od66 an66 : Option Addr} {sl66 : Array (Option Value)} {oc66 kV66 dc66 pm66 cd66 ct66 : Value}
    {g67 : Addr} {od67 an67 : Option Addr} {sl67 : Array (Option Value)} {oc67 kV67 dc67 pm67 cd67 ct67 : Value}
    {g68 : Addr} {od68 an68 : Option Addr} {sl68 : Array (Option Value)} {oc68 kV68 dc68 pm68 cd68 ct68 : Value}
    {g69 : Addr} {od69 an69 : Option Addr} {sl69 : Array (Option Value)} {oc69 kV69 dc69 pm69 cd69 ct69 : Value}
    {g70 : Addr} {od70 an70 : Option Addr} {sl70 : Array (Option Value)} {oc70 kV70 dc70 pm70 cd70 ct70 : Value}
    {zONE : Addr} {odONE : Option Addr} {nONE : Nat} {slONE : Array (Option Value)} {tONE0 : Tok} {tONE1 : Tok}
    {zZERO : Addr} {odZERO : Option Addr} {nZERO : Nat} {slZERO : Array (Option Value)} {tZERO0 : Tok} {tZERO1 : Tok}
    (a0 : PySem.W.nsIn K mainGlobals "is_integer" = some (some (.ref g0))) (l0 : K.lookup g0 = some ⟨oc0, od0, .func (PySem.W.fnOf "is_integer" "is_integer" (defArgs s_is_integer) (defBody s_is_integer) (defScope s_is_integer) .none kV0 dc0 pm0 an0 cd0 ct0), sl0⟩) (c0 : PySem.W.codeIn K cd0 "is_integer" = true) (k0 : PySem.W.keepIn K (.ref g0) = true)
    (a1 : PySem.W.nsIn K mainGlobals "is_natural" = some (some (.ref g1))) (l1 : K.lookup g1 = some ⟨oc1, od1, .func (PySem.W.fnOf "is_natural" "is_natural" (defArgs s_is_natural) (defBody s_is_natural) (defScope s_is_natural) .none kV1 dc1 pm1 an1 cd1 ct1), sl1⟩) (c1 : PySem.W.codeIn K cd1 "is_natural" = true) (k1 : PySem.W.keepIn K (.ref g1) = true)
    (a2 : PySem.W.nsIn K mainGlobals "is_below" = some (some (.ref g2))) (l2 : K.lookup g2 = some ⟨oc2, od2, .func (PySem.W.fnOf "is_below" "is_below" (defArgs s_is_below) (defBody s_is_below) (defScope s_is_below) .none kV2 dc2 pm2 an2 cd2 ct2), sl2⟩) (c2 : PySem.W.codeIn K cd2 "is_below" = true) (k2 : PySem.W.keepIn K (.ref g2) = true)
    (a3 : PySem.W.nsIn K mainGlobals "is_pair" = some (some (.ref g3))) (l3 : K.lookup g3 = some ⟨oc3, od3, .func (PySem.W.fnOf "is_pair" "is_pair" (defArgs s_is_pair) (defBody s_is_pair) (defScope s_is_pair) .none kV3 dc3 pm3 an3 cd3 ct3), sl3⟩) (c3 : PySem.W.codeIn K cd3 "is_pair" = true) (k3 : PySem.W.keepIn K (.ref g3) = true)
    (a4 : PySem.W.nsIn K mainGlobals "lowest" = some (some (.ref g4))) (l4 : K.lookup g4 = some ⟨oc4, od4, .func (PySem.W.fnOf "lowest" "lowest" (defArgs s_lowest) (defBody s_lowest) (defScope s_lowest) .none kV4 dc4 pm4 an4 cd4 ct4), sl4⟩) (c4 : PySem.W.codeIn K cd4 "lowest" = true) (k4 : PySem.W.keepIn K (.ref g4) = true)
    (a5 : PySem.W.nsIn K mainGlobals "is_number_of" = some (some (.ref g5))) (l5 : K.lookup g5 = some ⟨oc5, od5, .func (PySem.W.fnOf "is_number_of" "is_number_of" (defArgs s_is_number_of) (defBody s_is_number_of) (defScope s_is_number_of) .none kV5 dc5 pm5 an5 cd5 ct5), sl5⟩) (c5 : PySem.W.codeIn K cd5 "is_number_of" = true) (k5 : PySem.W.keepIn K (.ref g5) = true)
    (a6 : PySem.W.nsIn K mainGlobals "sum_of_two" = some (some (.ref g6))) (l6 : K.lookup g6 = some ⟨oc6, od6, .func (PySem.W.fnOf "sum_of_two" "sum_of_two" (defArgs s_sum_of_two) (defBody s_sum_of_two) (defScope s_sum_of_two) .none kV6 dc6 pm6 an6 cd6 ct6), sl6⟩) (c6 : PySem.W.codeIn K cd6 "sum_of_two" = true) (k6 : PySem.W.keepIn K (.ref g6) = true)
    (a7 : PySem.W.nsIn K mainGlobals "sum_of_all" = some (some (.ref g7))) (l7 : K.lookup g7 = some ⟨oc7, od7, .func (PySem.W.fnOf "sum_of_all" "sum_of_all" (defArgs s_sum_of_all) (defBody s_sum_of_all) (defScope s_sum_of_all) .none kV7 dc7 pm7 an7 cd7 ct7), sl7⟩) (c7 : PySem.W.codeIn K cd7 "sum_of_all" = true) (k7 : PySem.W.keepIn K (.ref g7) = true)
    (a8 : PySem.W.nsIn K mainGlobals "is_number" = some (some (.ref g8))) (l8 : K.lookup g8 = some ⟨oc8, od8, .func (PySem.W.fnOf "is_number" "is_number" (defArgs s_is_number) (defBody s_is_number) (defScope s_is_number) .none kV8 dc8 pm8 an8 cd8 ct8), sl8⟩) (c8 : PySem.W.codeIn K cd8 "is_number" = true) (k8 : PySem.W.keepIn K (.ref g8) = true)
    (a9 : PySem.W.nsIn K mainGlobals "is_shares_of" = some (some (.ref g9))) (l9 : K.lookup g9 = some ⟨oc9, od9, .func (PySem.W.fnOf "is_shares_of" "is_shares_of" (defArgs s_is_shares_of) (defBody s_is_shares_of) (defScope s_is_shares_of) .none kV9 dc9 pm9 an9 cd9 ct9), sl9⟩) (c9 : PySem.W.codeIn K cd9 "is_shares_of" = true) (k9 : PySem.W.keepIn K (.ref g9) = true)
    (a10 : PySem.W.nsIn K mainGlobals "is_shares" = some (some (.ref g10))) (l10 : K.lookup g10 = some ⟨oc10, od10, .func (PySem.W.fnOf "is_shares" "is_shares" (defArgs s_is_shares) (defBody s_is_shares) (defScope s_is_shares) .none kV10 dc10 pm10 an10 cd10 ct10), sl10⟩) (c10 : PySem.W.codeIn K cd10 "is_shares" = true) (k10 : PySem.W.keepIn K (.ref g10) = true)
    (a11 : PySem.W.nsIn K mainGlobals "joined" = some (some (.ref g11))) (l11 : K.lookup g11 = some ⟨oc11, od11, .func (PySem.W.fnOf "joined" "joined" (defArgs s_joined) (defBody s_joined) (defScope s_joined) .none kV11 dc11 pm11 an11 cd11 ct11), sl11⟩) (c11 : PySem.W.codeIn K cd11 "joined" = true) (k11 : PySem.W.keepIn K (.ref g11) = true)
    (a12 : PySem.W.nsIn K mainGlobals "show_number" = some (some (.ref g12))) (l12 : K.lookup g12 = some ⟨oc12, od12, .func (PySem.W.fnOf "show_number" "show_number" (defArgs s_show_number) (defBody s_show_number) (defScope s_show_number) .none kV12 dc12 pm12 an12 cd12 ct12), sl12⟩) (c12 : PySem.W.codeIn K cd12 "show_number" = true) (k12 : PySem.W.keepIn K (.ref g12) = true)
    (a13 : PySem.W.nsIn K mainGlobals "show_shares" = some (some (.ref g13))) (l13 : K.lookup g13 = some ⟨oc13, od13, .func (PySem.W.fnOf "show_shares" "show_shares" (defArgs s_show_shares) (defBody s_show_shares) (defScope s_show_shares) .none kV13 dc13 pm13 an13 cd13 ct13), sl13⟩) (c13 : PySem.W.codeIn K cd13 "show_shares" = true) (k13 : PySem.W.keepIn K (.ref g13) = true)
    (a14 : PySem.W.nsIn K mainGlobals "show_figures" = some (some (.ref g14))) (l14 : K.lookup g14 = some ⟨oc14, od14, .func (PySem.W.fnOf "show_figures" "show_figures" (defArgs s_show_figures) (defBody s_show_figures) (defScope s_show_figures) .none kV14 dc14 pm14 an14 cd14 ct14), sl14⟩) (c14 : PySem.W.codeIn K cd14 "show_figures" = true) (k14 : PySem.W.keepIn K (.ref g14) = true)
    (a15 : PySem.W.nsIn K mainGlobals "show_rows" = some (some (.ref g15))) (l15 : K.lookup g15 = some ⟨oc15, od15, .func (PySem.W.fnOf "show_rows" "show_rows" (defArgs s_show_rows) (defBody s_show_rows) (defScope s_show_rows) .none kV15 dc15 pm15 an15 cd15 ct15), sl15⟩) (c15 : PySem.W.codeIn K cd15 "show_rows" = true) (k15 : PySem.W.keepIn K (.ref g15) = true)
    (a16 : PySem.W.nsIn K mainGlobals "show_leaves" = some (some (.ref g16))) (l16 : K.lookup g16 = some ⟨oc16, od16, .func (PySem.W.fnOf "show_leaves" "show_leaves" (defArgs s_show_leaves) (defBody s_show_leaves) (defScope s_show_leaves) .none kV16 dc16 pm16 an16 cd16 ct16), sl16⟩) (c16 : PySem.W.codeIn K cd16 "show_leaves" = true) (k16 : PySem.W.keepIn K (.ref g16) = true)
    (a17 : PySem.W.nsIn K mainGlobals "show_place" = some (some (.ref g17))) (l17 : K.lookup g17 = some ⟨oc17, od17, .func (PySem.W.fnOf "show_place" "show_place" (defArgs s_show_place) (defBody s_show_place) (defScope s_show_place) .none kV17 dc17 pm17 an17 cd17 ct17), sl17⟩) (c17 : PySem.W.codeIn K cd17 "show_place" = true) (k17 : PySem.W.keepIn K (.ref g17) = true)
    (a18 : PySem.W.nsIn K mainGlobals "show_machine" = some (some (.ref g18))) (l18 : K.lookup g18 = some ⟨oc18, od18, .func (PySem.W.fnOf "show_machine" "show_machine" (defArgs s_show_machine) (defBody s_show_machine) (defScope s_show_machine) .none kV18 dc18 pm18 an18 cd18 ct18), sl18⟩) (c18 : PySem.W.codeIn K cd18 "show_machine" = true) (k18 : PySem.W.keepIn K (.ref g18) = true)
    (a19 : PySem.W.nsIn K mainGlobals "show_tosses" = some (some (.ref g19))) (l19 : K.lookup g19 = some ⟨oc19, od19, .func (PySem.W.fnOf "show_tosses" "show_tosses" (defArgs s_show_tosses) (defBody s_show_tosses) (defScope s_show_tosses) .none kV19 dc19 pm19 an19 cd19 ct19), sl19⟩) (c19 : PySem.W.codeIn K cd19 "show_tosses" = true) (k19 : PySem.W.keepIn K (.ref g19) = true)
    (a20 : PySem.W.nsIn K mainGlobals "show_table" = some (some (.ref g20))) (l20 : K.lookup g20 = some ⟨oc20, od20, .func (PySem.W.fnOf "show_table" "show_table" (defArgs s_show_table) (defBody s_show_table) (defScope s_show_table) .none kV20 dc20 pm20 an20 cd20 ct20), sl20⟩) (c20 : PySem.W.codeIn K cd20 "show_table" = true) (k20 : PySem.W.keepIn K (.ref g20) = true)
    (a21 : PySem.W.nsIn K mainGlobals "is_place" = some (some (.ref g21))) (l21 : K.lookup g21 = some ⟨oc21, od21, .func (PySem.W.fnOf "is_place" "is_place" (defArgs s_is_place) (defBody s_is_place) (defScope s_is_place) .none kV21 dc21 pm21 an21 cd21 ct21), sl21⟩) (c21 : PySem.W.codeIn K cd21 "is_place" = true) (k21 : PySem.W.keepIn K (.ref g21) = true)
    (a22 : PySem.W.nsIn K mainGlobals "is_machine_of" = some (some (.ref g22))) (l22 : K.lookup g22 = some ⟨oc22, od22, .func (PySem.W.fnOf "is_machine_of" "is_machine_of" (defArgs s_is_machine_of) (defBody s_is_machine_of) (defScope s_is_machine_of) .none kV22 dc22 pm22 an22 cd22 ct22), sl22⟩) (c22 : PySem.W.codeIn K cd22 "is_machine_of" = true) (k22 : PySem.W.keepIn K (.ref g22) = true)
    (a23 : PySem.W.nsIn K mainGlobals "is_machine" = some (some (.ref g23))) (l23 : K.lookup g23 = some ⟨oc23, od23, .func (PySem.W.fnOf "is_machine" "is_machine" (defArgs s_is_machine) (defBody s_is_machine) (defScope s_is_machine) .none kV23 dc23 pm23 an23 cd23 ct23), sl23⟩) (c23 : PySem.W.codeIn K cd23 "is_machine" = true) (k23 : PySem.W.keepIn K (.ref g23) = true)
    (a24 : PySem.W.nsIn K mainGlobals "integer_of" = some (some (.ref g24))) (l24 : K.lookup g24 = some ⟨oc24, od24, .func (PySem.W.fnOf "integer_of" "integer_of" (defArgs s_integer_of) (defBody s_integer_of) (defScope s_integer_of) .none kV24 dc24 pm24 an24 cd24 ct24), sl24⟩) (c24 : PySem.W.codeIn K cd24 "integer_of" = true) (k24 : PySem.W.keepIn K (.ref g24) = true)
    (a25 : PySem.W.nsIn K mainGlobals "whole" = some (some (.ref g25))) (l25 : K.lookup g25 = some ⟨oc25, od25, .func (PySem.W.fnOf "whole" "whole" (defArgs s_whole) (defBody s_whole) (defScope s_whole) .none kV25 dc25 pm25 an25 cd25 ct25), sl25⟩) (c25 : PySem.W.codeIn K cd25 "whole" = true) (k25 : PySem.W.keepIn K (.ref g25) = true)
    (a26 : PySem.W.nsIn K mainGlobals "integers_of" = some (some (.ref g26))) (l26 : K.lookup g26 = some ⟨oc26, od26, .func (PySem.W.fnOf "integers_of" "integers_of" (defArgs s_integers_of) (defBody s_integers_of) (defScope s_integers_of) .none kV26 dc26 pm26 an26 cd26 ct26), sl26⟩) (c26 : PySem.W.codeIn K cd26 "integers_of" = true) (k26 : PySem.W.keepIn K (.ref g26) = true)
    (a27 : PySem.W.nsIn K mainGlobals "number_of" = some (some (.ref g27))) (l27 : K.lookup g27 = some ⟨oc27, od27, .func (PySem.W.fnOf "number_of" "number_of" (defArgs s_number_of) (defBody s_number_of) (defScope s_number_of) .none kV27 dc27 pm27 an27 cd27 ct27), sl27⟩) (c27 : PySem.W.codeIn K cd27 "number_of" = true) (k27 : PySem.W.keepIn K (.ref g27) = true)
    (a28 : PySem.W.nsIn K mainGlobals "shares_of" = some (some (.ref g28))) (l28 : K.lookup g28 = some ⟨oc28, od28, .func (PySem.W.fnOf "shares_of" "shares_of" (defArgs s_shares_of) (defBody s_shares_of) (defScope s_shares_of) .none kV28 dc28 pm28 an28 cd28 ct28), sl28⟩) (c28 : PySem.W.codeIn K cd28 "shares_of" = true) (k28 : PySem.W.keepIn K (.ref g28) = true)
    (a29 : PySem.W.nsIn K mainGlobals "signs_of" = some (some (.ref g29))) (l29 : K.lookup g29 = some ⟨oc29, od29, .func (PySem.W.fnOf "signs_of" "signs_of" (defArgs s_signs_of) (defBody s_signs_of) (defScope s_signs_of) .none kV29 dc29 pm29 an29 cd29 ct29), sl29⟩) (c29 : PySem.W.codeIn K cd29 "signs_of" = true) (k29 : PySem.W.keepIn K (.ref g29) = true)
    (a30 : PySem.W.nsIn K mainGlobals "figures_of" = some (some (.ref g30))) (l30 : K.lookup g30 = some ⟨oc30, od30, .func (PySem.W.fnOf "figures_of" "figures_of" (defArgs s_figures_of) (defBody s_figures_of) (defScope s_figures_of) .none kV30 dc30 pm30 an30 cd30 ct30), sl30⟩) (c30 : PySem.W.codeIn K cd30 "figures_of" = true) (k30 : PySem.W.keepIn K (.ref g30) = true)
    (a31 : PySem.W.nsIn K mainGlobals "rows_of" = some (some (.ref g31))) (l31 : K.lookup g31 = some ⟨oc31, od31, .func (PySem.W.fnOf "rows_of" "rows_of" (defArgs s_rows_of) (defBody s_rows_of) (defScope s_rows_of) .none kV31 dc31 pm31 an31 cd31 ct31), sl31⟩) (c31 : PySem.W.codeIn K cd31 "rows_of" = true) (k31 : PySem.W.keepIn K (.ref g31) = true)
    (a32 : PySem.W.nsIn K mainGlobals "leaves_of" = some (some (.ref g32))) (l32 : K.lookup g32 = some ⟨oc32, od32, .func (PySem.W.fnOf "leaves_of" "leaves_of" (defArgs s_leaves_of) (defBody s_leaves_of) (defScope s_leaves_of) .none kV32 dc32 pm32 an32 cd32 ct32), sl32⟩) (c32 : PySem.W.codeIn K cd32 "leaves_of" = true) (k32 : PySem.W.keepIn K (.ref g32) = true)
    (a33 : PySem.W.nsIn K mainGlobals "tosses_of" = some (some (.ref g33))) (l33 : K.lookup g33 = some ⟨oc33, od33, .func (PySem.W.fnOf "tosses_of" "tosses_of" (defArgs s_tosses_of) (defBody s_tosses_of) (defScope s_tosses_of) .none kV33 dc33 pm33 an33 cd33 ct33), sl33⟩) (c33 : PySem.W.codeIn K cd33 "tosses_of" = true) (k33 : PySem.W.keepIn K (.ref g33) = true)
    (a34 : PySem.W.nsIn K mainGlobals "cell_of" = some (some (.ref g34))) (l34 : K.lookup g34 = some ⟨oc34, od34, .func (PySem.W.fnOf "cell_of" "cell_of" (defArgs s_cell_of) (defBody s_cell_of) (defScope s_cell_of) .none kV34 dc34 pm34 an34 cd34 ct34), sl34⟩) (c34 : PySem.W.codeIn K cd34 "cell_of" = true) (k34 : PySem.W.keepIn K (.ref g34) = true)
    (a35 : PySem.W.nsIn K mainGlobals "table_of" = some (some (.ref g35))) (l35 : K.lookup g35 = some ⟨oc35, od35, .func (PySem.W.fnOf "table_of" "table_of" (defArgs s_table_of) (defBody s_table_of) (defScope s_table_of) .none kV35 dc35 pm35 an35 cd35 ct35), sl35⟩) (c35 : PySem.W.codeIn K cd35 "table_of" = true) (k35 : PySem.W.keepIn K (.ref g35) = true)
    (a36 : PySem.W.nsIn K mainGlobals "place_of" = some (some (.ref g36))) (l36 : K.lookup g36 = some ⟨oc36, od36, .func (PySem.W.fnOf "place_of" "place_of" (defArgs s_place_of) (defBody s_place_of) (defScope s_place_of) .none kV36 dc36 pm36 an36 cd36 ct36), sl36⟩) (c36 : PySem.W.codeIn K cd36 "place_of" = true) (k36 : PySem.W.keepIn K (.ref g36) = true)
    (a37 : PySem.W.nsIn K mainGlobals "row_of" = some (some (.ref g37))) (l37 : K.lookup g37 = some ⟨oc37, od37, .func (PySem.W.fnOf "row_of" "row_of" (defArgs s_row_of) (defBody s_row_of) (defScope s_row_of) .none kV37 dc37 pm37 an37 cd37 ct37), sl37⟩) (c37 : PySem.W.codeIn K cd37 "row_of" = true) (k37 : PySem.W.keepIn K (.ref g37) = true)
    (a38 : PySem.W.nsIn K mainGlobals "head_of" = some (some (.ref g38))) (l38 : K.lookup g38 = some ⟨oc38, od38, .func (PySem.W.fnOf "head_of" "head_of" (defArgs s_head_of) (defBody s_head_of) (defScope s_head_of) .none kV38 dc38 pm38 an38 cd38 ct38), sl38⟩) (c38 : PySem.W.codeIn K cd38 "head_of" = true) (k38 : PySem.W.keepIn K (.ref g38) = true)
    (a39 : PySem.W.nsIn K mainGlobals "only" = some (some (.ref g39))) (l39 : K.lookup g39 = some ⟨oc39, od39, .func (PySem.W.fnOf "only" "only" (defArgs s_only) (defBody s_only) (defScope s_only) .none kV39 dc39 pm39 an39 cd39 ct39), sl39⟩) (c39 : PySem.W.codeIn K cd39 "only" = true) (k39 : PySem.W.keepIn K (.ref g39) = true)
    (a40 : PySem.W.nsIn K mainGlobals "read_number" = some (some (.ref g40))) (l40 : K.lookup g40 = some ⟨oc40, od40, .func (PySem.W.fnOf "read_number" "read_number" (defArgs s_read_number) (defBody s_read_number) (defScope s_read_number) .none kV40 dc40 pm40 an40 cd40 ct40), sl40⟩) (c40 : PySem.W.codeIn K cd40 "read_number" = true) (k40 : PySem.W.keepIn K (.ref g40) = true)
    (a41 : PySem.W.nsIn K mainGlobals "read_shares" = some (some (.ref g41))) (l41 : K.lookup g41 = some ⟨oc41, od41, .func (PySem.W.fnOf "read_shares" "read_shares" (defArgs s_read_shares) (defBody s_read_shares) (defScope s_read_shares) .none kV41 dc41 pm41 an41 cd41 ct41), sl41⟩) (c41 : PySem.W.codeIn K cd41 "read_shares" = true) (k41 : PySem.W.keepIn K (.ref g41) = true)
    (a42 : PySem.W.nsIn K mainGlobals "read_figures" = some (some (.ref g42))) (l42 : K.lookup g42 = some ⟨oc42, od42, .func (PySem.W.fnOf "read_figures" "read_figures" (defArgs s_read_figures) (defBody s_read_figures) (defScope s_read_figures) .none kV42 dc42 pm42 an42 cd42 ct42), sl42⟩) (c42 : PySem.W.codeIn K cd42 "read_figures" = true) (k42 : PySem.W.keepIn K (.ref g42) = true)
    (a43 : PySem.W.nsIn K mainGlobals "read_leaves" = some (some (.ref g43))) (l43 : K.lookup g43 = some ⟨oc43, od43, .func (PySem.W.fnOf "read_leaves" "read_leaves" (defArgs s_read_leaves) (defBody s_read_leaves) (defScope s_read_leaves) .none kV43 dc43 pm43 an43 cd43 ct43), sl43⟩) (c43 : PySem.W.codeIn K cd43 "read_leaves" = true) (k43 : PySem.W.keepIn K (.ref g43) = true)
    (a44 : PySem.W.nsIn K mainGlobals "read_tosses" = some (some (.ref g44))) (l44 : K.lookup g44 = some ⟨oc44, od44, .func (PySem.W.fnOf "read_tosses" "read_tosses" (defArgs s_read_tosses) (defBody s_read_tosses) (defScope s_read_tosses) .none kV44 dc44 pm44 an44 cd44 ct44), sl44⟩) (c44 : PySem.W.codeIn K cd44 "read_tosses" = true) (k44 : PySem.W.keepIn K (.ref g44) = true)
    (a45 : PySem.W.nsIn K mainGlobals "read_table" = some (some (.ref g45))) (l45 : K.lookup g45 = some ⟨oc45, od45, .func (PySem.W.fnOf "read_table" "read_table" (defArgs s_read_table) (defBody s_read_table) (defScope s_read_table) .none kV45 dc45 pm45 an45 cd45 ct45), sl45⟩) (c45 : PySem.W.codeIn K cd45 "read_table" = true) (k45 : PySem.W.keepIn K (.ref g45) = true)
    (a46 : PySem.W.nsIn K mainGlobals "read_machine" = some (some (.ref g46))) (l46 : K.lookup g46 = some ⟨oc46, od46, .func (PySem.W.fnOf "read_machine" "read_machine" (defArgs s_read_machine) (defBody s_read_machine) (defScope s_read_machine) .none kV46 dc46 pm46 an46 cd46 ct46), sl46⟩) (c46 : PySem.W.codeIn K cd46 "read_machine" = true) (k46 : PySem.W.keepIn K (.ref g46) = true)
    (a47 : PySem.W.nsIn K mainGlobals "_law_well" = some (some (.ref g47))) (l47 : K.lookup g47 = some ⟨oc47, od47, .func (PySem.W.fnOf "_law_well" "_law_well" (defArgs s_law_well) (defBody s_law_well) (defScope s_law_well) .none kV47 dc47 pm47 an47 cd47 ct47), sl47⟩) (c47 : PySem.W.codeIn K cd47 "_law_well" = true) (k47 : PySem.W.keepIn K (.ref g47) = true)
    (a48 : PySem.W.nsIn K mainGlobals "_law_draw" = some (some (.ref g48))) (l48 : K.lookup g48 = some ⟨oc48, od48, .func (PySem.W.fnOf "_law_draw" "_law_draw" (defArgs s_law_draw) (defBody s_law_draw) (defScope s_law_draw) .none kV48 dc48 pm48 an48 cd48 ct48), sl48⟩) (c48 : PySem.W.codeIn K cd48 "_law_draw" = true) (k48 : PySem.W.keepIn K (.ref g48) = true)
    (a49 : PySem.W.nsIn K mainGlobals "_law_same" = some (some (.ref g49))) (l49 : K.lookup g49 = some ⟨oc49, od49, .func (PySem.W.fnOf "_law_same" "_law_same" (defArgs s_law_same) (defBody s_law_same) (defScope s_law_same) .none kV49 dc49 pm49 an49 cd49 ct49), sl49⟩) (c49 : PySem.W.codeIn K cd49 "_law_same" = true) (k49 : PySem.W.keepIn K (.ref g49) = true)
    (a50 : PySem.W.nsIn K mainGlobals "_law_power" = some (some (.ref g50))) (l50 : K.lookup g50 = some ⟨oc50, od50, .func (PySem.W.fnOf "_law_power" "_law_power" (defArgs s_law_power) (defBody s_law_power) (defScope s_law_power) .none kV50 dc50 pm50 an50 cd50 ct50), sl50⟩) (c50 : PySem.W.codeIn K cd50 "_law_power" = true) (k50 : PySem.W.keepIn K (.ref g50) = true)
    (a51 : PySem.W.nsIn K mainGlobals "_law_low" = some (some (.ref g51))) (l51 : K.lookup g51 = some ⟨oc51, od51, .func (PySem.W.fnOf "_law_low" "_law_low" (defArgs s_law_low) (defBody s_law_low) (defScope s_law_low) .none kV51 dc51 pm51 an51 cd51 ct51), sl51⟩) (c51 : PySem.W.codeIn K cd51 "_law_low" = true) (k51 : PySem.W.keepIn K (.ref g51) = true)
    (a52 : PySem.W.nsIn K mainGlobals "_law_integer" = some (some (.ref g52))) (l52 : K.lookup g52 = some ⟨oc52, od52, .func (PySem.W.fnOf "_law_integer" "_law_integer" (defArgs s_law_integer) (defBody s_law_integer) (defScope s_law_integer) .none kV52 dc52 pm52 an52 cd52 ct52), sl52⟩) (c52 : PySem.W.codeIn K cd52 "_law_integer" = true) (k52 : PySem.W.keepIn K (.ref g52) = true)
    (a53 : PySem.W.nsIn K mainGlobals "_law_number" = some (some (.ref g53))) (l53 : K.lookup g53 = some ⟨oc53, od53, .func (PySem.W.fnOf "_law_number" "_law_number" (defArgs s_law_number) (defBody s_law_number) (defScope s_law_number) .none kV53 dc53 pm53 an53 cd53 ct53), sl53⟩) (c53 : PySem.W.codeIn K cd53 "_law_number" = true) (k53 : PySem.W.keepIn K (.ref g53) = true)
    (a54 : PySem.W.nsIn K mainGlobals "_law_shares" = some (some (.ref g54))) (l54 : K.lookup g54 = some ⟨oc54, od54, .func (PySem.W.fnOf "_law_shares" "_law_shares" (defArgs s_law_shares) (defBody s_law_shares) (defScope s_law_shares) .none kV54 dc54 pm54 an54 cd54 ct54), sl54⟩) (c54 : PySem.W.codeIn K cd54 "_law_shares" = true) (k54 : PySem.W.keepIn K (.ref g54) = true)
    (a55 : PySem.W.nsIn K mainGlobals "_law_signs" = some (some (.ref g55))) (l55 : K.lookup g55 = some ⟨oc55, od55, .func (PySem.W.fnOf "_law_signs" "_law_signs" (defArgs s_law_signs) (defBody s_law_signs) (defScope s_law_signs) .none kV55 dc55 pm55 an55 cd55 ct55), sl55⟩) (c55 : PySem.W.codeIn K cd55 "_law_signs" = true) (k55 : PySem.W.keepIn K (.ref g55) = true)
    (a56 : PySem.W.nsIn K mainGlobals "_law_rows" = some (some (.ref g56))) (l56 : K.lookup g56 = some ⟨oc56, od56, .func (PySem.W.fnOf "_law_rows" "_law_rows" (defArgs s_law_rows) (defBody s_law_rows) (defScope s_law_rows) .none kV56 dc56 pm56 an56 cd56 ct56), sl56⟩) (c56 : PySem.W.codeIn K cd56 "_law_rows" = true) (k56 : PySem.W.keepIn K (.ref g56) = true)
    (a57 : PySem.W.nsIn K mainGlobals "_law_place" = some (some (.ref g57))) (l57 : K.lookup g57 = some ⟨oc57, od57, .func (PySem.W.fnOf "_law_place" "_law_place" (defArgs s_law_place) (defBody s_law_place) (defScope s_law_place) .none kV57 dc57 pm57 an57 cd57 ct57), sl57⟩) (c57 : PySem.W.codeIn K cd57 "_law_place" = true) (k57 : PySem.W.keepIn K (.ref g57) = true)
    (a58 : PySem.W.nsIn K mainGlobals "_law_machine" = some (some (.ref g58))) (l58 : K.lookup g58 = some ⟨oc58, od58, .func (PySem.W.fnOf "_law_machine" "_law_machine" (defArgs s_law_machine) (defBody s_law_machine) (defScope s_law_machine) .none kV58 dc58 pm58 an58 cd58 ct58), sl58⟩) (c58 : PySem.W.codeIn K cd58 "_law_machine" = true) (k58 : PySem.W.keepIn K (.ref g58) = true)
    (a59 : PySem.W.nsIn K mainGlobals "_law_cell" = some (some (.ref g59))) (l59 : K.lookup g59 = some ⟨oc59, od59, .func (PySem.W.fnOf "_law_cell" "_law_cell" (defArgs s_law_cell) (defBody s_law_cell) (defScope s_law_cell) .none kV59 dc59 pm59 an59 cd59 ct59), sl59⟩) (c59 : PySem.W.codeIn K cd59 "_law_cell" = true) (k59 : PySem.W.keepIn K (.ref g59) = true)
    (a60 : PySem.W.nsIn K mainGlobals "_law_said_number" = some (some (.ref g60))) (l60 : K.lookup g60 = some ⟨oc60, od60, .func (PySem.W.fnOf "_law_said_number" "_law_said_number" (defArgs s_law_said_number) (defBody s_law_said_number) (defScope s_law_said_number) .none kV60 dc60 pm60 an60 cd60 ct60), sl60⟩) (c60 : PySem.W.codeIn K cd60 "_law_said_number" = true) (k60 : PySem.W.keepIn K (.ref g60) = true)
    (a61 : PySem.W.nsIn K mainGlobals "_law_said_all" = some (some (.ref g61))) (l61 : K.lookup g61 = some ⟨oc61, od61, .func (PySem.W.fnOf "_law_said_all" "_law_said_all" (defArgs s_law_said_all) (defBody s_law_said_all) (defScope s_law_said_all) .none kV61 dc61 pm61 an61 cd61 ct61), sl61⟩) (c61 : PySem.W.codeIn K cd61 "_law_said_all" = true) (k61 : PySem.W.keepIn K (.ref g61) = true)
    (a62 : PySem.W.nsIn K mainGlobals "_law_said_signs" = some (some (.ref g62))) (l62 : K.lookup g62 = some ⟨oc62, od62, .func (PySem.W.fnOf "_law_said_signs" "_law_said_signs" (defArgs s_law_said_signs) (defBody s_law_said_signs) (defScope s_law_said_signs) .none kV62 dc62 pm62 an62 cd62 ct62), sl62⟩) (c62 : PySem.W.codeIn K cd62 "_law_said_signs" = true) (k62 : PySem.W.keepIn K (.ref g62) = true)
    (a63 : PySem.W.nsIn K mainGlobals "_law_said_rows" = some (some (.ref g63))) (l63 : K.lookup g63 = some ⟨oc63, od63, .func (PySem.W.fnOf "_law_said_rows" "_law_said_rows" (defArgs s_law_said_rows) (defBody s_law_said_rows) (defScope s_law_said_rows) .none kV63 dc63 pm63 an63 cd63 ct63), sl63⟩) (c63 : PySem.W.codeIn K cd63 "_law_said_rows" = true) (k63 : PySem.W.keepIn K (.ref g63) = true)
    (a64 : PySem.W.nsIn K mainGlobals "_law_said_place" = some (some (.ref g64))) (l64 : K.lookup g64 = some ⟨oc64, od64, .func (PySem.W.fnOf "_law_said_place" "_law_said_place" (defArgs s_law_said_place) (defBody s_law_said_place) (defScope s_law_said_place) .none kV64 dc64 pm64 an64 cd64 ct64), sl64⟩) (c64 : PySem.W.codeIn K cd64 "_law_said_place" = true) (k64 : PySem.W.keepIn K (.ref g64) = true)
    (a65 : PySem.W.nsIn K mainGlobals "_law_said_machine" = some (some (.ref g65))) (l65 : K.lookup g65 = some ⟨oc65, od65, .func (PySem.W.fnOf "_law_said_machine" "_law_said_machine" (defArgs s_law_said_machine) (defBody s_law_said_machine) (defScope s_law_said_machine) .none kV65 dc65 pm65 an65 cd65 ct65), sl65⟩) (c65 : PySem.W.codeIn K cd65 "_law_said_machine" = true) (k65 : PySem.W.keepIn K (.ref g65) = true)
    (a66 : PySem.W.nsIn K mainGlobals "_law_said_table" = some (some (.ref g66))) (l66 : K.lookup g66 = some ⟨oc66, od66, .func (PySem.W.fnOf "_law_said_table" "_law_said_table" (defArgs s_law_said_table) (defBody s_law_said_table) (defScope s_law_said_table) .none kV66 dc66 pm66 an66 cd66 ct66), sl66⟩) (c66 : PySem.W.codeIn K cd66 "_law_said_table" = true) (k66 : PySem.W.keepIn K (.ref g66) = true)
    (a67 : PySem.W.nsIn K mainGlobals "_law_door" = some (some (.ref g67))) (l67 : K.lookup g67 = some ⟨oc67, od67, .func (PySem.W.fnOf "_law_door" "_law_door" (defArgs s_law_door) (defBody s_law_door) (defScope s_law_door) .none kV67 dc67 pm67 an67 cd67 ct67), sl67⟩) (c67 : PySem.W.codeIn K cd67 "_law_door" = true) (k67 : PySem.W.keepIn K (.ref g67) = true)
    (a68 : PySem.W.nsIn K mainGlobals "_law_read" = some (some (.ref g68))) (l68 : K.lookup g68 = some ⟨oc68, od68, .func (PySem.W.fnOf "_law_read" "_law_read" (defArgs s_law_read) (defBody s_law_read) (defScope s_law_read) .none kV68 dc68 pm68 an68 cd68 ct68), sl68⟩) (c68 : PySem.W.codeIn K cd68 "_law_read" = true) (k68 : PySem.W.keepIn K (.ref g68) = true)
    (a69 : PySem.W.nsIn K mainGlobals "_law_shown" = some (some (.ref g69))) (l69 : K.lookup g69 = some ⟨oc69, od69, .func (PySem.W.fnOf "_law_shown" "_law_shown" (defArgs s_law_shown) (defBody s_law_shown) (defScope s_law_shown) .none kV69 dc69 pm69 an69 cd69 ct69), sl69⟩) (c69 : PySem.W.codeIn K cd69 "_law_shown" = true) (k69 : PySem.W.keepIn K (.ref g69) = true)
    (a70 : PySem.W.nsIn K mainGlobals "law" = some (some (.ref g70))) (l70 : K.lookup g70 = some ⟨oc70, od70, .func (PySem.W.fnOf "law" "law" (defArgs s_law) (defBody s_law) (defScope s_law) .none kV70 dc70 pm70 an70 cd70 ct70), sl70⟩) (c70 : PySem.W.codeIn K cd70 "law" = true) (k70 : PySem.W.keepIn K (.ref g70) = true)
    (z_abs : PySem.W.nsIn K mainGlobals "abs" = some none)
    (z_all : PySem.W.nsIn K mainGlobals "all" = some none)
    (z_any : PySem.W.nsIn K mainGlobals "any" = some none)
    (z_bool : PySem.W.nsIn K mainGlobals "bool" = some none)
    (z_enumerate : PySem.W.nsIn K mainGlobals "enumerate" = some none)
    (z_int : PySem.W.nsIn K mainGlobals "int" = some none)
    (z_isinstance : PySem.W.nsIn K mainGlobals "isinstance" = some none)
    (z_len : PySem.W.nsIn K mainGlobals "len" = some none)
    (z_list : PySem.W.nsIn K mainGlobals "list" = some none)
    (z_max : PySem.W.nsIn K mainGlobals "max" = some none)
    (z_min : PySem.W.nsIn K mainGlobals "min" = some none)
    (z_range : PySem.W.nsIn K mainGlobals "range" = some none)
    (z_set : PySem.W.nsIn K mainGlobals "set" = some none)
    (z_str : PySem.W.nsIn K mainGlobals "str" = some none)
    (z_tuple : PySem.W.nsIn K mainGlobals "tuple" = some none)
    (yONE : PySem.W.nsIn K mainGlobals "ONE" = some (some (.ref zONE))) (xONE : K.lookup zONE = some ⟨.type "tuple", odONE, .seq #[.int 1 tONE0, .int 1 tONE1] nONE, slONE⟩)
    (yZERO : PySem.W.nsIn K mainGlobals "ZERO" = some (some (.ref zZERO))) (xZERO : K.lookup zZERO = some ⟨.type "tuple", odZERO, .seq #[.int 0 tZERO0, .int 1 tZERO1] nZERO, slZERO⟩)
    (i_gcd : PySem.W.nsIn K mainGlobals "gcd" = some (some (.builtin "math.gcd")))
    {zS : Addr} {esS : Array DictEntry} {nS : Nat} {t1S t2S tM tNONE tDIGITS tHEAD tIS tTO : Tok}
    (yNONE : PySem.W.nsIn K mainGlobals "NONE" = some (some (.str "-" tNONE))) (yDIGITS : PySem.W.nsIn K mainGlobals "DIGITS" = some (some (.str "0123456789" tDIGITS))) (yHEAD : PySem.W.nsIn K mainGlobals "HEAD" = some (some (.str "machine " tHEAD))) (yIS : PySem.W.nsIn K mainGlobals "IS" = some (some (.str "is" tIS))) (yTO : PySem.W.nsIn K mainGlobals "TO" = some (some (.str "to" tTO))) (yMOST : PySem.W.nsIn K mainGlobals "MOST_DIGITS" = some (some (.int 30 tM))) (ySIGNS : PySem.W.nsIn K mainGlobals "SIGNS" = some (some (.ref zS))) (xS : K.lookup zS = some ⟨.type "dict", none, .dict esS nS, #[]⟩) (kS : PySem.W.KeysLit w.params esS.toList) (n1S : PySem.W.nsIn K zS "to" = some (some (.str "s" t1S))) (n2S : PySem.W.nsIn K zS "is" = some (some (.str "i" t2S))) (dS : (zS == sysModules) = false) (iS : KEnt esS) (htree : l.prog.given.tree = none) :
    ∃ fd : FuncData, (∀ (s : Shared) (u : Value), BindsTo s fd ⟨[u], []⟩ [("script", u)]) ∧ ∀ base : Heap, K.In base → base.Ns mainGlobals mg → Seer base → FnOk l.prog w K mg base (L2.CX l.prog w) 44 fa fd ["script"] (toSp K sp_law) := by
  exact all_of {
    a_is_integer := g0, fd_is_integer := _, m_is_integer := PySem.W.mg_of X G a0, F_is_integer := fun_mk (st := s_is_integer) l0 c0 k0, d_is_integer := (fun_mk (st := s_is_integer) l0 c0 k0).binds (ps := ["value"]) (fun _ _ _ _ _ _ us hl => match us, hl with | [_], _ => rfl),
    a_is_natural := g1, fd_is_natural := _, m_is_natural := PySem.W.mg_of X G a1, F_is_natural := fun_mk (st := s_is_natural) l1 c1 k1, d_is_natural := (fun_mk (st := s_is_natural) l1 c1 k1).binds (ps := ["value"]) (fun _ _ _ _ _ _ us hl => match us, hl with | [_], _ => rfl),
    a_is_below := g2, fd_is_below := _, m_is_below := PySem.W.mg_of X G a2, F_is_below := fun_mk (st := s_is_below) l2 c2 k2, d_is_below := (fun_mk (st := s_is_below) l2 c2 k2).binds (ps := ["value", "many"]) (fun _ _ _ _ _ _ us hl => match us, hl with | [_, _], _ => rfl),
    a_is_pair := g3, fd_is_pair := _, m_is_pair := PySem.W.mg_of X G a3, F_is_pair := fun_mk (st := s_is_pair) l3 c3 k3, d_is_pair := (fun_mk (st := s_is_pair) l3 c3 k3).binds (ps := ["value"]) (fun _ _ _ _ _ _ us hl => match us, hl with | [_], _ => rfl),
    a_lowest := g4, fd_lowest := _, m_lowest := PySem.W.mg_of X G a4, F_lowest := fun_mk (st := s_lowest) l4 c4 k4, d_lowest := (fun_mk (st := s_lowest) l4 c4 k4).binds (ps := ["top", "bottom"]) (fun _ _ _ _ _ _ us hl => match us, hl with | [_, _], _ => rfl),
    a_is_number_of := g5, fd_is_number_of := _, m_is_number_of := PySem.W.mg_of X G a5, F_is_number_of := fun_mk (st := s_is_number_of) l5 c5 k5, d_is_number_of := (fun_mk (st := s_is_number_of) l5 c5 k5).binds (ps := ["told"]) (fun _ _ _ _ _ _ us hl => match us, hl with | [_], _ => rfl),
    a_sum_of_two := g6, fd_sum_of_two := _, m_sum_of_two := PySem.W.mg_of X G a6, F_sum_of_two := fun_mk (st := s_sum_of_two) l6 c6 k6, d_sum_of_two := (fun_mk (st := s_sum_of_two) l6 c6 k6).binds (ps := ["a", "b"]) (fun _ _ _ _ _ _ us hl => match us, hl with | [_, _], _ => rfl),
    a_sum_of_all := g7, fd_sum_of_all := _, m_sum_of_all := PySem.W.mg_of X G a7, F_sum_of_all := fun_mk (st := s_sum_of_all) l7 c7 k7, d_sum_of_all := (fun_mk (st := s_sum_of_all) l7 c7 k7).binds (ps := ["numbers"]) (fun _ _ _ _ _ _ us hl => match us, hl with | [_], _ => rfl),
    a_is_number := g8, fd_is_number := _, m_is_number := PySem.W.mg_of X G a8, F_is_number := fun_mk (st := s_is_number) l8 c8 k8, d_is_number := (fun_mk (st := s_is_number) l8 c8 k8).binds (ps := ["told"]) (fun _ _ _ _ _ _ us hl => match us, hl with | [_], _ => rfl),
    a_is_shares_of := g9, fd_is_shares_of := _, m_is_shares_of := PySem.W.mg_of X G a9, F_is_shares_of := fun_mk (st := s_is_shares_of) l9 c9 k9, d_is_shares_of := (fun_mk (st := s_is_shares_of) l9 c9 k9).binds (ps := ["told"]) (fun _ _ _ _ _ _ us hl => match us, hl with | [_], _ => rfl),
    a_is_shares := g10, fd_is_shares := _, m_is_shares := PySem.W.mg_of X G a10, F_is_shares := fun_mk (st := s_is_shares) l10 c10 k10, d_is_shares := (fun_mk (st := s_is_shares) l10 c10 k10).binds (ps := ["told"]) (fun _ _ _ _ _ _ us hl => match us, hl with | [_], _ => rfl),
    a_joined := g11, fd_joined := _, m_joined := PySem.W.mg_of X G a11, F_joined := fun_mk (st := s_joined) l11 c11 k11, d_joined := (fun_mk (st := s_joined) l11 c11 k11).binds (ps := ["signs"]) (fun _ _ _ _ _ _ us hl => match us, hl with | [_], _ => rfl),
    a_show_number := g12, fd_show_number := _, m_show_number := PySem.W.mg_of X G a12, F_show_number := fun_mk (st := s_show_number) l12 c12 k12, d_show_number := (fun_mk (st := s_show_number) l12 c12 k12).binds (ps := ["number"]) (fun _ _ _ _ _ _ us hl => match us, hl with | [_], _ => rfl),
    a_show_shares := g13, fd_show_shares := _, m_show_shares := PySem.W.mg_of X G a13, F_show_shares := fun_mk (st := s_show_shares) l13 c13 k13, d_show_shares := (fun_mk (st := s_show_shares) l13 c13 k13).binds (ps := ["shares"]) (fun _ _ _ _ _ _ us hl => match us, hl with | [_], _ => rfl),
    a_show_figures := g14, fd_show_figures := _, m_show_figures := PySem.W.mg_of X G a14, F_show_figures := fun_mk (st := s_show_figures) l14 c14 k14, d_show_figures := (fun_mk (st := s_show_figures) l14 c14 k14).binds (ps := ["told"]) (fun _ _ _ _ _ _ us hl => match us, hl with | [_], _ => rfl),
    a_show_rows := g15, fd_show_rows := _, m_show_rows := PySem.W.mg_of X G a15, F_show_rows := fun_mk (st := s_show_rows) l15 c15 k15, d_show_rows := (fun_mk (st := s_show_rows) l15 c15 k15).binds (ps := ["rows"]) (fun _ _ _ _ _ _ us hl => match us, hl with | [_], _ => rfl),
    a_show_leaves := g16, fd_show_leaves := _, m_show_leaves := PySem.W.mg_of X G a16, F_show_leaves := fun_mk (st := s_show_leaves) l16 c16 k16, d_show_leaves := (fun_mk (st := s_show_leaves) l16 c16 k16).binds (ps := ["leaves"]) (fun _ _ _ _ _ _ us hl => match us, hl with | [_], _ => rfl),
    a_show_place := g17, fd_show_place := _, m_show_place := PySem.W.mg_of X G a17, F_show_place := fun_mk (st := s_show_place) l17 c17 k17, d_show_place := (fun_mk (st := s_show_place) l17 c17 k17).binds (ps := ["place"]) (fun _ _ _ _ _ _ us hl => match us, hl with | [_], _ => rfl),
    a_show_machine := g18, fd_show_machine := _, m_show_machine := PySem.W.mg_of X G a18, F_show_machine := fun_mk (st := s_show_machine) l18 c18 k18, d_show_machine := (fun_mk (st := s_show_machine) l18 c18 k18).binds (ps := ["machine"]) (fun _ _ _ _ _ _ us hl => match us, hl with | [_], _ => rfl),
    a_show_tosses := g19, fd_show_tosses := _, m_show_tosses := PySem.W.mg_of X G a19, F_show_tosses := fun_mk (st := s_show_tosses) l19 c19 k19, d_show_tosses := (fun_mk (st := s_show_tosses) l19 c19 k19).binds (ps := ["tosses"]) (fun _ _ _ _ _ _ us hl => match us, hl with | [_], _ => rfl),
    a_show_table := g20, fd_show_table := _, m_show_table := PySem.W.mg_of X G a20, F_show_table := fun_mk (st := s_show_table) l20 c20 k20, d_show_table := (fun_mk (st := s_show_table) l20 c20 k20).binds (ps := ["table"]) (fun _ _ _ _ _ _ us hl => match us, hl with | [_], _ => rfl),
    a_is_place := g21, fd_is_place := _, m_is_place := PySem.W.mg_of X G a21, F_is_place := fun_mk (st := s_is_place) l21 c21 k21, d_is_place := (fun_mk (st := s_is_place) l21 c21 k21).binds (ps := ["n", "many", "told"]) (fun _ _ _ _ _ _ us hl => match us, hl with | [_, _, _], _ => rfl),
    a_is_machine_of := g22, fd_is_machine_of := _, m_is_machine_of := PySem.W.mg_of X G a22, F_is_machine_of := fun_mk (st := s_is_machine_of) l22 c22 k22, d_is_machine_of := (fun_mk (st := s_is_machine_of) l22 c22 k22).binds (ps := ["told"]) (fun _ _ _ _ _ _ us hl => match us, hl with | [_], _ => rfl),
    a_is_machine := g23, fd_is_machine := _, m_is_machine := PySem.W.mg_of X G a23, F_is_machine := fun_mk (st := s_is_machine) l23 c23 k23, d_is_machine := (fun_mk (st := s_is_machine) l23 c23 k23).binds (ps := ["told"]) (fun _ _ _ _ _ _ us hl => match us, hl with | [_], _ => rfl),
    a_integer_of := g24, fd_integer_of := _, m_integer_of := PySem.W.mg_of X G a24, F_integer_of := fun_mk (st := s_integer_of) l24 c24 k24, d_integer_of := (fun_mk (st := s_integer_of) l24 c24 k24).binds (ps := ["text"]) (fun _ _ _ _ _ _ us hl => match us, hl with | [_], _ => rfl),
    a_whole := g25, fd_whole := _, m_whole := PySem.W.mg_of X G a25, F_whole := fun_mk (st := s_whole) l25 c25 k25, d_whole := (fun_mk (st := s_whole) l25 c25 k25).binds (ps := ["parts"]) (fun _ _ _ _ _ _ us hl => match us, hl with | [_], _ => rfl),
    a_integers_of := g26, fd_integers_of := _, m_integers_of := PySem.W.mg_of X G a26, F_integers_of := fun_mk (st := s_integers_of) l26 c26 k26, d_integers_of := (fun_mk (st := s_integers_of) l26 c26 k26).binds (ps := ["text"]) (fun _ _ _ _ _ _ us hl => match us, hl with | [_], _ => rfl),
    a_number_of := g27, fd_number_of := _, m_number_of := PySem.W.mg_of X G a27, F_number_of := fun_mk (st := s_number_of) l27 c27 k27, d_number_of := (fun_mk (st := s_number_of) l27 c27 k27).binds (ps := ["word"]) (fun _ _ _ _ _ _ us hl => match us, hl with | [_], _ => rfl),
    a_shares_of := g28, fd_shares_of := _, m_shares_of := PySem.W.mg_of X G a28, F_shares_of := fun_mk (st := s_shares_of) l28 c28 k28, d_shares_of := (fun_mk (st := s_shares_of) l28 c28 k28).binds (ps := ["line"]) (fun _ _ _ _ _ _ us hl => match us, hl with | [_], _ => rfl),
    a_signs_of := g29, fd_signs_of := _, m_signs_of := PySem.W.mg_of X G a29, F_signs_of := fun_mk (st := s_signs_of) l29 c29 k29, d_signs_of := (fun_mk (st := s_signs_of) l29 c29 k29).binds (ps := ["text"]) (fun _ _ _ _ _ _ us hl => match us, hl with | [_], _ => rfl),
    a_figures_of := g30, fd_figures_of := _, m_figures_of := PySem.W.mg_of X G a30, F_figures_of := fun_mk (st := s_figures_of) l30 c30 k30, d_figures_of := (fun_mk (st := s_figures_of) l30 c30 k30).binds (ps := ["line"]) (fun _ _ _ _ _ _ us hl => match us, hl with | [_], _ => rfl),
    a_rows_of := g31, fd_rows_of := _, m_rows_of := PySem.W.mg_of X G a31, F_rows_of := fun_mk (st := s_rows_of) l31 c31 k31, d_rows_of := (fun_mk (st := s_rows_of) l31 c31 k31).binds (ps := ["text"]) (fun _ _ _ _ _ _ us hl => match us, hl with | [_], _ => rfl),
    a_leaves_of := g32, fd_leaves_of := _, m_leaves_of := PySem.W.mg_of X G a32, F_leaves_of := fun_mk (st := s_leaves_of) l32 c32 k32, d_leaves_of := (fun_mk (st := s_leaves_of) l32 c32 k32).binds (ps := ["line"]) (fun _ _ _ _ _ _ us hl => match us, hl with | [_], _ => rfl),
    a_tosses_of := g33, fd_tosses_of := _, m_tosses_of := PySem.W.mg_of X G a33, F_tosses_of := fun_mk (st := s_tosses_of) l33 c33 k33, d_tosses_of := (fun_mk (st := s_tosses_of) l33 c33 k33).binds (ps := ["line"]) (fun _ _ _ _ _ _ us hl => match us, hl with | [_], _ => rfl),
    a_cell_of := g34, fd_cell_of := _, m_cell_of := PySem.W.mg_of X G a34, F_cell_of := fun_mk (st := s_cell_of) l34 c34 k34, d_cell_of := (fun_mk (st := s_cell_of) l34 c34 k34).binds (ps := ["text"]) (fun _ _ _ _ _ _ us hl => match us, hl with | [_], _ => rfl),
    a_table_of := g35, fd_table_of := _, m_table_of := PySem.W.mg_of X G a35, F_table_of := fun_mk (st := s_table_of) l35 c35 k35, d_table_of := (fun_mk (st := s_table_of) l35 c35 k35).binds (ps := ["line"]) (fun _ _ _ _ _ _ us hl => match us, hl with | [_], _ => rfl),
    a_place_of := g36, fd_place_of := _, m_place_of := PySem.W.mg_of X G a36, F_place_of := fun_mk (st := s_place_of) l36 c36 k36, d_place_of := (fun_mk (st := s_place_of) l36 c36 k36).binds (ps := ["word"]) (fun _ _ _ _ _ _ us hl => match us, hl with | [_], _ => rfl),
    a_row_of := g37, fd_row_of := _, m_row_of := PySem.W.mg_of X G a37, F_row_of := fun_mk (st := s_row_of) l37 c37 k37, d_row_of := (fun_mk (st := s_row_of) l37 c37 k37).binds (ps := ["line"]) (fun _ _ _ _ _ _ us hl => match us, hl with | [_], _ => rfl),
    a_head_of := g38, fd_head_of := _, m_head_of := PySem.W.mg_of X G a38, F_head_of := fun_mk (st := s_head_of) l38 c38 k38, d_head_of := (fun_mk (st := s_head_of) l38 c38 k38).binds (ps := ["line"]) (fun _ _ _ _ _ _ us hl => match us, hl with | [_], _ => rfl),
    a_only := g39, fd_only := _, m_only := PySem.W.mg_of X G a39, F_only := fun_mk (st := s_only) l39 c39 k39, d_only := (fun_mk (st := s_only) l39 c39 k39).binds (ps := ["told", "text"]) (fun _ _ _ _ _ _ us hl => match us, hl with | [_, _], _ => rfl),
    a_read_number := g40, fd_read_number := _, m_read_number := PySem.W.mg_of X G a40, F_read_number := fun_mk (st := s_read_number) l40 c40 k40, d_read_number := (fun_mk (st := s_read_number) l40 c40 k40).binds (ps := ["text"]) (fun _ _ _ _ _ _ us hl => match us, hl with | [_], _ => rfl),
    a_read_shares := g41, fd_read_shares := _, m_read_shares := PySem.W.mg_of X G a41, F_read_shares := fun_mk (st := s_read_shares) l41 c41 k41, d_read_shares := (fun_mk (st := s_read_shares) l41 c41 k41).binds (ps := ["text"]) (fun _ _ _ _ _ _ us hl => match us, hl with | [_], _ => rfl),
    a_read_figures := g42, fd_read_figures := _, m_read_figures := PySem.W.mg_of X G a42, F_read_figures := fun_mk (st := s_read_figures) l42 c42 k42, d_read_figures := (fun_mk (st := s_read_figures) l42 c42 k42).binds (ps := ["text"]) (fun _ _ _ _ _ _ us hl => match us, hl with | [_], _ => rfl),
    a_read_leaves := g43, fd_read_leaves := _, m_read_leaves := PySem.W.mg_of X G a43, F_read_leaves := fun_mk (st := s_read_leaves) l43 c43 k43, d_read_leaves := (fun_mk (st := s_read_leaves) l43 c43 k43).binds (ps := ["text"]) (fun _ _ _ _ _ _ us hl => match us, hl with | [_], _ => rfl),
    a_read_tosses := g44, fd_read_tosses := _, m_read_tosses := PySem.W.mg_of X G a44, F_read_tosses := fun_mk (st := s_read_tosses) l44 c44 k44, d_read_tosses := (fun_mk (st := s_read_tosses) l44 c44 k44).binds (ps := ["text"]) (fun _ _ _ _ _ _ us hl => match us, hl with | [_], _ => rfl),
    a_read_table := g45, fd_read_table := _, m_read_table := PySem.W.mg_of X G a45, F_read_table := fun_mk (st := s_read_table) l45 c45 k45, d_read_table := (fun_mk (st := s_read_table) l45 c45 k45).binds (ps := ["text"]) (fun _ _ _ _ _ _ us hl => match us, hl with | [_], _ => rfl),
    a_read_machine := g46, fd_read_machine := _, m_read_machine := PySem.W.mg_of X G a46, F_read_machine := fun_mk (st := s_read_machine) l46 c46 k46, d_read_machine := (fun_mk (st := s_read_machine) l46 c46 k46).binds (ps := ["text"]) (fun _ _ _ _ _ _ us hl => match us, hl with | [_], _ => rfl),
    a_law_well := g47, fd_law_well := _, m_law_well := PySem.W.mg_of X G a47, F_law_well := fun_mk (st := s_law_well) l47 c47 k47, d_law_well := (fun_mk (st := s_law_well) l47 c47 k47).binds (ps := ["script", "place"]) (fun _ _ _ _ _ _ us hl => match us, hl with | [_, _], _ => rfl),
    a_law_draw := g48, fd_law_draw := _, m_law_draw := PySem.W.mg_of X G a48, F_law_draw := fun_mk (st := s_law_draw) l48 c48 k48, d_law_draw := (fun_mk (st := s_law_draw) l48 c48 k48).binds (ps := ["well", "many"]) (fun _ _ _ _ _ _ us hl => match us, hl with | [_, _], _ => rfl),
    a_law_same := g49, fd_law_same := _, m_law_same := PySem.W.mg_of X G a49, F_law_same := fun_mk (st := s_law_same) l49 c49 k49, d_law_same := (fun_mk (st := s_law_same) l49 c49 k49).binds (ps := ["told", "due"]) (fun _ _ _ _ _ _ us hl => match us, hl with | [_, _], _ => rfl),
    a_law_power := g50, fd_law_power := _, m_law_power := PySem.W.mg_of X G a50, F_law_power := fun_mk (st := s_law_power) l50 c50 k50, d_law_power := (fun_mk (st := s_law_power) l50 c50 k50).binds (ps := ["b", "many"]) (fun _ _ _ _ _ _ us hl => match us, hl with | [_, _], _ => rfl),
    a_law_low := g51, fd_law_low := _, m_law_low := PySem.W.mg_of X G a51, F_law_low := fun_mk (st := s_law_low) l51 c51 k51, d_law_low := (fun_mk (st := s_law_low) l51 c51 k51).binds (ps := ["top", "bottom"]) (fun _ _ _ _ _ _ us hl => match us, hl with | [_, _], _ => rfl),
    a_law_integer := g52, fd_law_integer := _, m_law_integer := PySem.W.mg_of X G a52, F_law_integer := fun_mk (st := s_law_integer) l52 c52 k52, d_law_integer := (fun_mk (st := s_law_integer) l52 c52 k52).binds (ps := ["well", "digits"]) (fun _ _ _ _ _ _ us hl => match us, hl with | [_, _], _ => rfl),
    a_law_number := g53, fd_law_number := _, m_law_number := PySem.W.mg_of X G a53, F_law_number := fun_mk (st := s_law_number) l53 c53 k53, d_law_number := (fun_mk (st := s_law_number) l53 c53 k53).binds (ps := ["well", "digits"]) (fun _ _ _ _ _ _ us hl => match us, hl with | [_, _], _ => rfl),
    a_law_shares := g54, fd_law_shares := _, m_law_shares := PySem.W.mg_of X G a54, F_law_shares := fun_mk (st := s_law_shares) l54 c54 k54, d_law_shares := (fun_mk (st := s_law_shares) l54 c54 k54).binds (ps := ["well", "many", "digits"]) (fun _ _ _ _ _ _ us hl => match us, hl with | [_, _, _], _ => rfl),
    a_law_signs := g55, fd_law_signs := _, m_law_signs := PySem.W.mg_of X G a55, F_law_signs := fun_mk (st := s_law_signs) l55 c55 k55, d_law_signs := (fun_mk (st := s_law_signs) l55 c55 k55).binds (ps := ["well", "many"]) (fun _ _ _ _ _ _ us hl => match us, hl with | [_, _], _ => rfl),
    a_law_rows := g56, fd_law_rows := _, m_law_rows := PySem.W.mg_of X G a56, F_law_rows := fun_mk (st := s_law_rows) l56 c56 k56, d_law_rows := (fun_mk (st := s_law_rows) l56 c56 k56).binds (ps := ["well", "many", "wide", "digits"]) (fun _ _ _ _ _ _ us hl => match us, hl with | [_, _, _, _], _ => rfl),
    a_law_place := g57, fd_law_place := _, m_law_place := PySem.W.mg_of X G a57, F_law_place := fun_mk (st := s_law_place) l57 c57 k57, d_law_place := (fun_mk (st := s_law_place) l57 c57 k57).binds (ps := ["well", "things", "states"]) (fun _ _ _ _ _ _ us hl => match us, hl with | [_, _, _], _ => rfl),
    a_law_machine := g58, fd_law_machine := _, m_law_machine := PySem.W.mg_of X G a58, F_law_machine := fun_mk (st := s_law_machine) l58 c58 k58, d_law_machine := (fun_mk (st := s_law_machine) l58 c58 k58).binds (ps := ["well", "most", "more"]) (fun _ _ _ _ _ _ us hl => match us, hl with | [_, _, _], _ => rfl),
    a_law_cell := g59, fd_law_cell := _, m_law_cell := PySem.W.mg_of X G a59, F_law_cell := fun_mk (st := s_law_cell) l59 c59 k59, d_law_cell := (fun_mk (st := s_law_cell) l59 c59 k59).binds (ps := ["well", "digits"]) (fun _ _ _ _ _ _ us hl => match us, hl with | [_, _], _ => rfl),
    a_law_said_number := g60, fd_law_said_number := _, m_law_said_number := PySem.W.mg_of X G a60, F_law_said_number := fun_mk (st := s_law_said_number) l60 c60 k60, d_law_said_number := (fun_mk (st := s_law_said_number) l60 c60 k60).binds (ps := ["number"]) (fun _ _ _ _ _ _ us hl => match us, hl with | [_], _ => rfl),
    a_law_said_all := g61, fd_law_said_all := _, m_law_said_all := PySem.W.mg_of X G a61, F_law_said_all := fun_mk (st := s_law_said_all) l61 c61 k61, d_law_said_all := (fun_mk (st := s_law_said_all) l61 c61 k61).binds (ps := ["numbers"]) (fun _ _ _ _ _ _ us hl => match us, hl with | [_], _ => rfl),
    a_law_said_signs := g62, fd_law_said_signs := _, m_law_said_signs := PySem.W.mg_of X G a62, F_law_said_signs := fun_mk (st := s_law_said_signs) l62 c62 k62, d_law_said_signs := (fun_mk (st := s_law_said_signs) l62 c62 k62).binds (ps := ["signs"]) (fun _ _ _ _ _ _ us hl => match us, hl with | [_], _ => rfl),
    a_law_said_rows := g63, fd_law_said_rows := _, m_law_said_rows := PySem.W.mg_of X G a63, F_law_said_rows := fun_mk (st := s_law_said_rows) l63 c63 k63, d_law_said_rows := (fun_mk (st := s_law_said_rows) l63 c63 k63).binds (ps := ["rows"]) (fun _ _ _ _ _ _ us hl => match us, hl with | [_], _ => rfl),
    a_law_said_place := g64, fd_law_said_place := _, m_law_said_place := PySem.W.mg_of X G a64, F_law_said_place := fun_mk (st := s_law_said_place) l64 c64 k64, d_law_said_place := (fun_mk (st := s_law_said_place) l64 c64 k64).binds (ps := ["place"]) (fun _ _ _ _ _ _ us hl => match us, hl with | [_], _ => rfl),
    a_law_said_machine := g65, fd_law_said_machine := _, m_law_said_machine := PySem.W.mg_of X G a65, F_law_said_machine := fun_mk (st := s_law_said_machine) l65 c65 k65, d_law_said_machine := (fun_mk (st := s_law_said_machine) l65 c65 k65).binds (ps := ["machine"]) (fun _ _ _ _ _ _ us hl => match us, hl with | [_], _ => rfl),
    a_law_said_table := g66, fd_law_said_table := _, m_law_said_table := PySem.W.mg_of X G a66, F_law_said_table := fun_mk (st := s_law_said_table) l66 c66 k66, d_law_said_table := (fun_mk (st := s_law_said_table) l66 c66 k66).binds (ps := ["table"]) (fun _ _ _ _ _ _ us hl => match us, hl with | [_], _ => rfl),
    a_law_door := g67, fd_law_door := _, m_law_door := PySem.W.mg_of X G a67, F_law_door := fun_mk (st := s_law_door) l67 c67 k67, d_law_door := (fun_mk (st := s_law_door) l67 c67 k67).binds (ps := ["well", "door", "digits", "most"]) (fun _ _ _ _ _ _ us hl => match us, hl with | [_, _, _, _], _ => rfl),
    a_law_read := g68, fd_law_read := _, m_law_read := PySem.W.mg_of X G a68, F_law_read := fun_mk (st := s_law_read) l68 c68 k68, d_law_read := (fun_mk (st := s_law_read) l68 c68 k68).binds (ps := ["door", "said", "named"]) (fun _ _ _ _ _ _ us hl => match us, hl with | [_, _, _], _ => rfl),
    a_law_shown := g69, fd_law_shown := _, m_law_shown := PySem.W.mg_of X G a69, F_law_shown := fun_mk (st := s_law_shown) l69 c69 k69, d_law_shown := (fun_mk (st := s_law_shown) l69 c69 k69).binds (ps := ["door", "thing"]) (fun _ _ _ _ _ _ us hl => match us, hl with | [_, _], _ => rfl),
    a_law := g70, fd_law := _, m_law := PySem.W.mg_of X G a70, F_law := fun_mk (st := s_law) l70 c70 k70, d_law := (fun_mk (st := s_law) l70 c70 k70).binds (ps := ["script"]) (fun _ _ _ _ _ _ us hl => match us, hl with | [_], _ => rfl),
    b_abs := PySem.W.mg_none_of X G z_abs,
    b_all := PySem.W.mg_none_of X G z_all,
    b_any := PySem.W.mg_none_of X G z_any,
    b_bool := PySem.W.mg_none_of X G z_bool,
    b_enumerate := PySem.W.mg_none_of X G z_enumerate,
    b_int := PySem.W.mg_none_of X G z_int,
    b_isinstance := PySem.W.mg_none_of X G z_isinstance,
    b_len := PySem.W.mg_none_of X G z_len,
    b_list := PySem.W.mg_none_of X G z_list,
    b_max := PySem.W.mg_none_of X G z_max,
    b_min := PySem.W.mg_none_of X G z_min,
    b_range := PySem.W.mg_none_of X G z_range,
    b_set := PySem.W.mg_none_of X G z_set,
    b_str := PySem.W.mg_none_of X G z_str,
    b_tuple := PySem.W.mg_none_of X G z_tuple,
    z_ONE := zONE, m_ONE := PySem.W.mg_of X G yONE, v_ONE := const_tup2 xONE,
    z_ZERO := zZERO, m_ZERO := PySem.W.mg_of X G yZERO, v_ZERO := const_tup2 xZERO,
    i_gcd := PySem.W.mg_of X G i_gcd,
    t_NONE := tNONE, m_NONE := PySem.W.mg_of X G yNONE,
    t_DIGITS := tDIGITS, m_DIGITS := PySem.W.mg_of X G yDIGITS,
    t_HEAD := tHEAD, m_HEAD := PySem.W.mg_of X G yHEAD,
    t_IS := tIS, m_IS := PySem.W.mg_of X G yIS,
    t_TO := tTO, m_TO := PySem.W.mg_of X G yTO,
    t_MOST_DIGITS := tM, m_MOST_DIGITS := PySem.W.mg_of X G yMOST, z_SIGNS := zS, m_SIGNS := PySem.W.mg_of X G ySIGNS } htree (kit_of dS xS iS) (fun s v h => by
      unfold sgF at h
      split at h
      · rename_i e
        subst e
        cases h
        exact ⟨_, _, _, xS, kS, n1S, ⟨_, rfl⟩⟩
      · split at h
        · rename_i e
          subst e
          cases h
          exact ⟨_, _, _, xS, kS, n2S, ⟨_, rfl⟩⟩
        · cases h) hfa
theorem walk {l : PySem.W.OpenLaw} {q : Program} (himp : importsNone q = true) {loose : List Str} {XP : (Str → Option Value) → Heap → Prop} {YP : World → Heap → Prop} {d : DefRec} {K : Params → PySem.W.Frag} (hn : l.most = some 63) (hdf : d.params.defaults = [])
    (hY : ∀ (w : World) (h : Heap), YP w h → (K w.params).In h)
    (F : ∀ (w : World) (mg : Str → Option Value) (fa : Addr) (h : Heap), (K w.params).In h → h.Ns mainGlobals mg → mg d.name = some (.ref fa) →
      ∃ fd : FuncData, (∀ (s : Shared) (u : Value), BindsTo s fd ⟨[u], []⟩ [("script", u)]) ∧ ∀ base : Heap, (K w.params).In base → base.Ns mainGlobals mg → Seer base → FnOk l.prog w (K w.params) mg base (L2.CX l.prog w) 44 fa fd ["script"] (toSp (K w.params) sp_law)) :
    PySem.W.WalkO q loose XP YP l.row.toRowW d [] (fun f vs => PySem.call f vs) :=
  DL.walk_ofS (n := 63) (k := 44) (x := "script") (CX := fun w => L2.CX l.prog w) (sp := fun w => toSp (K w.params) sp_law) himp hn (by decide) hdf ⟨rfl, by decide, by decide⟩ hY F (fun _ _ a ns hl hO hS => law_end hO hS (end_law ns hl)) fun w H s e s' => cx_end l.prog w H s e s'
end K41
open PySem PySem.W PyProof.Rows in
set_option maxRecDepth 100000 in
set_option maxHeartbeats 0 in
theorem PySem.Challenge.cw_wholeplays_k41_whole_texts_there_and_bac_holds : PySem.Challenge.rw_wholeplays_k41_whole_texts_there_and_bac.Holds := by
  w_on; o_law; k_head; (case hw => w_witness2)
  k_fill
  refine K41.walk (l := PySem.Challenge.rw_wholeplays_k41_whole_texts_there_and_bac) (by decide +kernel) rfl rfl (fun w h Y => PySem.W.kIn_of Y) ?F
  case F =>
    intro w mg fa h KX G hmg
    refine' K41.all_mk KX G hmg ?a0 ?l0 ?c0 ?k0 ?a1 ?l1 ?c1 ?k1 ?a2 ?l2 ?c2 ?k2 ?a3 ?l3 ?c3 ?k3 ?a4 ?l4 ?c4 ?k4 ?a5 ?l5 ?c5 ?k5 ?a6 ?l6 ?c6 ?k6 ?a7 ?l7 ?c7 ?k7 ?a8 ?l8 ?c8 ?k8 ?a9 ?l9 ?c9 ?k9 ?a10 ?l10 ?c10 ?k10 ?a11 ?l11 ?c11 ?k11 ?a12 ?l12 ?c12 ?k12 ?a13 ?l13 ?c13 ?k13 ?a14 ?l14 ?c14 ?k14 ?a15 ?l15 ?c15 ?k15 ?a16 ?l16 ?c16 ?k16 ?a17 ?l17 ?c17 ?k17 ?a18 ?l18 ?c18 ?k18 ?a19 ?l19 ?c19 ?k19 ?a20 ?l20 ?c20 ?k20 ?a21 ?l21 ?c21 ?k21 ?a22 ?l22 ?c22 ?k22 ?a23 ?l23 ?c23 ?k23 ?a24 ?l24 ?c24 ?k24 ?a25 ?l25 ?c25 ?k25 ?a26 ?l26 ?c26 ?k26 ?a27 ?l27 ?c27 ?k27 ?a28 ?l28 ?c28 ?k28 ?a29 ?l29 ?c29 ?k29 ?a30 ?l30 ?c30 ?k30 ?a31 ?l31 ?c31 ?k31 ?a32 ?l32 ?c32 ?k32 ?a33 ?l33 ?c33 ?k33 ?a34 ?l34 ?c34 ?k34 ?a35 ?l35 ?c35 ?k35 ?a36 ?l36 ?c36 ?k36 ?a37 ?l37 ?c37 ?k37 ?a38 ?l38 ?c38 ?k38 ?a39 ?l39 ?c39 ?k39 ?a40 ?l40 ?c40 ?k40 ?a41 ?l41 ?c41 ?k41 ?a42 ?l42 ?c42 ?k42 ?a43 ?l43 ?c43 ?k43 ?a44 ?l44 ?c44 ?k44 ?a45 ?l45 ?c45 ?k45 ?a46 ?l46 ?c46 ?k46 ?a47 ?l47 ?c47 ?k47 ?a48 ?l48 ?c48 ?k48 ?a49 ?l49 ?c49 ?k49 ?a50 ?l50 ?c50 ?k50 ?a51 ?l51 ?c51 ?k51 ?a52 ?l52 ?c52 ?k52 ?a53 ?l53 ?c53 ?k53 ?a54 ?l54 ?c54 ?k54 ?a55 ?l55 ?c55 ?k55 ?a56 ?l56 ?c56 ?k56 ?a57 ?l57 ?c57 ?k57 ?a58 ?l58 ?c58 ?k58 ?a59 ?l59 ?c59 ?k59 ?a60 ?l60 ?c60 ?k60 ?a61 ?l61 ?c61 ?k61 ?a62 ?l62 ?c62 ?k62 ?a63 ?l63 ?c63 ?k63 ?a64 ?l64 ?c64 ?k64 ?a65 ?l65 ?c65 ?k65 ?a66 ?l66 ?c66 ?k66 ?a67 ?l67 ?c67 ?k67 ?a68 ?l68 ?c68 ?k68 ?a69 ?l69 ?c69 ?k69 ?a70 ?l70 ?c70 ?k70 ?z_abs ?z_all ?z_any ?z_bool ?z_enumerate ?z_int ?z_isinstance ?z_len ?z_list ?z_max ?z_min ?z_range ?z_set ?z_str ?z_tuple ?yONE ?xONE ?yZERO ?xZERO ?i_gcd ?yNONE ?yDIGITS ?yHEAD ?yIS ?yTO ?yMOST ?ySIGNS ?xS ?kS ?n1S ?n2S ?dS ?iS ?htree
    (case a0 => k_is)
    (case l0 => k_is)
    (case c0 => k_is)
    (case k0 => k_is)
    (case a1 => k_is)
    (case l1 => k_is)
    (case c1 => k_is)
    (case k1 => k_is)
    (case a2 => k_is)
    (case l2 => k_is)
    (case c2 => k_is)
    (case k2 => k_is)
    (case a3 => k_is)
    (case l3 => k_is)
    (case c3 => k_is)
    (case k3 => k_is)
    (case a4 => k_is)
    (case l4 => k_is)
    (case c4 => k_is)
    (case k4 => k_is)
    (case a5 => k_is)
    (case l5 => k_is)
    (case c5 => k_is)
    (case k5 => k_is)
    (case a6 => k_is)
    (case l6 => k_is)
    (case c6 => k_is)
    (case k6 => k_is)
    (case a7 => k_is)
    (case l7 => k_is)
    (case c7 => k_is)
    (case k7 => k_is)
    (case a8 => k_is)
    (case l8 => k_is)
    (case c8 => k_is)
    (case k8 => k_is)
    (case a9 => k_is)
    (case l9 => k_is)
    (case c9 => k_is)
    (case k9 => k_is)
    (case a10 => k_is)
    (case l10 => k_is)
    (case c10 => k_is)
    (case k10 => k_is)
    (case a11 => k_is)
    (case l11 => k_is)
    (case c11 => k_is)
    (case k11 => k_is)
    (case a12 => k_is)
    (case l12 => k_is)
    (case c12 => k_is)
    (case k12 => k_is)
    (case a13 => k_is)
    (case l13 => k_is)
    (case c13 => k_is)
    (case k13 => k_is)
    (case a14 => k_is)
    (case l14 => k_is)
    (case c14 => k_is)
    (case k14 => k_is)
    (case a15 => k_is)
    (case l15 => k_is)
    (case c15 => k_is)
    (case k15 => k_is)
    (case a16 => k_is)
    (case l16 => k_is)
    (case c16 => k_is)
    (case k16 => k_is)
    (case a17 => k_is)
    (case l17 => k_is)
    (case c17 => k_is)
    (case k17 => k_is)
    (case a18 => k_is)
    (case l18 => k_is)
    (case c18 => k_is)
    (case k18 => k_is)
    (case a19 => k_is)
    (case l19 => k_is)
    (case c19 => k_is)
    (case k19 => k_is)
    (case a20 => k_is)
    (case l20 => k_is)
    (case c20 => k_is)
    (case k20 => k_is)
    (case a21 => k_is)
    (case l21 => k_is)
    (case c21 => k_is)
    (case k21 => k_is)
    (case a22 => k_is)
    (case l22 => k_is)
    (case c22 => k_is)
    (case k22 => k_is)
    (case a23 => k_is)
    (case l23 => k_is)
    (case c23 => k_is)
    (case k23 => k_is)
    (case a24 => k_is)
    (case l24 => k_is)
    (case c24 => k_is)
    (case k24 => k_is)
    (case a25 => k_is)
    (case l25 => k_is)
    (case c25 => k_is)
    (case k25 => k_is)
    (case a26 => k_is)
    (case l26 => k_is)
    (case c26 => k_is)
    (case k26 => k_is)
    (case a27 => k_is)
    (case l27 => k_is)
    (case c27 => k_is)
    (case k27 => k_is)
    (case a28 => k_is)
    (case l28 => k_is)
    (case c28 => k_is)
    (case k28 => k_is)
    (case a29 => k_is)
    (case l29 => k_is)
    (case c29 => k_is)
    (case k29 => k_is)
    (case a30 => k_is)
    (case l30 => k_is)
    (case c30 => k_is)
    (case k30 => k_is)
    (case a31 => k_is)
    (case l31 => k_is)
    (case c31 => k_is)
    (case k31 => k_is)
    (case a32 => k_is)
    (case l32 => k_is)
    (case c32 => k_is)
    (case k32 => k_is)
    (case a33 => k_is)
    (case l33 => k_is)
    (case c33 => k_is)
    (case k33 => k_is)
    (case a34 => k_is)
    (case l34 => k_is)
    (case c34 => k_is)
    (case k34 => k_is)
    (case a35 => k_is)
    (case l35 => k_is)
    (case c35 => k_is)
    (case k35 => k_is)
    (case a36 => k_is)
    (case l36 => k_is)
    (case c36 => k_is)
    (case k36 => k_is)
    (case a37 => k_is)
    (case l37 => k_is)
    (case c37 => k_is)
    (case k37 => k_is)
    (case a38 => k_is)
    (case l38 => k_is)
    (case c38 => k_is)
    (case k38 => k_is)
    (case a39 => k_is)
    (case l39 => k_is)
    (case c39 => k_is)
    (case k39 => k_is)
    (case a40 => k_is)
    (case l40 => k_is)
    (case c40 => k_is)
    (case k40 => k_is)
    (case a41 => k_is)
    (case l41 => k_is)
    (case c41 => k_is)
    (case k41 => k_is)
    (case a42 => k_is)
    (case l42 => k_is)
    (case c42 => k_is)
    (case k42 => k_is)
    (case a43 => k_is)
    (case l43 => k_is)
    (case c43 => k_is)
    (case k43 => k_is)
    (case a44 => k_is)
    (case l44 => k_is)
    (case c44 => k_is)
    (case k44 => k_is)
    (case a45 => k_is)
    (case l45 => k_is)
    (case c45 => k_is)
    (case k45 => k_is)
    (case a46 => k_is)
    (case l46 => k_is)
    (case c46 => k_is)
    (case k46 => k_is)
    (case a47 => k_is)
    (case l47 => k_is)
    (case c47 => k_is)
    (case k47 => k_is)
    (case a48 => k_is)
    (case l48 => k_is)
    (case c48 => k_is)
    (case k48 => k_is)
    (case a49 => k_is)
    (case l49 => k_is)
    (case c49 => k_is)
    (case k49 => k_is)
    (case a50 => k_is)
    (case l50 => k_is)
    (case c50 => k_is)
    (case k50 => k_is)
    (case a51 => k_is)
    (case l51 => k_is)
    (case c51 => k_is)
    (case k51 => k_is)
    (case a52 => k_is)
    (case l52 => k_is)
    (case c52 => k_is)
    (case k52 => k_is)
    (case a53 => k_is)
    (case l53 => k_is)
    (case c53 => k_is)
    (case k53 => k_is)
    (case a54 => k_is)
    (case l54 => k_is)
    (case c54 => k_is)
    (case k54 => k_is)
    (case a55 => k_is)
    (case l55 => k_is)
    (case c55 => k_is)
    (case k55 => k_is)
    (case a56 => k_is)
    (case l56 => k_is)
    (case c56 => k_is)
    (case k56 => k_is)
    (case a57 => k_is)
    (case l57 => k_is)
    (case c57 => k_is)
    (case k57 => k_is)
    (case a58 => k_is)
    (case l58 => k_is)
    (case c58 => k_is)
    (case k58 => k_is)
    (case a59 => k_is)
    (case l59 => k_is)
    (case c59 => k_is)
    (case k59 => k_is)
    (case a60 => k_is)
    (case l60 => k_is)
    (case c60 => k_is)
    (case k60 => k_is)
    (case a61 => k_is)
    (case l61 => k_is)
    (case c61 => k_is)
    (case k61 => k_is)
    (case a62 => k_is)
    (case l62 => k_is)
    (case c62 => k_is)
    (case k62 => k_is)
    (case a63 => k_is)
    (case l63 => k_is)
    (case c63 => k_is)
    (case k63 => k_is)
    (case a64 => k_is)
    (case l64 => k_is)
    (case c64 => k_is)
    (case k64 => k_is)
    (case a65 => k_is)
    (case l65 => k_is)
    (case c65 => k_is)
    (case k65 => k_is)
    (case a66 => k_is)
    (case l66 => k_is)
    (case c66 => k_is)
    (case k66 => k_is)
    (case a67 => k_is)
    (case l67 => k_is)
    (case c67 => k_is)
    (case k67 => k_is)
    (case a68 => k_is)
    (case l68 => k_is)
    (case c68 => k_is)
    (case k68 => k_is)
    (case a69 => k_is)
    (case l69 => k_is)
    (case c69 => k_is)
    (case k69 => k_is)
    (case a70 => k_is)
    (case l70 => k_is)
    (case c70 => k_is)
    (case k70 => k_is)
    (case z_abs => k_is)
    (case z_all => k_is)
    (case z_any => k_is)
    (case z_bool => k_is)
    (case z_enumerate => k_is)
    (case z_int => k_is)
    (case z_isinstance => k_is)
    (case z_len => k_is)
    (case z_list => k_is)
    (case z_max => k_is)
    (case z_min => k_is)
    (case z_range => k_is)
    (case z_set => k_is)
    (case z_str => k_is)
    (case z_tuple => k_is)
    (case yONE => k_is)
    (case xONE => k_is)
    (case yZERO => k_is)
    (case xZERO => k_is)
    (case i_gcd => k_is)
    (case yNONE => k_is)
    (case yDIGITS => k_is)
    (case yHEAD => k_is)
    (case yIS => k_is)
    (case yTO => k_is)
    (case yMOST => k_is)
    (case ySIGNS => k_is)
    (case xS => k_is)
    (case kS => exact ⟨⟨_, _, rfl, rfl⟩, ⟨_, _, rfl, rfl⟩, trivial⟩)
    (case n1S => k_is)
    (case n2S => k_is)
    (case dS => first | rfl | decide)
    (case iS => exact ⟨rfl, _, _, rfl, rfl, ⟨⟨_, rfl⟩, ⟨_, rfl⟩⟩, ⟨_, rfl⟩, ⟨_, rfl⟩⟩)
    (case htree => rfl)
