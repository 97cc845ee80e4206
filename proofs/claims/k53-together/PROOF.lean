import PyProof.Rows.All
import Wide.All
import OpenK.AllK
import Wide.FinOn
import HandS.ForMost
import HandS.Exc
import HandS.ExcOwn
import HandS.Wide
import KE.KeyNested
import KE.KDictKeyed
import KE.KDictWalk
import HandS.WordsExc
import HandS.ExcInit
import HandS.Gcd
import HandS.IsInst
import HandS.TupAny
import HandS.More
import HandS.Conv
import HandS.WideBits
import KE.KMathGC
import HandS.Style
import HandS.Iter
import KE.GoesEnum
import HandS.SetFor
import HandS.Strs
import HandS.TupMul
import HandS.Zip
import HandS.Dict
import HandS.SortInts
import HandS.Ends
import HandS.ExcIs
import HandS.ExcField
import HandS.ExcValue
import HandS.TryOnly
import HandS.Small
import PySem.Challenge.RW_wholeplays_k53_whole_shares_put_together
set_option Elab.async false
set_option linter.all false
set_option maxRecDepth 100000
set_option maxHeartbeats 4000000
/-! DL: a layer of plain values over HandS: tuples (and what never changes) by their contents, lists and dicts by address in a small store. -/
namespace DL
open PySem PySem.Spec PyProof.Rows L2

/-! ### values -/
inductive D where
  | non | bl (b : Bool) | int (i : Int) | str (x : Str) | ty (n : String) | ref (a : Addr)
  | tup (xs : List D)
  | fro (xs : List D)
  | exc (C : Addr) (d : D)
  deriving Inhabited

/-- a list that never changes: locked, or of the written part -/
def StL (K : PySem.W.Frag) (H : Hp) (a : Addr) (xs : List V) : Prop :=
  (∃ o, H a = some (.frz o (.lst xs))) ∨
    ∃ (o : Obj) (its : Array Value) (n : Nat), K.lookup a = some o ∧ o.cls = .type "list" ∧ o.dict = none ∧ o.data = .seq its n ∧ its.size ≤ sizeLine ∧ Vals xs its.toList
theorem StL.sq {K : PySem.W.Frag} {H : Hp} {a : Addr} {xs : List V} (h : StL K H a xs) : SqL K H a xs := by
  rcases h with ⟨o, h⟩ | h
  · exact .inl (.inr ⟨o, h⟩)
  · exact .inr h
/-- a tuple -/
def StT (K : PySem.W.Frag) (H : Hp) (a : Addr) (xs : List V) : Prop :=
  H a = some (.tup xs) ∨
    ∃ (o : Obj) (its : Array Value) (n : Nat), K.lookup a = some o ∧ o.cls = .type "tuple" ∧ o.data = .seq its n ∧ its.size ≤ sizeLine ∧ Vals xs its.toList
theorem StT.sq {K : PySem.W.Frag} {H : Hp} {a : Addr} {xs : List V} (h : StT K H a xs) : SqT K H a xs := by
  rcases h with h | h
  · exact .inl (.inl h)
  · exact .inr h
/-- an exception object -/
def XO (a C dx : Addr) : HO := .ext fun h => ∃ oe vs, h.get? a = some oe ∧ Zc (.ref C) (some dx) oe ∧ oe.data = .fields vs

mutual
def DV (K : PySem.W.Frag) (H : Hp) : D → V → Prop
  | .non, v => v = .non
  | .bl b, v => v = .bl b
  | .int i, v => v = .int i
  | .str x, v => v = .str x
  | .ty n, v => v = .ty n
  | .ref a, v => v = .ref a
  | .tup xs, v => ∃ a vs, v = .ref a ∧ StT K H a vs ∧ DVs K H xs vs
  | .fro xs, v => ∃ a vs, v = .ref a ∧ StL K H a vs ∧ DVs K H xs vs
  | .exc C d, v => ∃ a dx w, v = .ref a ∧ H a = some (XO a C dx) ∧ H dx = some (.xd [(("value" : Str), w)]) ∧ DV K H d w
def DVs (K : PySem.W.Frag) (H : Hp) : List D → List V → Prop
  | [], vs => vs = []
  | d :: ds, vs => ∃ v ws, vs = v :: ws ∧ DV K H d v ∧ DVs K H ds ws
end

/-! ### dicts by nested tuples of ints -/
mutual
def plainK : NestedKey → Bool
  | .none => true
  | .num _ => true
  | .text _ => false
  | .tup ks => plainKs ks
def plainKs : List NestedKey → Bool
  | [] => true
  | k :: ks => plainK k && plainKs ks
end
mutual
def ofN : NestedKey → D
  | .none => .non
  | .num i => .int i
  | .text x => .str x
  | .tup ks => .tup (ofNs ks)
def ofNs : List NestedKey → List D
  | [] => []
  | k :: ks => ofN k :: ofNs ks
end
structure KeyOk (k : NestedKey) : Prop where
  tup : ∃ ks, k = .tup ks
  plain : plainK k = true
  dep : k.depth ≤ 8
/-- a dict by nested tuples: keys, where the key stands, values -/
def TN (a : Addr) (xs : List (NestedKey × Addr × V)) : HO := .ext fun h => ∃ (us : List (NestedKey × Addr × Value)) (P : Program) (w : World) (o : Obj) (es : Array DictEntry) (ep : Nat), h.get? a = some o ∧ o.ExactDict ∧ o.data = .dict es ep ∧
  es.toList = us.map (entryOfKey (nestedKind P w)) ∧ (us.map (·.1)).Nodup ∧ Paired (fun (p : NestedKey × Addr × V) (q : NestedKey × Addr × Value) => p.1 = q.1 ∧ p.2.1 = q.2.1 ∧ RelV p.2.2 q.2.2) xs us ∧ (a == sysModules) = false ∧ xs.length ≤ sizeLine
def NX (a : Addr) (xs : List (NestedKey × Addr × V)) : Prop := ∀ C dx, TN a xs ≠ XO a C dx
inductive DKN (K : PySem.W.Frag) (H : Hp) : List (NestedKey × D) → List (NestedKey × Addr × V) → Prop
  | nil : DKN K H [] []
  | cons {k : NestedKey} {d : D} {b : Addr} {v : V} {ds : List (NestedKey × D)} {vs : List (NestedKey × Addr × V)} : KeyOk k → DV K H (ofN k) (.ref b) → DV K H d v → DKN K H ds vs → DKN K H ((k, d) :: ds) ((k, b, v) :: vs)
/-! ### the store -/
inductive Cell where
  | lst (xs : List D)
  | dK (kvs : List (Key × D))
  | dN (kvs : List (NestedKey × D))
abbrev Sto := Addr → Option Cell
def sup (S : Sto) (a : Addr) (c : Cell) : Sto := fun b => if b = a then some c else S b
theorem sup_same {S : Sto} {a : Addr} {c : Cell} : sup S a c a = some c := by unfold sup; rw [if_pos rfl]
theorem sup_ne {S : Sto} {a b : Addr} {c : Cell} (h : b ≠ a) : sup S a c b = S b := by unfold sup; rw [if_neg h]
theorem sup_sup {S : Sto} {a : Addr} {c c' : Cell} : sup (sup S a c) a c' = sup S a c' := by
  funext b; unfold sup; split <;> rfl
inductive DKs (K : PySem.W.Frag) (H : Hp) : List (Key × D) → List (Key × V) → Prop
  | nil : DKs K H [] []
  | cons {k : Key} {d : D} {v : V} {ds : List (Key × D)} {vs : List (Key × V)} : DV K H d v → DKs K H ds vs → DKs K H ((k, d) :: ds) ((k, v) :: vs)
def CellOk (K : PySem.W.Frag) (H : Hp) (a : Addr) : Cell → Prop
  | .lst xs => ∃ vs, H a = some (.lst vs) ∧ DVs K H xs vs
  | .dK kvs => ∃ vs, H a = some (.dK vs) ∧ DKs K H kvs vs
  | .dN kvs => ∃ vs, H a = some (TN a vs) ∧ NX a vs ∧ DKN K H kvs vs
/-- the object of a cell -/
def CO (p : Addr) (o : HO) : Prop := (∃ xs, o = .lst xs) ∨ (∃ xs, o = .dK xs) ∨ ∃ xs, o = TN p xs ∧ NX p xs
theorem CO.tup {p : Addr} {xs : List V} (h : CO p (.tup xs)) : False := by
  rcases h with ⟨_, e⟩ | ⟨_, e⟩ | ⟨_, e, _⟩
  · cases e
  · cases e
  · unfold TN at e; cases e
theorem CO.frz {p : Addr} {ob : Obj} {u : HO} (h : CO p (.frz ob u)) : False := by
  rcases h with ⟨_, e⟩ | ⟨_, e⟩ | ⟨_, e, _⟩
  · cases e
  · cases e
  · unfold TN at e; cases e
theorem CO.xd {p : Addr} {fs : List (Str × V)} (h : CO p (.xd fs)) : False := by
  rcases h with ⟨_, e⟩ | ⟨_, e⟩ | ⟨_, e, _⟩
  · cases e
  · cases e
  · unfold TN at e; cases e
theorem CO.exc {p C dx : Addr} (h : CO p (XO p C dx)) : False := by
  rcases h with ⟨_, e⟩ | ⟨_, e⟩ | ⟨_, e, n⟩
  · unfold XO at e; cases e
  · unfold XO at e; cases e
  · exact n _ _ e.symm
def SOk (K : PySem.W.Frag) (H : Hp) (S : Sto) : Prop := ∀ a c, S a = some c → CellOk K H a c
theorem SOk.free {K : PySem.W.Frag} {H : Hp} {S : Sto} (h : SOk K H S) {a : Addr} (e : H a = none) : S a = none := by
  cases q : S a with
  | none => rfl
  | some c =>
    have := h a c q
    cases c with
    | lst xs => obtain ⟨vs, e2, _⟩ := this; rw [e] at e2; cases e2
    | dK kvs => obtain ⟨vs, e2, _⟩ := this; rw [e] at e2; cases e2
    | dN kvs => obtain ⟨vs, e2, _⟩ := this; rw [e] at e2; cases e2
/-- whatever is tracked and is not a cell's kind is not in the store -/
theorem SOk.out {K : PySem.W.Frag} {H : Hp} {S : Sto} (h : SOk K H S) {a : Addr} {o : HO} (e : H a = some o) (hc : ¬ CO a o) : S a = none := by
  cases q : S a with
  | none => rfl
  | some c =>
    have := h a c q
    cases c with
    | lst xs => obtain ⟨vs, e2, _⟩ := this; rw [e] at e2; exact absurd (.inl ⟨_, Option.some.inj e2⟩) hc
    | dK kvs => obtain ⟨vs, e2, _⟩ := this; rw [e] at e2; exact absurd (.inr (.inl ⟨_, Option.some.inj e2⟩)) hc
    | dN kvs => obtain ⟨vs, e2, n, _⟩ := this; rw [e] at e2; exact absurd (.inr (.inr ⟨_, Option.some.inj e2, n⟩)) hc

/-- the step from one heap and store to another: what is tracked beside the store stays; the store grows at new places alone -/
structure Go (K : PySem.W.Frag) (H : Hp) (S : Sto) (H' : Hp) (S' : Sto) : Prop where
  ok0 : SOk K H S
  ok : SOk K H' S'
  frame : ∀ a o, S a = none → H a = some o → H' a = some o
  ex : ∀ a o, S a = none → H a = some o → S' a = none
section
variable {K : PySem.W.Frag} {H H1 H2 : Hp} {S S1 S2 : Sto}
theorem Go.refl (h : SOk K H S) : Go K H S H S := ⟨h, h, fun _ _ _ e => e, fun _ _ e _ => e⟩
theorem Go.trans (g : Go K H S H1 S1) (g' : Go K H1 S1 H2 S2) : Go K H S H2 S2 :=
  ⟨g.ok0, g'.ok, fun a o e h => g'.frame a o (g.ex a o e h) (g.frame a o e h), fun a o e h => g'.ex a o (g.ex a o e h) (g.frame a o e h)⟩
theorem Go.tup (g : Go K H S H1 S1) {a : Addr} {vs : List V} (h : StT K H a vs) : StT K H1 a vs := by
  rcases h with h | h
  · exact .inl (g.frame a _ (g.ok0.out h CO.tup) h)
  · exact .inr h
theorem Go.fro (g : Go K H S H1 S1) {a : Addr} {vs : List V} (h : StL K H a vs) : StL K H1 a vs := by
  rcases h with ⟨o, h⟩ | h
  · exact .inl ⟨o, g.frame a _ (g.ok0.out h CO.frz) h⟩
  · exact .inr h
mutual
theorem DV.go (g : Go K H S H1 S1) : ∀ (d : D) (v : V), DV K H d v → DV K H1 d v
  | .non, _, h => h
  | .bl _, _, h => h
  | .int _, _, h => h
  | .str _, _, h => h
  | .ty _, _, h => h
  | .ref _, _, h => h
  | .tup xs, v, h => by
    obtain ⟨a, vs, e, q, r⟩ := h
    exact ⟨a, vs, e, g.tup q, DVs.go g xs vs r⟩
  | .fro xs, v, h => by
    obtain ⟨a, vs, e, q, r⟩ := h
    exact ⟨a, vs, e, g.fro q, DVs.go g xs vs r⟩
  | .exc C d, v, h => by
    obtain ⟨a, dx, w, e, q1, q2, r⟩ := h
    exact ⟨a, dx, w, e, g.frame a _ (g.ok0.out q1 CO.exc) q1, g.frame dx _ (g.ok0.out q2 CO.xd) q2, DV.go g d w r⟩
theorem DVs.go (g : Go K H S H1 S1) : ∀ (ds : List D) (vs : List V), DVs K H ds vs → DVs K H1 ds vs
  | [], _, h => h
  | d :: ds, vs, h => by
    obtain ⟨v, ws, e, r, q⟩ := h
    exact ⟨v, ws, e, DV.go g d v r, DVs.go g ds ws q⟩
end
theorem DKs.go (g : Go K H S H1 S1) {ds : List (Key × D)} {vs : List (Key × V)} (h : DKs K H ds vs) : DKs K H1 ds vs := by
  induction h with
  | nil => exact .nil
  | cons r _ ih => exact .cons (DV.go g _ _ r) ih

theorem DKN.go (g : Go K H S H1 S1) {ds : List (NestedKey × D)} {vs : List (NestedKey × Addr × V)} (h : DKN K H ds vs) : DKN K H1 ds vs := by
  induction h with
  | nil => exact .nil
  | cons k q r _ ih => exact .cons k (DV.go g _ _ q) (DV.go g _ _ r) ih

theorem DVs.length : ∀ {ds : List D} {vs : List V}, DVs K H ds vs → ds.length = vs.length
  | [], _, h => by cases (show _ = [] from h); rfl
  | d :: ds, vs, h => by
    obtain ⟨v, ws, rfl, _, q⟩ := h
    rw [List.length_cons, List.length_cons, DVs.length q]
theorem DVs.get : ∀ {ds : List D} {vs : List V} {i : Nat} {d : D}, DVs K H ds vs → ds[i]? = some d → ∃ v, vs[i]? = some v ∧ DV K H d v
  | [], _, _, _, _, e => by simp at e
  | d :: ds, vs, 0, x, h, e => by
    obtain ⟨v, ws, rfl, r, q⟩ := h
    have e : d = x := by simpa using e
    subst e
    exact ⟨v, rfl, r⟩
  | d :: ds, vs, i + 1, x, h, e => by
    obtain ⟨v, ws, rfl, r, q⟩ := h
    exact DVs.get (i := i) q (by simpa using e)
theorem DVs.nil : DVs K H [] [] := rfl
theorem DVs.cons {d : D} {v : V} {ds : List D} {vs : List V} (h : DV K H d v) (t : DVs K H ds vs) : DVs K H (d :: ds) (v :: vs) := ⟨v, vs, rfl, h, t⟩
theorem DVs.append : ∀ {ds es : List D} {vs ws : List V}, DVs K H ds vs → DVs K H es ws → DVs K H (ds ++ es) (vs ++ ws)
  | [], _, _, _, h, t => by cases (show _ = [] from h); exact t
  | d :: ds, es, vs, ws, h, t => by
    obtain ⟨v, us, rfl, r, q⟩ := h
    exact DVs.cons r (DVs.append q t)
theorem DVs.take : ∀ {ds : List D} {vs : List V} (n : Nat), DVs K H ds vs → DVs K H (ds.take n) (vs.take n)
  | _, _, 0, _ => by simp [DVs]
  | [], _, _ + 1, h => by cases (show _ = [] from h); exact DVs.nil
  | d :: ds, vs, n + 1, h => by
    obtain ⟨v, us, rfl, r, q⟩ := h
    exact DVs.cons r (DVs.take n q)
theorem DVs.drop : ∀ {ds : List D} {vs : List V} (n : Nat), DVs K H ds vs → DVs K H (ds.drop n) (vs.drop n)
  | _, _, 0, h => h
  | [], _, _ + 1, h => by cases (show _ = [] from h); exact DVs.nil
  | d :: ds, vs, n + 1, h => by
    obtain ⟨v, us, rfl, r, q⟩ := h
    exact DVs.drop n q
theorem DVs.set : ∀ {ds : List D} {vs : List V} {d : D} {v : V} (i : Nat), DVs K H ds vs → DV K H d v → DVs K H (ds.set i d) (vs.set i v)
  | [], _, _, _, _, h, _ => by cases (show _ = [] from h); exact DVs.nil
  | d :: ds, vs, x, y, 0, h, t => by
    obtain ⟨v, us, rfl, r, q⟩ := h
    exact DVs.cons t q
  | d :: ds, vs, x, y, i + 1, h, t => by
    obtain ⟨v, us, rfl, r, q⟩ := h
    exact DVs.cons r (DVs.set i q t)
theorem DVs.rev : ∀ {ds : List D} {vs : List V}, DVs K H ds vs → DVs K H ds.reverse vs.reverse
  | [], _, h => by cases (show _ = [] from h); exact DVs.nil
  | d :: ds, vs, h => by
    obtain ⟨v, us, rfl, r, q⟩ := h
    rw [List.reverse_cons, List.reverse_cons]
    exact DVs.append (DVs.rev q) (DVs.cons r DVs.nil)
theorem DVs.ints : ∀ {ns : List Int} {vs : List V}, DVs K H (ns.map D.int) vs → vs = ns.map V.int
  | [], _, h => h
  | n :: ns, vs, h => by
    obtain ⟨v, us, rfl, r, q⟩ := h
    rw [List.map_cons, ← DVs.ints q, show v = V.int n from r]
theorem DVs.of_ints : ∀ {ns : List Int}, DVs K H (ns.map D.int) (ns.map V.int)
  | [] => DVs.nil
  | n :: ns => DVs.cons (show DV K H (.int n) (.int n) from rfl) DVs.of_ints
theorem DVs.bls : ∀ {ns : List Bool} {vs : List V}, DVs K H (ns.map D.bl) vs → vs = ns.map V.bl
  | [], _, h => h
  | n :: ns, vs, h => by
    obtain ⟨v, us, rfl, r, q⟩ := h
    rw [List.map_cons, ← DVs.bls q, show v = V.bl n from r]
theorem DVs.strs : ∀ {ns : List Str} {vs : List V}, DVs K H (ns.map D.str) vs → vs = ns.map V.str
  | [], _, h => h
  | n :: ns, vs, h => by
    obtain ⟨v, us, rfl, r, q⟩ := h
    rw [List.map_cons, ← DVs.strs q, show v = V.str n from r]

/-- a new object beside the store -/
theorem Go.new (h : SOk K H S) {p : Addr} {o : HO} (hp : H p = none) : Go K H S (upd H p o) S := by
  have sok : ∀ a c, S a = some c → a ≠ p := fun a c e z => by
    subst z
    rw [h.free hp] at e
    cases e
  have g0 : ∀ a u, H a = some u → upd H p o a = some u := fun a u e => by rw [upd_ne (ne_of_none e hp)]; exact e
  -- through an empty store
  have gE : Go K H (fun _ => none) (upd H p o) (fun _ => none) := ⟨fun _ _ e => by simp at e, fun _ _ e => by simp at e, fun a u _ e => g0 a u e, fun _ _ _ _ => rfl⟩
  refine ⟨h, fun a c e => ?_, fun a u _ e => g0 a u e, fun _ _ e _ => e⟩
  have := h a c e
  cases c with
  | lst xs => obtain ⟨vs, e1, r⟩ := this; exact ⟨vs, g0 _ _ e1, DVs.go gE _ _ r⟩
  | dK kvs => obtain ⟨vs, e1, r⟩ := this; exact ⟨vs, g0 _ _ e1, DKs.go gE r⟩
  | dN kvs => obtain ⟨vs, e1, n, r⟩ := this; exact ⟨vs, g0 _ _ e1, n, DKN.go gE r⟩
theorem Go.newLst (h : SOk K H S) {p : Addr} {xs : List D} {vs : List V} (hp : H p = none) (r : DVs K H xs vs) : Go K H S (upd H p (.lst vs)) (sup S p (.lst xs)) := by
  have g := Go.new (o := .lst vs) h hp
  refine ⟨h, fun a c e => ?_, g.frame, fun a o e q => by rw [sup_ne (ne_of_none q hp)]; exact e⟩
  by_cases ha : a = p
  · subst ha
    rw [sup_same] at e; cases e
    exact ⟨vs, upd_same, DVs.go g _ _ r⟩
  · rw [sup_ne ha] at e
    exact g.ok a c e
theorem Go.newDK (h : SOk K H S) {p : Addr} {xs : List (Key × D)} {vs : List (Key × V)} (hp : H p = none) (r : DKs K H xs vs) : Go K H S (upd H p (.dK vs)) (sup S p (.dK xs)) := by
  have g := Go.new (o := .dK vs) h hp
  refine ⟨h, fun a c e => ?_, g.frame, fun a o e q => by rw [sup_ne (ne_of_none q hp)]; exact e⟩
  by_cases ha : a = p
  · subst ha
    rw [sup_same] at e; cases e
    exact ⟨vs, upd_same, DKs.go g r⟩
  · rw [sup_ne ha] at e
    exact g.ok a c e
theorem Go.newDN (h : SOk K H S) {p : Addr} {xs : List (NestedKey × D)} {vs : List (NestedKey × Addr × V)} (hp : H p = none) (n : NX p vs) (r : DKN K H xs vs) : Go K H S (upd H p (TN p vs)) (sup S p (.dN xs)) := by
  have g := Go.new (o := TN p vs) h hp
  refine ⟨h, fun a c e => ?_, g.frame, fun a o e q => by rw [sup_ne (ne_of_none q hp)]; exact e⟩
  by_cases ha : a = p
  · subst ha
    rw [sup_same] at e; cases e
    exact ⟨vs, upd_same, n, DKN.go g r⟩
  · rw [sup_ne ha] at e
    exact g.ok a c e
theorem tup_wr {p : Addr} {o o' : HO} (hp : H p = some o) (hc : CO p o) {a : Addr} {vs : List V} (h : StT K H a vs) : StT K (upd H p o') a vs := by
  have ne : ∀ {b u}, H b = some u → ¬ CO b u → b ≠ p := fun {b u} e h1 z => by
    subst z
    rw [hp] at e
    cases Option.some.inj e
    exact h1 hc
  rcases h with h | h
  · exact .inl (by rw [upd_ne (ne h CO.tup)]; exact h)
  · exact .inr h
mutual
theorem DV.wr {p : Addr} {o o' : HO} (hp : H p = some o) (hc : CO p o) : ∀ (d : D) (v : V), DV K H d v → DV K (upd H p o') d v
  | .non, _, h => h
  | .bl _, _, h => h
  | .int _, _, h => h
  | .str _, _, h => h
  | .ty _, _, h => h
  | .ref _, _, h => h
  | .tup xs, v, h => by
    obtain ⟨a, vs, e, q, r⟩ := h
    exact ⟨a, vs, e, tup_wr hp hc q, DVs.wr hp hc xs vs r⟩
  | .fro xs, v, h => by
    obtain ⟨a, vs, e, q, r⟩ := h
    refine ⟨a, vs, e, ?_, DVs.wr hp hc xs vs r⟩
    rcases q with ⟨u, q⟩ | q
    · refine .inl ⟨u, ?_⟩
      rw [upd_ne (fun z => ?_)]
      · exact q
      · subst z
        rw [hp] at q
        cases Option.some.inj q
        exact hc.frz.elim
    · exact .inr q
  | .exc C d, v, h => by
    obtain ⟨a, dx, w, e, q1, q2, r⟩ := h
    refine ⟨a, dx, w, e, ?_, ?_, DV.wr hp hc d w r⟩
    · rw [upd_ne (fun z => ?_)]
      · exact q1
      · subst z
        rw [hp] at q1
        cases Option.some.inj q1
        exact hc.exc.elim
    · rw [upd_ne (fun z => ?_)]
      · exact q2
      · subst z
        rw [hp] at q2
        cases Option.some.inj q2
        exact hc.xd.elim
theorem DVs.wr {p : Addr} {o o' : HO} (hp : H p = some o) (hc : CO p o) : ∀ (ds : List D) (vs : List V), DVs K H ds vs → DVs K (upd H p o') ds vs
  | [], _, h => h
  | d :: ds, vs, h => by
    obtain ⟨v, ws, e, r, q⟩ := h
    exact ⟨v, ws, e, DV.wr hp hc d v r, DVs.wr hp hc ds ws q⟩
end
theorem DKs.wr {p : Addr} {o o' : HO} (hp : H p = some o) (hc : CO p o) {ds : List (Key × D)} {vs : List (Key × V)} (h : DKs K H ds vs) : DKs K (upd H p o') ds vs := by
  induction h with
  | nil => exact .nil
  | cons r _ ih => exact .cons (DV.wr hp hc _ _ r) ih
theorem DKN.wr {p : Addr} {o o' : HO} (hp : H p = some o) (hc : CO p o) {ds : List (NestedKey × D)} {vs : List (NestedKey × Addr × V)} (h : DKN K H ds vs) : DKN K (upd H p o') ds vs := by
  induction h with
  | nil => exact .nil
  | cons k q r _ ih => exact .cons k (DV.wr hp hc _ _ q) (DV.wr hp hc _ _ r) ih
theorem Go.setLst (h : SOk K H S) {p : Addr} {xs0 xs : List D} {vs : List V} (hp : S p = some (.lst xs0)) (r : DVs K H xs vs) : Go K H S (upd H p (.lst vs)) (sup S p (.lst xs)) := by
  obtain ⟨vs0, e0, _⟩ := h p _ hp
  refine ⟨h, fun a c e => ?_, fun a o e q => ?_, fun a o e q => ?_⟩
  · by_cases ha : a = p
    · subst ha
      rw [sup_same] at e; cases e
      exact ⟨vs, upd_same, DVs.wr e0 (.inl ⟨_, rfl⟩) _ _ r⟩
    · rw [sup_ne ha] at e
      have := h a c e
      cases c with
      | lst xs => obtain ⟨ws, e1, r⟩ := this; exact ⟨ws, by rw [upd_ne ha]; exact e1, DVs.wr e0 (.inl ⟨_, rfl⟩) _ _ r⟩
      | dK kvs => obtain ⟨ws, e1, r⟩ := this; exact ⟨ws, by rw [upd_ne ha]; exact e1, DKs.wr e0 (.inl ⟨_, rfl⟩) r⟩
      | dN kvs => obtain ⟨ws, e1, n, r⟩ := this; exact ⟨ws, by rw [upd_ne ha]; exact e1, n, DKN.wr e0 (.inl ⟨_, rfl⟩) r⟩
  · rw [upd_ne (fun z => ?_)]
    · exact q
    · subst z; rw [hp] at e; cases e
  · rw [sup_ne (fun z => ?_)]
    · exact e
    · subst z; rw [hp] at e; cases e
theorem Go.setDK (h : SOk K H S) {p : Addr} {xs0 xs : List (Key × D)} {vs : List (Key × V)} (hp : S p = some (.dK xs0)) (r : DKs K H xs vs) : Go K H S (upd H p (.dK vs)) (sup S p (.dK xs)) := by
  obtain ⟨vs0, e0, _⟩ := h p _ hp
  refine ⟨h, fun a c e => ?_, fun a o e q => ?_, fun a o e q => ?_⟩
  · by_cases ha : a = p
    · subst ha
      rw [sup_same] at e; cases e
      exact ⟨vs, upd_same, DKs.wr e0 (.inr (.inl ⟨_, rfl⟩)) r⟩
    · rw [sup_ne ha] at e
      have := h a c e
      cases c with
      | lst xs => obtain ⟨ws, e1, r⟩ := this; exact ⟨ws, by rw [upd_ne ha]; exact e1, DVs.wr e0 (.inr (.inl ⟨_, rfl⟩)) _ _ r⟩
      | dK kvs => obtain ⟨ws, e1, r⟩ := this; exact ⟨ws, by rw [upd_ne ha]; exact e1, DKs.wr e0 (.inr (.inl ⟨_, rfl⟩)) r⟩
      | dN kvs => obtain ⟨ws, e1, n, r⟩ := this; exact ⟨ws, by rw [upd_ne ha]; exact e1, n, DKN.wr e0 (.inr (.inl ⟨_, rfl⟩)) r⟩
  · rw [upd_ne (fun z => ?_)]
    · exact q
    · subst z; rw [hp] at e; cases e
  · rw [sup_ne (fun z => ?_)]
    · exact e
    · subst z; rw [hp] at e; cases e
theorem Go.setDN (h : SOk K H S) {p : Addr} {xs0 xs : List (NestedKey × D)} {vs : List (NestedKey × Addr × V)} (hp : S p = some (.dN xs0)) (nx : NX p vs) (r : DKN K H xs vs) : Go K H S (upd H p (TN p vs)) (sup S p (.dN xs)) := by
  obtain ⟨vs0, e0, n0, _⟩ := h p _ hp
  refine ⟨h, fun a c e => ?_, fun a o e q => ?_, fun a o e q => ?_⟩
  · by_cases ha : a = p
    · subst ha
      rw [sup_same] at e; cases e
      exact ⟨vs, upd_same, nx, DKN.wr e0 (.inr (.inr ⟨_, rfl, n0⟩)) r⟩
    · rw [sup_ne ha] at e
      have := h a c e
      cases c with
      | lst xs => obtain ⟨ws, e1, r⟩ := this; exact ⟨ws, by rw [upd_ne ha]; exact e1, DVs.wr e0 (.inr (.inr ⟨_, rfl, n0⟩)) _ _ r⟩
      | dK kvs => obtain ⟨ws, e1, r⟩ := this; exact ⟨ws, by rw [upd_ne ha]; exact e1, DKs.wr e0 (.inr (.inr ⟨_, rfl, n0⟩)) r⟩
      | dN kvs => obtain ⟨ws, e1, n, r⟩ := this; exact ⟨ws, by rw [upd_ne ha]; exact e1, n, DKN.wr e0 (.inr (.inr ⟨_, rfl, n0⟩)) r⟩
  · rw [upd_ne (fun z => ?_)]
    · exact q
    · subst z; rw [hp] at e; cases e
  · rw [sup_ne (fun z => ?_)]
    · exact e
    · subst z; rw [hp] at e; cases e
/-- a list that is read: a cell, or one that never changes -/
def RdL (S : Sto) (d : D) (xs : List D) : Prop := (∃ a, d = .ref a ∧ S a = some (.lst xs)) ∨ d = .fro xs
theorem RdL.sq (h : SOk K H S) {d : D} {xs : List D} {v : V} (r : RdL S d xs) (dv : DV K H d v) : ∃ a vs, v = .ref a ∧ SqL K H a vs ∧ DVs K H xs vs := by
  rcases r with ⟨a, rfl, e⟩ | rfl
  · obtain ⟨vs, e1, q⟩ := h a _ e
    exact ⟨a, vs, dv, SqL.of e1, q⟩
  · obtain ⟨a, vs, e, q, r⟩ := dv
    exact ⟨a, vs, e, q.sq, r⟩
/-- a slot map -/
def SRv (K : PySem.W.Frag) (σ : L2.St) (H : Hp) (ρ : List (Option D)) : Prop := ρ.length = σ.length ∧ ∀ (i : Nat) (d : D), ρ[i]? = some (some d) → ∃ v, σ[i]? = some (some v) ∧ DV K H d v
theorem SRv.go {σ : L2.St} {ρ : List (Option D)} (r : SRv K σ H ρ) (g : Go K H S H1 S1) : SRv K σ H1 ρ := ⟨r.1, fun i d e => by
  obtain ⟨v, e1, q⟩ := r.2 i d e
  exact ⟨v, e1, DV.go g _ _ q⟩⟩
theorem SRv.set {σ : L2.St} {ρ : List (Option D)} (r : SRv K σ H ρ) {d : D} {v : V} (q : DV K H d v) (i : Nat) : SRv K (σ.set i (some v)) H (ρ.set i (some d)) := by
  refine ⟨by rw [List.length_set, List.length_set]; exact r.1, fun j e h => ?_⟩
  by_cases hj : i = j
  · subst hj
    have hl : i < ρ.length := by
      have := (List.getElem?_eq_some_iff.mp h).1
      rwa [List.length_set] at this
    rw [List.getElem?_set_self hl] at h
    have e2 : d = e := Option.some.inj (Option.some.inj h)
    subst e2
    exact ⟨v, by rw [List.getElem?_set_self (by rw [← r.1]; exact hl)], q⟩
  · rw [List.getElem?_set_ne hj] at h
    obtain ⟨u, e1, q1⟩ := r.2 j e h
    exact ⟨u, by rw [List.getElem?_set_ne hj]; exact e1, q1⟩
end
end DL
set_option Elab.async false
set_option linter.all false
set_option maxRecDepth 100000
set_option maxHeartbeats 4000000
namespace DL
open PySem PySem.Spec PyProof.Rows L2

/-! ### readings of plain values -/
abbrev Ro := List (Option D)
abbrev RE := Ro → Sto → (D → Sto → Prop) → Prop
abbrev RT := Ro → Sto → (Bool → Sto → Prop) → Prop
abbrev RA := Ro → Sto → (List D → Sto → Prop) → Prop
/-- what is wanted of an exception: its class, its value, the slots, the store -/
abbrev DWX := Addr → D → Ro → Sto → Prop
structure DXw where
  W : WX
  d : DWX
def XOk (K : PySem.W.Frag) (y : DXw) (H : Hp) (S : Sto) : Prop := ∀ C d ρ S' dx w σ H', Go K H S H' S' → SRv K σ H' ρ → H' dx = some (.xd [(("value" : Str), w)]) → DV K H' d w → y.d C d ρ S' → y.W (.ref C) (some dx) σ H'
structure SX (K : PySem.W.Frag) (y : DXw) (H : Hp) (S : Sto) : Prop where
  so : SOk K H S
  xo : XOk K y H S
theorem SX.go {K : PySem.W.Frag} {y : DXw} {H H' : Hp} {S S' : Sto} (h : SX K y H S) (g : Go K H S H' S') : SX K y H' S' :=
  ⟨g.ok, fun C d ρ S2 dx w σ H2 g2 => h.xo C d ρ S2 dx w σ H2 (g.trans g2)⟩
def lE (K : PySem.W.Frag) (y : DXw) (t : RE) : TE := fun σ H Q => ∃ ρ S R, SRv K σ H ρ ∧ SX K y H S ∧ t ρ S R ∧ ∀ d S' v H', Go K H S H' S' → DV K H' d v → R d S' → Q v H'
def lT (K : PySem.W.Frag) (y : DXw) (t : RT) : TT := fun σ H Q => ∃ ρ S R, SRv K σ H ρ ∧ SX K y H S ∧ t ρ S R ∧ ∀ b S' H', Go K H S H' S' → R b S' → Q b H'
def lA (K : PySem.W.Frag) (y : DXw) (n : Nat) (t : RA) : TA := fun σ H Q => ∃ ρ S R, SRv K σ H ρ ∧ SX K y H S ∧ t ρ S R ∧ ∀ ds S' vs H', Go K H S H' S' → DVs K H' ds vs → ds.length = n → R ds S' → Q vs H'
def PD (X : Cx) (y : DXw) (e : Expr) (t : RE) : Prop := PE X e (lE X.K y t)
def PDT (X : Cx) (y : DXw) (e : Expr) (t : RT) : Prop := PT X e (lT X.K y t)
def PDW (X : Cx) (y : DXw) (e : Expr) (t : RT) : Prop := PW X e (lT X.K y t)
def PDA (X : Cx) (y : DXw) (es : List Expr) (t : RA) : Prop := PA X es (lA X.K y es.length t)
/-- an if that stands still until it is looked at -/
structure IFB (b : Bool) (A B : Prop) : Prop where
  yes : b = true → A
  no : b = false → B
theorem IFB.t {b : Bool} {A B : Prop} (h : b = true) (h1 : A) : IFB b A B := IFB.mk (fun _ => h1) fun z => by rw [h] at z; cases z
theorem IFB.f {b : Bool} {A B : Prop} (h : b = false) (h1 : B) : IFB b A B := IFB.mk (fun z => by rw [h] at z; cases z) fun _ => h1
theorem IFB.of {b : Bool} {A B : Prop} (h : IFB b A B) : (b = true → A) ∧ (b = false → B) := ⟨h.yes, h.no⟩
theorem IFB.p {p : Prop} [Decidable p] {A B : Prop} (h1 : p → A) (h2 : ¬ p → B) : IFB (decide p) A B := IFB.mk (fun z => h1 (of_decide_eq_true z)) fun z => h2 (of_decide_eq_false z)
theorem IFB.np {p : Prop} [Decidable p] {A B : Prop} (h1 : ¬ p → A) (h2 : p → B) : IFB (!decide p) A B := IFB.mk (fun z => h1 (by simpa using z)) fun z => h2 (by simpa using z)

section
variable {X : Cx} {y : DXw}
theorem PD.of {e : Expr} {t0 : TE} {t : RE} (h : PE X e t0) (w : ∀ σ H Q, lE X.K y t σ H Q → t0 σ H Q) : PD X y e t := ⟨fun pins s σ H Q I q => h.run pins s σ H Q I (w σ H Q q)⟩
theorem PDT.of {e : Expr} {t0 : TT} {t : RT} (h : PT X e t0) (w : ∀ σ H Q, lT X.K y t σ H Q → t0 σ H Q) : PDT X y e t := ⟨fun pins s σ H Q I q => h.run pins s σ H Q I (w σ H Q q)⟩
theorem PDA.of {e : List Expr} {t0 : TA} {t : RA} (h : PA X e t0) (w : ∀ σ H Q, lA X.K y e.length t σ H Q → t0 σ H Q) : PDA X y e t := ⟨fun pos pins s σ H Q I q => h.run pos pins s σ H Q I (w σ H Q q)⟩

/-! ### names, constants -/
def rVar (i : Nat) : RE := fun ρ S Q => match ρ[i]? with
  | some (some d) => Q d S
  | _ => False
def rC (d : D) : RE := fun _ S Q => Q d S
theorem pd_var (i : Nat) {x : Str} {pos : Pos} (hN : X.N[i]? = some x := by rfl) (hv : Vis X.env.scope x := by first | exact Or.inl rfl | exact Or.inr (Or.inl rfl) | exact Or.inr (Or.inr rfl)) (hd : (x == ("__debug__" : Str)) = false := by decide)
    (hcd : (x == ("__classdict__" : Str)) = false := by decide) : PD X y (.Name x pos) (rVar i) := by
  refine PD.of (pe_var hN hv hd hcd) fun σ H Q h => ?_
  obtain ⟨ρ, S, R, sr, so, h, k⟩ := h
  unfold rVar at h
  split at h
  · rename_i d e
    obtain ⟨v, e1, q⟩ := sr.2 i d e
    exact ⟨v, e1, k d S v H (Go.refl so.so) q h⟩
  · exact h.elim
theorem pd_c {e : Expr} {v : V} {d : D} (h : PE X e (tC v)) (hd : ∀ H, DV X.K H d v) : PD X y e (rC d) := by
  refine PD.of h fun σ H Q h => ?_
  obtain ⟨ρ, S, R, sr, so, h, k⟩ := h
  exact k d S v H (Go.refl so.so) (hd H) h
theorem pd_int {i j pos} : PD X y (.Constant (.int i) j pos) (rC (.int i)) := pd_c pe_int fun _ => rfl
theorem pd_bl {i j pos} : PD X y (.Constant (.bool i) j pos) (rC (.bl i)) := pd_c pe_bl fun _ => rfl
theorem pd_non {j pos} : PD X y (.Constant .none j pos) (rC .non) := pd_c pe_non fun _ => rfl
theorem pd_str {x j pos} : PD X y (.Constant (.str x) j pos) (rC (.str x)) := pd_c pe_str fun _ => rfl
/-- a module's constant -/
theorem pd_glob {x : Str} {v : V} {u : Value} {d : D} {pos : Pos} (hm : X.mg x = some u) (r : RelV v u) (hd' : ∀ H, DV X.K H d v) (hg : Gl X x := by rfl) (hd : (x == ("__debug__" : Str)) = false := by decide) : PD X y (.Name x pos) (rC d) :=
  pd_c (pe_glob hg hm r hd) hd'

/-! ### two-place operators, by values -/
abbrev ROp := D → D → Sto → (D → Sto → Prop) → Prop
def lop (K : PySem.W.Frag) (p : ROp) : R2 := fun v w H Q => ∃ x y S R, DV K H x v ∧ DV K H y w ∧ SOk K H S ∧ p x y S R ∧ ∀ d S' z H', Go K H S H' S' → DV K H' d z → R d S' → Q z H'
def rBin (p : ROp) (ta tb : RE) : RE := fun ρ S Q => ta ρ S fun x S1 => tb ρ S1 fun y S2 => p x y S2 Q
theorem bin_of {r : R2} {p : ROp} {ta tb : RE} {σ : L2.St} {H : Hp} {Q : VK} (hr : ∀ v w H Q, lop X.K p v w H Q → r v w H Q) (h : lE X.K y (rBin p ta tb) σ H Q) : tOp r (lE X.K y ta) (lE X.K y tb) σ H Q := by
  obtain ⟨ρ, S, R, sr, so, h, k⟩ := h
  refine ⟨ρ, S, _, sr, so, h, fun x S1 v H1 g1 dv1 h1 => ⟨ρ, S1, _, sr.go g1, so.go g1, h1, fun y S2 w H2 g2 dv2 h2 => ?_⟩⟩
  exact hr _ _ _ _ ⟨x, y, S2, R, DV.go g2 _ _ dv1, dv2, g2.ok, h2, fun d S' z H' g dz hz => k d S' z H' (g1.trans (g2.trans g)) dz hz⟩
theorem pd_bin {op : Operator} {p : ROp} {a b : Expr} {ta tb : RE} {pos : Pos} (ho : OpR X (binaryOp op) (lop X.K p)) (ha : PD X y a ta) (hb : PD X y b tb) : PD X y (.BinOp a op b pos) (rBin p ta tb) :=
  PD.of (pe_op ho ha hb) fun _ _ _ h => bin_of (fun _ _ _ _ z => z) h
theorem pd_cmp {op : CmpOp} {p : ROp} {a b : Expr} {ta tb : RE} {pos : Pos} (ho : OpR X (compareOp op) (lop X.K p)) (ha : PD X y a ta) (hb : PD X y b tb) (hm : behindInMarks op b = false := by first | rfl | exact nomark _) : PD X y (.Compare a [op] [b] pos) (rBin p ta tb) :=
  PD.of (pe_cmpR ho ha hb hm) fun _ _ _ h => bin_of (fun _ _ _ _ z => z) h
/-- a value's truth, where it is a bool -/
def dBl : D → (Bool → Prop) → Prop
  | .bl b, k => k b
  | _, _ => False
def rTst (t : RE) : RT := fun ρ S Q => t ρ S fun d S1 => dBl d fun b => Q b S1
theorem tst_of {t0 : TE} {t : RE} {σ : L2.St} {H : Hp} {Q : Bool → Hp → Prop} (ht : ∀ σ H Q, lE X.K y t σ H Q → t0 σ H Q) (h : lT X.K y (rTst t) σ H Q) : t0 σ H (fun x H' => ∃ k, x = .bl k ∧ Q k H') := by
  obtain ⟨ρ, S, R, sr, so, h, k⟩ := h
  refine ht _ _ _ ⟨ρ, S, _, sr, so, h, fun d S' v H' g dv hd => ?_⟩
  cases d with
  | bl b => exact ⟨b, dv, k b S' H' g hd⟩
  | _ => exact False.elim hd
theorem pdt_cmp {op : CmpOp} {p : ROp} {a b : Expr} {ta tb : RE} {pos : Pos} (ho : OpR X (compareOp op) (lop X.K p)) (ha : PD X y a ta) (hb : PD X y b tb) (hm : behindInMarks op b = false := by first | rfl | exact nomark _) : PDT X y (.Compare a [op] [b] pos) (rTst (rBin p ta tb)) :=
  PDT.of (pt_cmpR ho ha hb hm) fun _ _ _ h => tst_of (fun _ _ _ h => bin_of (fun _ _ _ _ z => z) h) h
theorem pdt_val {e : Expr} {t : RE} (h : PD X y e t) (he : ∀ whole, isTrue e X.env whole = (do let v ← whole; standAt e.pos; holding [v] (truthy v)) := by intro _; rfl) : PDT X y e (rTst t) :=
  PDT.of (pt_val h he) fun _ _ _ h => tst_of (fun _ _ _ h => h) h
/-- a value's truth -/
def dTru : D → Sto → (Bool → Prop) → Prop
  | .non, _, k => k false
  | .bl b, _, k => k b
  | .int i, _, k => k (i != 0)
  | .str x, _, k => x.length ≤ sizeLine ∧ k ((x.length : Int) != 0)
  | .tup xs, _, k => k (!xs.isEmpty)
  | .fro xs, _, k => k (!xs.isEmpty)
  | .ref a, S, k => (∃ xs, S a = some (.lst xs) ∧ k (!xs.isEmpty)) ∨ ∃ kvs, S a = some (.dK kvs) ∧ k (!kvs.isEmpty)
  | _, _, _ => False
theorem DVs.empty {K : PySem.W.Frag} {H : Hp} {ds : List D} {vs : List V} (h : DVs K H ds vs) : ds.isEmpty = vs.isEmpty := by
  have := h.length
  cases ds <;> cases vs <;> simp_all
theorem DKs.length {K : PySem.W.Frag} {H : Hp} {ds : List (Key × D)} {vs : List (Key × V)} (h : DKs K H ds vs) : ds.length = vs.length := by
  induction h with
  | nil => rfl
  | cons _ _ ih => simp [ih]
theorem DKs.empty {K : PySem.W.Frag} {H : Hp} {ds : List (Key × D)} {vs : List (Key × V)} (h : DKs K H ds vs) : ds.isEmpty = vs.isEmpty := by
  cases h <;> rfl
theorem dTru_of {K : PySem.W.Frag} {H : Hp} {S : Sto} (so : SOk K H S) : ∀ {d : D} {v : V} {k : Bool → Prop}, DV K H d v → dTru d S k → ∃ b, TruV K v H b ∧ k b
  | .non, _, _, h, q => by cases (show _ = V.non from h); exact ⟨false, rfl, q⟩
  | .bl b, _, _, h, q => by cases (show _ = V.bl b from h); exact ⟨b, rfl, q⟩
  | .int i, _, _, h, q => by cases (show _ = V.int i from h); exact ⟨_, rfl, q⟩
  | .str x, _, _, h, q => by cases (show _ = V.str x from h); exact ⟨_, ⟨q.1, rfl⟩, q.2⟩
  | .tup xs, _, _, h, q => by
    obtain ⟨a, vs, rfl, e, r⟩ := h
    exact ⟨_, .inr (.inl ⟨vs, e.sq, rfl⟩), by rw [← r.empty]; exact q⟩
  | .fro xs, _, _, h, q => by
    obtain ⟨a, vs, rfl, e, r⟩ := h
    exact ⟨_, .inl ⟨vs, e.sq, rfl⟩, by rw [← r.empty]; exact q⟩
  | .ref a, _, _, h, q => by
    cases (show _ = V.ref a from h)
    rcases q with ⟨xs, e, q⟩ | ⟨xs, e, q⟩
    · obtain ⟨vs, e1, r⟩ := so a _ e
      exact ⟨_, .inl ⟨vs, SqL.of e1, rfl⟩, by rw [← r.empty]; exact q⟩
    · obtain ⟨vs, e1, r⟩ := so a _ e
      exact ⟨_, .inr (.inr ⟨vs, e1, rfl⟩), by rw [← r.empty]; exact q⟩
  | .ty _, _, _, _, q => q.elim
  | .exc _ _, _, _, _, q => q.elim
def rTru (t : RE) : RT := fun ρ S Q => t ρ S fun d S1 => dTru d S1 fun b => Q b S1
theorem pdt_tru {e : Expr} {t : RE} (h : PD X y e t) (he : ∀ whole, isTrue e X.env whole = (do let v ← whole; standAt e.pos; holding [v] (truthy v)) := by intro _; rfl) : PDT X y e (rTru t) := by
  refine PDT.of (pt_truth h he) fun σ H Q h => ?_
  obtain ⟨ρ, S, R, sr, so, h, k⟩ := h
  refine ⟨ρ, S, _, sr, so, h, fun d S' v H' g dv hd => ?_⟩
  obtain ⟨b, h1, h2⟩ := dTru_of g.ok dv hd
  exact ⟨b, h1, k b S' H' g h2⟩

/-! ### and, or, not, if -/
def rAnd (t u : RT) : RT := fun ρ S Q => t ρ S fun c S1 => IFB c (u ρ S1 Q) (Q false S1)
def rOr (t u : RT) : RT := fun ρ S Q => t ρ S fun c S1 => IFB c (Q true S1) (u ρ S1 Q)
def rNot (t : RT) : RT := fun ρ S Q => t ρ S fun c S1 => Q (!c) S1
theorem ite_of_IFB {b : Bool} {A B A' B' : Prop} (h : IFB b A B) (h1 : A → A') (h2 : B → B') : if b = true then A' else B' := by
  have q := h.of
  cases b with
  | true => rw [if_pos rfl]; exact h1 (q.1 rfl)
  | false => rw [if_neg Bool.false_ne_true]; exact h2 (q.2 rfl)
variable {a b : Expr} {rest : List Expr} {pos : Pos}
theorem pdw_and1 {t : RT} (h : PDT X y a t) : PDW X y (.BoolOp .And [a] pos) t := pw_and1 h
theorem pdw_or1 {t : RT} (h : PDT X y a t) : PDW X y (.BoolOp .Or [a] pos) t := pw_or1 h
theorem PDW.of {e : Expr} {t0 : TT} {t : RT} (h : PW X e t0) (w : ∀ σ H Q, lT X.K y t σ H Q → t0 σ H Q) : PDW X y e t := ⟨fun wh pins s σ H Q I q => h.run wh pins s σ H Q I (w σ H Q q)⟩
theorem pdw_and {t u : RT} (ha : PDT X y a t) (hb : PDW X y (.BoolOp .And (b :: rest) pos) u) : PDW X y (.BoolOp .And (a :: b :: rest) pos) (rAnd t u) := by
  refine PDW.of (pw_and ha hb) fun σ H Q h => ?_
  obtain ⟨ρ, S, R, sr, so, h, k⟩ := h
  refine ⟨ρ, S, _, sr, so, h, fun c S' H' g hd => ?_⟩
  exact ite_of_IFB hd (fun z => ⟨ρ, S', R, sr.go g, so.go g, z, fun b S2 H2 g2 q => k b S2 H2 (g.trans g2) q⟩) fun z => k false S' H' g z
theorem pdw_or {t u : RT} (ha : PDT X y a t) (hb : PDW X y (.BoolOp .Or (b :: rest) pos) u) : PDW X y (.BoolOp .Or (a :: b :: rest) pos) (rOr t u) := by
  refine PDW.of (pw_or ha hb) fun σ H Q h => ?_
  obtain ⟨ρ, S, R, sr, so, h, k⟩ := h
  refine ⟨ρ, S, _, sr, so, h, fun c S' H' g hd => ?_⟩
  exact ite_of_IFB hd (fun z => k true S' H' g z) fun z => ⟨ρ, S', R, sr.go g, so.go g, z, fun b S2 H2 g2 q => k b S2 H2 (g.trans g2) q⟩
theorem PDW.pt {e : Expr} {t : RT} (h : PDW X y e t) : PDT X y e t := PW.pt h
theorem pdt_not {t : RT} (ha : PDT X y a t) : PDT X y (.UnaryOp .Not a pos) (rNot t) := by
  refine PDT.of (pt_not ha) fun σ H Q h => ?_
  obtain ⟨ρ, S, R, sr, so, h, k⟩ := h
  exact ⟨ρ, S, _, sr, so, h, fun c S' H' g hd => k _ S' H' g hd⟩
def rAndV (t u : RE) : RE := fun ρ S Q => t ρ S fun d S1 => dBl d fun c => IFB c (u ρ S1 Q) (Q (.bl false) S1)
def rOrV (t u : RE) : RE := fun ρ S Q => t ρ S fun d S1 => dBl d fun c => IFB c (Q (.bl true) S1) (u ρ S1 Q)
def rNotV (t : RE) : RE := fun ρ S Q => t ρ S fun d S1 => dBl d fun c => Q (.bl (!c)) S1
theorem pd_one {op : BoolOp} {t : RE} (h : PD X y a t) : PD X y (.BoolOp op [a] pos) t := pe_one h
theorem pd_and {t u : RE} (ha : PD X y a t) (hb : PD X y (.BoolOp .And (b :: rest) pos) u) : PD X y (.BoolOp .And (a :: b :: rest) pos) (rAndV t u) := by
  refine PD.of (pe_and ha hb) fun σ H Q h => ?_
  obtain ⟨ρ, S, R, sr, so, h, k⟩ := h
  refine ⟨ρ, S, _, sr, so, h, fun d S' v H' g dv hd => ?_⟩
  cases d with
  | bl c =>
    refine ⟨c, dv, ite_of_IFB hd (fun z => ⟨ρ, S', R, sr.go g, so.go g, z, fun d S2 v H2 g2 dv q => k d S2 v H2 (g.trans g2) dv q⟩) fun z => k (.bl false) S' _ H' g rfl z⟩
  | _ => exact False.elim hd
theorem pd_or {t u : RE} (ha : PD X y a t) (hb : PD X y (.BoolOp .Or (b :: rest) pos) u) : PD X y (.BoolOp .Or (a :: b :: rest) pos) (rOrV t u) := by
  refine PD.of (pe_or ha hb) fun σ H Q h => ?_
  obtain ⟨ρ, S, R, sr, so, h, k⟩ := h
  refine ⟨ρ, S, _, sr, so, h, fun d S' v H' g dv hd => ?_⟩
  cases d with
  | bl c =>
    refine ⟨c, dv, ite_of_IFB hd (fun z => k (.bl true) S' _ H' g rfl z) fun z => ⟨ρ, S', R, sr.go g, so.go g, z, fun d S2 v H2 g2 dv q => k d S2 v H2 (g.trans g2) dv q⟩⟩
  | _ => exact False.elim hd
theorem pd_not {t : RE} (ha : PD X y a t) : PD X y (.UnaryOp .Not a pos) (rNotV t) := by
  refine PD.of (pe_not ha) fun σ H Q h => ?_
  obtain ⟨ρ, S, R, sr, so, h, k⟩ := h
  refine ⟨ρ, S, _, sr, so, h, fun d S' v H' g dv hd => ?_⟩
  cases d with
  | bl c => exact ⟨c, dv, k (.bl (!c)) S' _ H' g rfl hd⟩
  | _ => exact False.elim hd
def rIf (t : RT) (u w : RE) : RE := fun ρ S Q => t ρ S fun c S1 => IFB c (u ρ S1 Q) (w ρ S1 Q)
theorem pd_if {c : Expr} {t : RT} {u w : RE} (hc : PDT X y c t) (ha : PD X y a u) (hb : PD X y b w) : PD X y (.IfExp c a b pos) (rIf t u w) := by
  refine PD.of (pe_ifExp hc ha hb) fun σ H Q h => ?_
  obtain ⟨ρ, S, R, sr, so, h, k⟩ := h
  refine ⟨ρ, S, _, sr, so, h, fun c S' H' g hd => ?_⟩
  exact ite_of_IFB hd (fun z => ⟨ρ, S', R, sr.go g, so.go g, z, fun d S2 v H2 g2 dv q => k d S2 v H2 (g.trans g2) dv q⟩) fun z => ⟨ρ, S', R, sr.go g, so.go g, z, fun d S2 v H2 g2 dv q => k d S2 v H2 (g.trans g2) dv q⟩

/-! ### arguments, displays -/
def rNil : RA := fun _ S Q => Q [] S
def rCons (t : RE) (u : RA) : RA := fun ρ S Q => t ρ S fun d S1 => u ρ S1 fun ds S2 => Q (d :: ds) S2
variable {e : Expr} {es : List Expr}
theorem pda_nil : PDA X y [] rNil := PDA.of pa_nil fun σ H Q h => by
  obtain ⟨ρ, S, R, sr, so, h, k⟩ := h
  exact k [] S [] H (Go.refl so.so) DVs.nil rfl h
theorem pda_cons {t : RE} {u : RA} (he : PD X y e t) (hr : PDA X y es u) (hs : starEach (e :: es) X.env = (false, eval e X.env) :: starEach es X.env := by rfl) : PDA X y (e :: es) (rCons t u) := by
  refine PDA.of (pa_cons he hr hs) fun σ H Q h => ?_
  obtain ⟨ρ, S, R, sr, so, h, k⟩ := h
  refine ⟨ρ, S, _, sr, so, h, fun d S1 v H1 g1 dv h1 => ⟨ρ, S1, _, sr.go g1, so.go g1, h1, fun ds S2 vs H2 g2 dvs hn h2 => ?_⟩⟩
  exact k _ S2 _ H2 (g1.trans g2) (DVs.cons (DV.go g2 _ _ dv) dvs) (by rw [List.length_cons, List.length_cons, hn]) h2
def rTup (t : RA) : RE := fun ρ S Q => t ρ S fun ds S1 => Q (.tup ds) S1
def rLst (t : RA) : RE := fun ρ S Q => t ρ S fun ds S1 => ∀ p, S1 p = none → Q (.ref p) (sup S1 p (.lst ds))
theorem pd_tup {t : RA} {k : Nat} (h : PDA X y es t) (hl : es.length ≤ sizeLine := by decide) : PD X y (.Tuple es k pos) (rTup t) := by
  refine PD.of (pe_tup h) fun σ H Q h => ?_
  obtain ⟨ρ, S, R, sr, so, h, k⟩ := h
  refine ⟨ρ, S, _, sr, so, h, fun ds S1 vs H1 g1 dvs hn h1 => ⟨by rw [← dvs.length, hn]; exact hl, fun p hp => ?_⟩⟩
  have g2 := Go.new (o := .tup vs) g1.ok hp
  exact k (.tup ds) S1 _ _ (g1.trans g2) ⟨p, vs, rfl, .inl upd_same, DVs.go g2 _ _ dvs⟩ h1
theorem pd_lst {t : RA} (h : PDA X y es t) (hl : es.length ≤ sizeLine := by decide) : PD X y (.List es pos) (rLst t) := by
  refine PD.of (pe_lst h) fun σ H Q h => ?_
  obtain ⟨ρ, S, R, sr, so, h, k⟩ := h
  refine ⟨ρ, S, _, sr, so, h, fun ds S1 vs H1 g1 dvs hn h1 => ⟨by rw [← dvs.length, hn]; exact hl, fun p hp => ?_⟩⟩
  have g2 := Go.newLst g1.ok hp dvs
  exact k (.ref p) _ _ _ (g1.trans g2) rfl (h1 p (g1.ok.free hp))
end
end DL
set_option Elab.async false
set_option linter.all false
set_option maxRecDepth 100000
set_option maxHeartbeats 4000000
namespace DL
open PySem PySem.Spec PyProof.Rows L2

/-! ### statements -/
structure DEnds where
  nx : Ro → Sto → Prop
  rt : D → Sto → Prop
  bk : Ro → Sto → Prop := fun _ _ => False
  ct : Ro → Sto → Prop := fun _ _ => False
abbrev RS := DEnds → Ro → Sto → Prop
structure EOk (K : PySem.W.Frag) (H : Hp) (S : Sto) (E : DEnds) (D : Ends) : Prop where
  nx : ∀ ρ S' σ H', Go K H S H' S' → SRv K σ H' ρ → E.nx ρ S' → D.nx σ H'
  rt : ∀ d S' v H', Go K H S H' S' → DV K H' d v → E.rt d S' → D.rt v H'
  bk : ∀ ρ S' σ H', Go K H S H' S' → SRv K σ H' ρ → E.bk ρ S' → D.bk σ H'
  ct : ∀ ρ S' σ H', Go K H S H' S' → SRv K σ H' ρ → E.ct ρ S' → D.ct σ H'
theorem EOk.go {K : PySem.W.Frag} {H H1 : Hp} {S S1 : Sto} {E : DEnds} {D : Ends} (h : EOk K H S E D) (g : Go K H S H1 S1) : EOk K H1 S1 E D :=
  ⟨fun ρ S' σ H' g' => h.nx ρ S' σ H' (g.trans g'), fun d S' v H' g' => h.rt d S' v H' (g.trans g'), fun ρ S' σ H' g' => h.bk ρ S' σ H' (g.trans g'), fun ρ S' σ H' g' => h.ct ρ S' σ H' (g.trans g')⟩
def lS (K : PySem.W.Frag) (y : DXw) (t : RS) : TS := fun D σ H => ∃ ρ S E, SRv K σ H ρ ∧ SX K y H S ∧ t E ρ S ∧ EOk K H S E D
def PDS (X : Cx) (y : DXw) (st : Stmt) (t : RS) : Prop := PS X st (lS X.K y t)
def PDSs (X : Cx) (y : DXw) (st : List Stmt) (t : RS) : Prop := PSs X st (lS X.K y t)
section
variable {X : Cx} {y : DXw} {st : Stmt} {rest : List Stmt} {t u : RS} {e : Expr} {te : RE} {pos : Pos}
theorem PDS.of {t0 : TS} (h : PS X st t0) (w : ∀ D σ H, lS X.K y t D σ H → t0 D σ H) : PDS X y st t := ⟨fun pins s σ H D I q => h.run pins s σ H D I (w D σ H q)⟩
theorem PDSs.of {sts : List Stmt} {t0 : TS} (h : PSs X sts t0) (w : ∀ D σ H, lS X.K y t D σ H → t0 D σ H) : PDSs X y sts t := ⟨fun pins s σ H D I q => h.run pins s σ H D I (w D σ H q)⟩
def rNext : RS := fun E ρ S => E.nx ρ S
def rSeq (t u : RS) : RS := fun E ρ S => t { E with nx := u E } ρ S
def rBreak : RS := fun E ρ S => E.bk ρ S
def rCont : RS := fun E ρ S => E.ct ρ S
def rNever : RS := fun _ _ _ => False
theorem pds_nil : PDSs X y [] rNext := PDSs.of pss_nil fun D σ H h => by
  obtain ⟨ρ, S, E, sr, so, h, eo⟩ := h
  exact eo.nx ρ S σ H (Go.refl so.so) sr h
theorem pds_one (h : PDS X y st t) : PDSs X y [st] t := pss_one h
theorem pds_cons (h1 : PDS X y st t) (h2 : PDSs X y rest u) : PDSs X y (st :: rest) (rSeq t u) := PDSs.of (pss_cons h1 h2) fun D σ H h => by
  obtain ⟨ρ, S, E, sr, so, h, eo⟩ := h
  exact ⟨ρ, S, { E with nx := u E }, sr, so, h, ⟨fun ρ' S' σ' H' g sr' q => ⟨ρ', S', E, sr', so.go g, q, eo.go g⟩, eo.rt, eo.bk, eo.ct⟩⟩
theorem pd_pass : PDS X y (.Pass pos) rNext := PDS.of ps_pass fun D σ H h => by
  obtain ⟨ρ, S, E, sr, so, h, eo⟩ := h
  exact eo.nx ρ S σ H (Go.refl so.so) sr h
theorem pd_break : PDS X y (.Break pos) rBreak := PDS.of ps_break fun D σ H h => by
  obtain ⟨ρ, S, E, sr, so, h, eo⟩ := h
  exact eo.bk ρ S σ H (Go.refl so.so) sr h
theorem pd_cont : PDS X y (.Continue pos) rCont := PDS.of ps_continue fun D σ H h => by
  obtain ⟨ρ, S, E, sr, so, h, eo⟩ := h
  exact eo.ct ρ S σ H (Go.refl so.so) sr h
theorem pd_never : PDS X y st rNever := PDS.of ps_never fun D σ H h => by
  obtain ⟨ρ, S, E, sr, so, h, eo⟩ := h
  exact h
theorem pds_never {sts : List Stmt} : PDSs X y sts rNever := PDSs.of pss_never fun D σ H h => by
  obtain ⟨ρ, S, E, sr, so, h, eo⟩ := h
  exact h
def rDrop (te : RE) : RS := fun E ρ S => te ρ S fun _ S1 => E.nx ρ S1
theorem pd_expr (he : PD X y e te) (hs : swapsWith e none pos.line X.env = pure false := by rfl) : PDS X y (.Expr e pos) (rDrop te) := PDS.of (ps_expr he hs) fun D σ H h => by
  obtain ⟨ρ, S, E, sr, so, h, eo⟩ := h
  exact ⟨ρ, S, _, sr, so, h, fun d S' v H' g dv q => eo.nx ρ S' σ H' g (sr.go g) q⟩
def rRet (te : RE) : RS := fun E ρ S => te ρ S E.rt
theorem pd_ret (he : PD X y e te) : PDS X y (.Return (some e) pos) (rRet te) := PDS.of (ps_ret he) fun D σ H h => by
  obtain ⟨ρ, S, E, sr, so, h, eo⟩ := h
  exact ⟨ρ, S, _, sr, so, h, fun d S' v H' g dv q => eo.rt d S' v H' g dv q⟩
def rRetN : RS := fun E _ S => E.rt .non S
theorem pd_retN : PDS X y (.Return none pos) rRetN := PDS.of ps_retN fun D σ H h => by
  obtain ⟨ρ, S, E, sr, so, h, eo⟩ := h
  exact eo.rt .non S .non H (Go.refl so.so) rfl h
def rIfS (c : RT) (t u : RS) : RS := fun E ρ S => c ρ S fun b S1 => IFB b (t E ρ S1) (u E ρ S1)
theorem pd_ifS {c : Expr} {a b : List Stmt} {tc : RT} (hc : PDT X y c tc) (ha : PDSs X y a t) (hb : PDSs X y b u) : PDS X y (.If c a b pos) (rIfS tc t u) := PDS.of (ps_if hc ha hb) fun D σ H h => by
  obtain ⟨ρ, S, E, sr, so, h, eo⟩ := h
  refine ⟨ρ, S, _, sr, so, h, fun b S' H' g q => ?_⟩
  exact ite_of_IFB q (fun z => ⟨ρ, S', E, sr.go g, so.go g, z, eo.go g⟩) fun z => ⟨ρ, S', E, sr.go g, so.go g, z, eo.go g⟩

/-! ### targets -/
abbrev RG := D → Ro → Sto → (Ro → Sto → Prop) → Prop
abbrev RGs := List D → Ro → Sto → (Ro → Sto → Prop) → Prop
def lG (K : PySem.W.Frag) (y : DXw) (t : RG) : TG := fun v σ H Q => ∃ d ρ S R, DV K H d v ∧ SRv K σ H ρ ∧ SX K y H S ∧ t d ρ S R ∧ ∀ ρ' S' σ' H', Go K H S H' S' → SRv K σ' H' ρ' → R ρ' S' → Q σ' H'
def lGs (K : PySem.W.Frag) (y : DXw) (t : RGs) : TGs := fun vs σ H Q => ∃ ds ρ S R, DVs K H ds vs ∧ SRv K σ H ρ ∧ SX K y H S ∧ t ds ρ S R ∧ ∀ ρ' S' σ' H', Go K H S H' S' → SRv K σ' H' ρ' → R ρ' S' → Q σ' H'
def PDG (X : Cx) (y : DXw) (tg : Expr) (t : RG) : Prop := PG X tg (lG X.K y t)
def PDGs (X : Cx) (y : DXw) (ts : List Expr) (t : RGs) : Prop := PGs X ts (lGs X.K y t)
theorem PDG.of {tg : Expr} {t0 : TG} {t : RG} (h : PG X tg t0) (w : ∀ v σ H Q, lG X.K y t v σ H Q → t0 v σ H Q) : PDG X y tg t := ⟨fun pins s σ H v u Q I r q => h.run pins s σ H v u Q I r (w v σ H Q q)⟩
theorem PDGs.of {ts : List Expr} {t0 : TGs} {t : RGs} (h : PGs X ts t0) (w : ∀ v σ H Q, lGs X.K y t v σ H Q → t0 v σ H Q) : PDGs X y ts t := ⟨fun pins s σ H v u Q I r q => h.run pins s σ H v u Q I r (w v σ H Q q)⟩
def gN (i : Nat) : RG := fun d ρ S Q => Q (ρ.set i (some d)) S
theorem pdg_name (i : Nat) {x : Str} (hN : X.N.Nodup) (hi : X.N[i]? = some x := by rfl) (hx : Loc X.env.scope x := by first | exact Or.inl rfl | exact Or.inr rfl) (hf : X.fn x = true ∨ X.env.scope.names.lookup x = some .local := by first | exact .inl rfl | exact .inr rfl) : PDG X y (.Name x pos) (gN i) :=
  PDG.of (pg_name hN hi hx hf) fun v σ H Q h => by
    obtain ⟨d, ρ, S, R, dv, sr, so, h, k⟩ := h
    exact k _ S _ H (Go.refl so.so) (sr.set dv i) h
def gNl : RGs := fun ds ρ S Q => match ds with
  | [] => Q ρ S
  | _ => False
def gCs (t : RG) (u : RGs) : RGs := fun ds ρ S Q => match ds with
  | d :: r => t d ρ S fun ρ' S' => u r ρ' S' Q
  | [] => False
theorem pdgs_nil : PDGs X y [] gNl := PDGs.of pgs_nil fun vs σ H Q h => by
  obtain ⟨ds, ρ, S, R, dv, sr, so, h, k⟩ := h
  cases ds with
  | nil => exact ⟨dv, k ρ S σ H (Go.refl so.so) sr h⟩
  | cons d r => exact h.elim
theorem pdgs_cons {es : List Expr} {t : RG} {u : RGs} (h1 : PDG X y e t) (h2 : PDGs X y es u) (hs : (assignEach (e :: es) X.env).map (·.2) = assign e X.env :: (assignEach es X.env).map (·.2) := by rfl) : PDGs X y (e :: es) (gCs t u) := PDGs.of (pgs_cons h1 h2 hs) fun vs σ H Q h => by
  obtain ⟨ds, ρ, S, R, dv, sr, so, h, k⟩ := h
  cases ds with
  | nil => exact h.elim
  | cons d r =>
    obtain ⟨v, ws, rfl, dv1, dv2⟩ := dv
    exact ⟨v, ws, rfl, d, ρ, S, _, dv1, sr, so, h, fun ρ1 S1 σ1 H1 g1 sr1 h1 => ⟨r, ρ1, S1, R, DVs.go g1 _ _ dv2, sr1, so.go g1, h1, fun ρ2 S2 σ2 H2 g2 sr2 h2 => k ρ2 S2 σ2 H2 (g1.trans g2) sr2 h2⟩⟩
def gTp (n : Nat) (t : RGs) : RG := fun d ρ S Q => match d with
  | .tup xs => xs.length = n ∧ t xs ρ S Q
  | _ => False
theorem pdg_tup {es : List Expr} {k : Nat} {t : RGs} {n : Nat} (hc : X.calm = true) (h : PDGs X y es t) (hn : (assignEach es X.env).length = n := by rfl) (hst : (assignEach es X.env).findIdx? (·.1) = none := by rfl) : PDG X y (.Tuple es k pos) (gTp n t) :=
  PDG.of (pg_tup hc h hn hst) fun v σ H Q h => by
    obtain ⟨d, ρ, S, R, dv, sr, so, h, k⟩ := h
    cases d with
    | tup xs =>
      obtain ⟨a, vs, rfl, q, r⟩ := dv
      exact ⟨a, vs, rfl, q.sq, r.length.symm.trans h.1, xs, ρ, S, R, r, sr, so, h.2, k⟩
    | _ => exact False.elim h
/-- o[i] = d, by values -/
abbrev RSet := D → D → D → Sto → (Sto → Prop) → Prop
def lset (K : PySem.W.Frag) (p : RSet) : TSet := fun o i v H Q => ∃ x k d S R, DV K H x o ∧ DV K H k i ∧ DV K H d v ∧ SOk K H S ∧ p x k d S R ∧ ∀ S' H', Go K H S H' S' → R S' → Q H'
def gSb (to ti : RE) (p : RSet) : RG := fun d ρ S Q => to ρ S fun o S1 => ti ρ S1 fun i S2 => p o i d S2 fun S3 => Q ρ S3
theorem pdg_sub {o i : Expr} {to ti : RE} {p : RSet} (hs : PSet X (lset X.K p)) (ho : PD X y o to) (hi : PD X y i ti)
    (ha : ∀ v, assign (.Subscript o i pos) X.env v = (do
      let ov ← holding [v] (eval o X.env)
      let iv ← holding [v, ov] (eval i X.env)
      standAt pos
      holding [v, ov, iv] (setItem ov iv v)
      release [v, ov, iv] []) := by intro _; rfl) : PDG X y (.Subscript o i pos) (gSb to ti p) := PDG.of (pg_sub ho hi hs ha) fun v σ H Q h => by
  obtain ⟨d, ρ, S, R, dv, sr, so, h, k⟩ := h
  refine ⟨ρ, S, _, sr, so, h, fun x S1 v1 H1 g1 dv1 h1 => ⟨ρ, S1, _, sr.go g1, so.go g1, h1, fun i S2 v2 H2 g2 dv2 h2 => ?_⟩⟩
  exact ⟨x, i, d, S2, _, DV.go g2 _ _ dv1, dv2, DV.go (g1.trans g2) _ _ dv, g2.ok, h2, fun S3 H3 g3 h3 => k ρ S3 σ H3 (g1.trans (g2.trans g3)) (sr.go (g1.trans (g2.trans g3))) h3⟩
def rAsg (te : RE) (g : RG) : RS := fun E ρ S => te ρ S fun d S1 => g d ρ S1 E.nx
theorem asg_of {te : RE} {g : RG} {D : Ends} {σ : L2.St} {H : Hp} (h : lS X.K y (rAsg te g) D σ H) : tAsg (lE X.K y te) (lG X.K y g) D σ H := by
  obtain ⟨ρ, S, E, sr, so, h, eo⟩ := h
  exact ⟨ρ, S, _, sr, so, h, fun d S1 v H1 g1 dv h1 => ⟨d, ρ, S1, _, dv, sr.go g1, so.go g1, h1, fun ρ2 S2 σ2 H2 g2 sr2 h2 => eo.nx ρ2 S2 σ2 H2 (g1.trans g2) sr2 h2⟩⟩
theorem pd_asg {tg : Expr} {g : RG} (he : PD X y e te) (hg : PDG X y tg g) (hs : swapsWithSole [tg] e pos.line X.env = pure false := by rfl) (hw : swappedStores [tg] e X.env = pure none := by rfl)
    (h1 : (assignEach [tg] X.env).map (·.2) = [assign tg X.env] := by rfl) : PDS X y (.Assign [tg] e pos) (rAsg te g) := PDS.of (ps_asg he hg hs hw h1) fun D σ H h => asg_of h
theorem pd_set (i : Nat) {x : Str} {pos' : Pos} (hN : X.N.Nodup) (he : PD X y e te) (hi : X.N[i]? = some x := by rfl) (hx : Loc X.env.scope x := by first | exact Or.inl rfl | exact Or.inr rfl) (hs : swapsWith e (some (.Name x pos')) pos.line X.env = pure false := by rfl) (hf : X.fn x = true ∨ X.env.scope.names.lookup x = some .local := by first | exact .inl rfl | exact .inr rfl) :
    PDS X y (.Assign [.Name x pos'] e pos) (rAsg te (gN i)) := PDS.of (ps_set hN hi hx he hs hf) fun D σ H h => by
  obtain ⟨ρ, S, E, sr, so, h, eo⟩ := h
  exact ⟨ρ, S, _, sr, so, h, fun d S1 v H1 g1 dv h1 => eo.nx _ S1 _ H1 g1 ((sr.go g1).set dv i) h1⟩
/-- a, b = x, y with plain local names -/
def rPar (i j : Nat) (ta : RA) : RS := fun E ρ S => ta ρ S fun ds S1 => match ds with
  | [d, e] => E.nx ((ρ.set i (some d)).set j (some e)) S1
  | _ => False
theorem pd_par (i j : Nat) {x z : Str} {a b : Expr} {ta : RA} {px py pt : Pos} {kt k2 pt2} (hc : X.calm = true) (hN : X.N.Nodup) (ha : PDA X y [a, b] ta)
    (hw : swappedStores [.Tuple [.Name x px, .Name z py] kt pt] (.Tuple [a, b] k2 pt2) X.env = pure (some [x, z]))
    (hi : X.N[i]? = some x := by rfl) (hj : X.N[j]? = some z := by rfl) (hij : i ≠ j := by decide)
    (hx : X.env.scope.names.lookup x = some .local := by rfl) (hy : X.env.scope.names.lookup z = some .local := by rfl)
    (hs : swapsWithSole [.Tuple [.Name x px, .Name z py] kt pt] (.Tuple [a, b] k2 pt2) pos.line X.env = pure false := by rfl) :
    PDS X y (.Assign [.Tuple [.Name x px, .Name z py] kt pt] (.Tuple [a, b] k2 pt2) pos) (rPar i j ta) := PDS.of (ps_par hc hN hi hj hij hx hy ha hw hs) fun D σ H h => by
  obtain ⟨ρ, S, E, sr, so, h, eo⟩ := h
  refine ⟨ρ, S, _, sr, so, h, fun ds S1 vs H1 g1 dvs hn h1 => ?_⟩
  match ds, dvs, h1 with
  | [d, e], dvs, h1 =>
    obtain ⟨v, ws, rfl, dv1, v2, ws2, rfl, dv2, q⟩ := dvs
    cases (show ws2 = [] from q)
    exact ⟨v, v2, rfl, eo.nx _ S1 _ H1 g1 (((sr.go g1).set dv1 i).set dv2 j) h1⟩
  | [], _, h1 => exact h1.elim
  | [_], _, h1 => exact h1.elim
  | _ :: _ :: _ :: _, _, h1 => exact h1.elim

/-! ### while, for -/
def rWhile (c : RT) (tb : RS) : RS := fun E ρ S => ∃ W : Nat → Ro → Sto → Prop, (∃ m, W m ρ S) ∧ ∀ m ρ S, W m ρ S →
  c ρ S fun b S1 => IFB b (tb { E with nx := fun ρ' S' => ∃ m', m' < m ∧ W m' ρ' S', ct := fun ρ' S' => ∃ m', m' < m ∧ W m' ρ' S', bk := E.nx } ρ S1) (E.nx ρ S1)
theorem pd_while {c : Expr} {body : List Stmt} {tc : RT} {tb : RS} (hp : PassesOwn (model X.prog X.w) X.A X.env X.xe) (hc : PDT X y c tc) (hb : PDSs X y body tb) : PDS X y (.While c body [] pos) (rWhile tc tb) := PDS.of (ps_while hp hc hb) fun D σ H h => by
  obtain ⟨ρ, S, E, sr, so, ⟨W, ⟨m, hW⟩, hs⟩, eo⟩ := h
  refine ⟨fun m σ1 H1 => ∃ ρ1 S1, Go X.K H S H1 S1 ∧ SRv X.K σ1 H1 ρ1 ∧ W m ρ1 S1, ⟨m, ρ, S, Go.refl so.so, sr, hW⟩, ?_⟩
  rintro m σ1 H1 ⟨ρ1, S1, g1, sr1, w1⟩
  refine ⟨ρ1, S1, _, sr1, so.go g1, hs m ρ1 S1 w1, fun b S2 H2 g2 q => ?_⟩
  refine ite_of_IFB q (fun z => ⟨fun σ3 H3 => ∃ m', m' < m ∧ ∃ ρ3 S3, Go X.K H S H3 S3 ∧ SRv X.K σ3 H3 ρ3 ∧ W m' ρ3 S3, fun σ3 H3 h => h, ρ1, S2, _, sr1.go g2, so.go (g1.trans g2), z, ?_⟩) fun z => eo.nx ρ1 S2 σ1 H2 (g1.trans g2) (sr1.go g2) z
  have eo2 := eo.go (g1.trans g2)
  refine ⟨fun ρ3 S3 σ3 H3 g3 sr3 ⟨m', hm, w⟩ => ⟨m', hm, ρ3, S3, (g1.trans g2).trans g3, sr3, w⟩, eo2.rt, eo2.nx, fun ρ3 S3 σ3 H3 g3 sr3 ⟨m', hm, w⟩ => ⟨m', hm, ρ3, S3, (g1.trans g2).trans g3, sr3, w⟩⟩
/-- what is walked: its items; while src stands it goes on so -/
abbrev RI := Ro → Sto → (List D → (Sto → Prop) → Sto → Prop) → Prop
def JOk (K : PySem.W.Frag) (H1 : Hp) (S1 : Sto) (J : It) (xs : List D) (src : Sto → Prop) : Prop :=
  ∀ i H S, Go K H1 S1 H S → src S → (∀ x, xs[i]? = some x → J.go i H ∧ ∀ v H', J.yld i H v H' → Go K H S H' S ∧ DV K H' x v) ∧ (xs[i]? = none → J.stop i H)
def lI (K : PySem.W.Frag) (y : DXw) (wi : RI) : TI := fun σ H R => ∃ ρ S Rd, SRv K σ H ρ ∧ SX K y H S ∧ wi ρ S Rd ∧ ∀ xs src S1 J H1, Go K H S H1 S1 → JOk K H1 S1 J xs src → Rd xs src S1 → R J H1
def PDI (X : Cx) (y : DXw) (tg iter : Expr) (wi : RI) : Prop := PI X tg iter (lI X.K y wi)
theorem PDI.of {tg iter : Expr} {t0 : TI} {t : RI} (h : PI X tg iter t0) (w : ∀ σ H R, lI X.K y t σ H R → t0 σ H R) : PDI X y tg iter t := ⟨fun pins s σ H R I q => h.run pins s σ H R I (w σ H R q)⟩
/-- the turns: W says what holds ahead of turn i -/
def rFor (wi : RI) (g : RG) (tb : RS) : RS := fun E ρ S => wi ρ S fun xs src S1 => ∃ W : Nat → Ro → Sto → Prop, W 0 ρ S1 ∧ ∀ i ρ' S', W i ρ' S' → src S' ∧
  (∀ x, xs[i]? = some x → g x ρ' S' fun ρ2 S2 => tb { E with nx := W (i + 1), ct := W (i + 1), bk := E.nx } ρ2 S2) ∧ (i = xs.length → E.nx ρ' S')
theorem pd_for {tg iter : Expr} {body : List Stmt} {wi : RI} {g : RG} {tb : RS} (hp : PassesOwn (model X.prog X.w) X.A X.env X.xe) (hc : X.calm = true) (hi : PDI X y tg iter wi) (hg : PDG X y tg g) (hb : PDSs X y body tb) (hs : ∀ x, foldedSetIterable iter X.env x = pure x := by intro _; rfl) : PDS X y (.For tg iter body [] pos) (rFor wi g tb) :=
  PDS.of (ps_for hp hc hi hg hb hs) fun D σ H h => by
  obtain ⟨ρ, S, E, sr, so, h, eo⟩ := h
  refine ⟨ρ, S, _, sr, so, h, fun xs src S1 J H1 g1 jo ⟨W, w0, hs⟩ => ?_⟩
  refine ⟨fun i m σ2 H2 => ∃ ρ2 S2, m = xs.length - i ∧ i ≤ xs.length ∧ Go X.K H1 S1 H2 S2 ∧ SRv X.K σ2 H2 ρ2 ∧ W i ρ2 S2, ⟨_, ρ, S1, rfl, Nat.zero_le _, Go.refl g1.ok, sr.go g1, w0⟩, ?_⟩
  rintro i m σ2 H2 ⟨ρ2, S2, rfl, hi, g2, sr2, w2⟩
  obtain ⟨hsrc, hturn, hend⟩ := hs i ρ2 S2 w2
  obtain ⟨j1, j2⟩ := jo i H2 S2 g2 hsrc
  by_cases hlt : i < xs.length
  · have hx : xs[i]? = some xs[i] := List.getElem?_eq_getElem hlt
    obtain ⟨jg, jy⟩ := j1 _ hx
    refine .inr ⟨jg, fun σ3 H3 => ∃ ρ3 S3, Go X.K H1 S1 H3 S3 ∧ SRv X.K σ3 H3 ρ3 ∧ W (i + 1) ρ3 S3, fun σ3 H3 ⟨ρ3, S3, g3, sr3, w3⟩ => ⟨xs.length - (i + 1), by omega, ρ3, S3, rfl, hlt, g3, sr3, w3⟩, fun v H3 hy => ?_⟩
    obtain ⟨g3, dv⟩ := jy v H3 hy
    have gA := g1.trans (g2.trans g3)
    refine ⟨xs[i], ρ2, S2, _, dv, sr2.go g3, so.go gA, hturn _ hx, fun ρ4 S4 σ4 H4 g4 sr4 h4 => ?_⟩
    refine ⟨ρ4, S4, _, sr4, so.go (gA.trans g4), h4, ?_⟩
    have eo2 := eo.go (gA.trans g4)
    have gB := (g2.trans g3).trans g4
    exact ⟨fun ρ5 S5 σ5 H5 g5 sr5 h5 => ⟨ρ5, S5, gB.trans g5, sr5, h5⟩, eo2.rt, eo2.nx, fun ρ5 S5 σ5 H5 g5 sr5 h5 => ⟨ρ5, S5, gB.trans g5, sr5, h5⟩⟩
  · have e : i = xs.length := by omega
    subst e
    exact .inl ⟨j2 (by simp), eo.nx ρ2 S2 σ2 H2 (g1.trans g2) sr2 (hend rfl)⟩

/-! ### what a for or a comprehension walks -/
/-- a list in the store, a list that never changes, a tuple -/
def rIt (t : RE) : RI := fun ρ S R => t ρ S fun d S1 => match d with
  | .tup xs => R xs (fun _ => True) S1
  | _ => ∃ xs, RdL S1 d xs ∧ R xs (fun S' => RdL S' d xs) S1
theorem jok_list {K : PySem.W.Frag} {H1 : Hp} {S1 : Sto} {d : D} {v : V} {a : Addr} {xs : List D} (dv : DV K H1 d v) (e : v = .ref a) : JOk K H1 S1 (Itl K a) xs (fun S' => RdL S' d xs) := by
  intro i H S g hr
  obtain ⟨a', vs, e1, q, r⟩ := RdL.sq g.ok hr (DV.go g _ _ dv)
  rw [e] at e1
  cases e1
  refine ⟨fun x hx => ?_, fun hn => ⟨vs, q, ?_⟩⟩
  · obtain ⟨w, hw, rw'⟩ := r.get hx
    exact ⟨⟨vs, w, q, hw⟩, fun v' H' hy => by
      obtain ⟨rfl, hy⟩ := hy
      have := hy vs q
      rw [hw] at this
      cases this
      exact ⟨Go.refl g.ok, rw'⟩⟩
  · rw [← r.length]
    exact List.getElem?_eq_none_iff.mp hn
theorem jok_tup {K : PySem.W.Frag} {H1 : Hp} {S1 : Sto} {a : Addr} {xs : List D} {vs : List V} (q : StT K H1 a vs) (r : DVs K H1 xs vs) : JOk K H1 S1 (Itt K a) xs (fun _ => True) := by
  intro i H S g _
  have q := g.tup q
  have r := DVs.go g _ _ r
  refine ⟨fun x hx => ?_, fun hn => ⟨vs, q.sq, ?_⟩⟩
  · obtain ⟨w, hw, rw'⟩ := r.get hx
    exact ⟨⟨vs, w, q.sq, hw⟩, fun v' H' hy => by
      obtain ⟨rfl, hy⟩ := hy
      have := hy vs q.sq
      rw [hw] at this
      cases this
      exact ⟨Go.refl g.ok, rw'⟩⟩
  · rw [← r.length]
    exact List.getElem?_eq_none_iff.mp hn
end
end DL
set_option Elab.async false
set_option linter.all false
set_option maxRecDepth 100000
set_option maxHeartbeats 4000000
namespace DL
open PySem PySem.Spec PyProof.Rows L2
section
variable {X : Cx} {y : DXw} {pos : Pos} {e : Expr} {es : List Expr}

/-! ### walks -/
theorem it_list {pins : List (Addr × Obj)} {σ : L2.St} {H : Hp} {s : Shared} {tg : Expr} {R : It → Hp → Prop} {E : Value → Shared → Prop} {a : Addr} {vs : List V} (I : Inv X pins σ H s) (hq : SqL X.K H a vs) (q : R (Itl X.K a) H) :
    wpAny (model X.prog X.w) X.A (pyIter (.ref a)) (PIE X pins σ tg R) E s := by
  obtain ⟨its, rv, p, hz⟩ := I.list hq
  refine wpAny_pyIter_list p.isList ?_
  refine ⟨s.heap.objs.size, [s.heap.objs.size], _, _, H, rfl, I.kept (t' := s.toks) fun b o e => Heap.get?_push_of_some _ e, turn_list a _, ⟨_, Heap.get?_push_size _ rfl, rfl, rfl⟩, fun b hb => ?_, q⟩
  have e : b = s.heap.objs.size := by simpa using hb
  subst e
  exact I.fpOk (Nat.le_refl _) (I.hok.fresh (Nat.le_refl _))
theorem it_tup {pins : List (Addr × Obj)} {σ : L2.St} {H : Hp} {s : Shared} {tg : Expr} {R : It → Hp → Prop} {E : Value → Shared → Prop} {a : Addr} {vs : List V} (I : Inv X pins σ H s) (hq : SqT X.K H a vs) (q : R (Itt X.K a) H) :
    wpAny (model X.prog X.w) X.A (pyIter (.ref a)) (PIE X pins σ tg R) E s := by
  obtain ⟨its, rv, p, hz⟩ := I.tuple hq
  refine wpAny_pyIter_tuple (show s.heap.IsTuple a its.toArray from p) ?_
  refine ⟨s.heap.objs.size, [s.heap.objs.size], _, _, H, rfl, I.kept (t' := s.toks) fun b o e => Heap.get?_push_of_some _ e, turn_tuple a _, ⟨_, Heap.get?_push_size _ rfl, rfl, rfl⟩, fun b hb => ?_, q⟩
  have e : b = s.heap.objs.size := by simpa using hb
  subst e
  exact I.fpOk (Nat.le_refl _) (I.hok.fresh (Nat.le_refl _))
theorem pdi_it {tg l : Expr} {t : RE} (hl : PD X y l t) : PDI X y tg l (rIt t) := by
  refine ⟨fun pins s σ H R I h => ?_⟩
  obtain ⟨ρ, S, Rd, sr, so, h, k⟩ := h
  refine thn (hl.run pins s σ H (fun v H1 => ∃ d S1, Go X.K H S H1 S1 ∧ DV X.K H1 d v ∧ (match d with
    | .tup xs => Rd xs (fun _ => True) S1
    | _ => ∃ xs, RdL S1 d xs ∧ Rd xs (fun S' => RdL S' d xs) S1)) I ⟨ρ, S, _, sr, so, h, fun d S1 v H1 g dv q => ⟨d, S1, g, dv, q⟩⟩) fun u s1 ⟨v, H1, I1, r1, d, S1, g, dv, q⟩ => ?_
  have lst : ∀ xs, RdL S1 d xs → Rd xs (fun S' => RdL S' d xs) S1 → wpAny (model X.prog X.w) X.A (pyIter u) (PIE X pins σ tg R) X.xe s1 := fun xs hx q => by
    obtain ⟨a, vs, rfl, hq, r⟩ := RdL.sq g.ok hx dv
    cases (show u = Value.ref a from r1)
    exact it_list I1 hq (k _ _ _ _ _ g (jok_list dv rfl) q)
  cases d with
  | tup xs =>
    obtain ⟨a, vs, rfl, hq, r⟩ := dv
    cases (show u = Value.ref a from r1)
    exact it_tup I1 hq.sq (k _ _ _ _ _ g (jok_tup hq r) q)
  | _ => obtain ⟨xs, h1, h2⟩ := q; exact lst xs h1 h2
/-- range -/
def rgI (lo : Int) (n : Nat) : List D := (List.range n).map fun (i : Nat) => D.int (lo + (i : Int))
theorem rgI_len {lo : Int} {n : Nat} : (rgI lo n).length = n := by unfold rgI; simp
theorem rgI_get {lo : Int} {n i : Nat} (h : i < n) : (rgI lo n)[i]? = some (D.int (lo + (i : Int))) := by unfold rgI; simp [h]
theorem rgI_inv {lo : Int} {n i : Nat} {x : D} (h : (rgI lo n)[i]? = some x) : i < n ∧ x = D.int (lo + (i : Int)) := by
  have hl := (List.getElem?_eq_some_iff.mp h).1
  rw [rgI_len] at hl
  rw [rgI_get hl] at h
  exact ⟨hl, (Option.some.inj h).symm⟩
theorem jok_range {K : PySem.W.Frag} {H1 : Hp} {S1 : Sto} {lo : Int} {n : Nat} : JOk K H1 S1 (Itr lo n) (rgI lo n) (fun _ => True) := by
  intro i H S g _
  refine ⟨fun x hx => ?_, fun hn => ?_⟩
  · obtain ⟨hl, rfl⟩ := rgI_inv hx
    exact ⟨hl, fun v H' ⟨e1, e2⟩ => by subst e1 e2; exact ⟨Go.refl g.ok, rfl⟩⟩
  · have := List.getElem?_eq_none_iff.mp hn
    rw [rgI_len] at this
    exact this
def rRng1 (ta : RA) : RI := fun ρ S R => ta ρ S fun ds S1 => match ds with
  | [.int j] => (j < 2 ^ 62 ∧ -(2 ^ 62) ≤ j) ∧ R (rgI 0 j.toNat) (fun _ => True) S1
  | _ => False
def rRng2 (ta : RA) : RI := fun ρ S R => ta ρ S fun ds S1 => match ds with
  | [.int i, .int j] => (-(2 ^ 62) ≤ i ∧ i < 2 ^ 62 ∧ -(2 ^ 62) ≤ j ∧ j < 2 ^ 62) ∧ R (rgI i (j - i).toNat) (fun _ => True) S1
  | _ => False
theorem pdi_range1 {tg a : Expr} {ta : RA} {p : Pos} (hm : X.mg "range" = none) (ha : PDA X y [a] ta) (hg : Gl X "range" := by rfl) (hs : starEach [a] X.env = [(false, eval a X.env)] := by rfl) : PDI X y tg (.Call (.Name "range" p) [a] [] pos) (rRng1 ta) := by
  refine PDI.of (pi_range1 hg hm ha hs) fun σ H R h => ?_
  obtain ⟨ρ, S, Rd, sr, so, h, k⟩ := h
  refine ⟨ρ, S, _, sr, so, h, fun ds S1 vs H1 g dvs hn h1 => ?_⟩
  split at h1
  · rename_i j
    obtain ⟨v, ws, rfl, dv, q⟩ := dvs
    cases (show ws = [] from q)
    cases (show v = V.int j from dv)
    exact ⟨j, rfl, h1.1.2, h1.1.1, k _ _ _ _ _ g jok_range h1.2⟩
  · exact h1.elim
theorem pdi_range2 {tg a b : Expr} {ta : RA} {p : Pos} (hm : X.mg "range" = none) (ha : PDA X y [a, b] ta) (hg : Gl X "range" := by rfl) (hs : starEach [a, b] X.env = [(false, eval a X.env), (false, eval b X.env)] := by rfl) (hs2 : starEach [b] X.env = [(false, eval b X.env)] := by rfl) : PDI X y tg (.Call (.Name "range" p) [a, b] [] pos) (rRng2 ta) := by
  refine PDI.of (pi_range2 hg hm ha hs hs2) fun σ H R h => ?_
  obtain ⟨ρ, S, Rd, sr, so, h, k⟩ := h
  refine ⟨ρ, S, _, sr, so, h, fun ds S1 vs H1 g dvs hn h1 => ?_⟩
  split at h1
  · rename_i i j
    obtain ⟨v, ws, rfl, dv, v2, ws2, rfl, dv2, q⟩ := dvs
    cases (show ws2 = [] from q)
    cases (show v = V.int i from dv)
    cases (show v2 = V.int j from dv2)
    exact ⟨i, j, rfl, h1.1, k _ _ _ _ _ g jok_range h1.2⟩
  · exact h1.elim

/-! ### comprehensions -/
def dwipe (ρ : Ro) : List Nat → Ro
  | [] => ρ
  | v :: vs => (dwipe ρ vs).set v none
theorem dwipe_length (ρ : Ro) : ∀ vs : List Nat, (dwipe ρ vs).length = ρ.length
  | [] => rfl
  | v :: vs => by unfold dwipe; rw [List.length_set, dwipe_length ρ vs]
theorem dwipe_some {ρ : Ro} {i : Nat} {x : D} : ∀ {vs : List Nat}, (dwipe ρ vs)[i]? = some (some x) → ρ[i]? = some (some x) ∧ i ∉ vs
  | [], h => ⟨h, by simp⟩
  | v :: vs, h => by
    unfold dwipe at h
    by_cases hi : v = i
    · subst hi
      by_cases hv : v < (dwipe ρ vs).length
      · rw [List.getElem?_set_self hv] at h; cases h
      · rw [List.getElem?_eq_none (by simpa using hv)] at h; cases h
    · rw [List.getElem?_set_ne hi] at h
      obtain ⟨h1, h2⟩ := dwipe_some h
      exact ⟨h1, by simp only [List.mem_cons, not_or]; exact ⟨fun e => hi e.symm, h2⟩⟩
theorem wipe_out' {σ : L2.St} {i : Nat} : ∀ {vs : List Nat}, i ∉ vs → (wipe σ vs)[i]? = σ[i]?
  | [], _ => rfl
  | v :: vs, h => by
    simp only [List.mem_cons, not_or] at h
    unfold wipe
    rw [List.getElem?_set_ne (Ne.symm h.1)]
    exact wipe_out' h.2
theorem SRv.wipe {K : PySem.W.Frag} {σ : L2.St} {H : Hp} {ρ : Ro} (r : SRv K σ H ρ) (vs : List Nat) : SRv K (L2.wipe σ vs) H (dwipe ρ vs) :=
  ⟨by rw [dwipe_length, wipe_length]; exact r.1, fun i d e => by
    obtain ⟨e1, hn⟩ := dwipe_some e
    obtain ⟨v, e2, q⟩ := r.2 i d e1
    exact ⟨v, by rw [wipe_out' hn]; exact e2, q⟩⟩
theorem wipe_set {σ : L2.St} {i : Nat} {o : Option V} : ∀ {vs : List Nat}, i ∈ vs → L2.wipe (σ.set i o) vs = L2.wipe σ vs
  | v :: vs, h => by
    have gen : ∀ (vs : List Nat), L2.wipe (σ.set i o) vs = (if i ∈ vs then L2.wipe σ vs else (L2.wipe σ vs).set i o) := by
      intro vs
      induction vs with
      | nil => simp [L2.wipe]
      | cons w ws ih =>
        unfold L2.wipe
        rw [ih]
        by_cases hw : i ∈ ws
        · rw [if_pos hw, if_pos (List.mem_cons_of_mem _ hw)]
        · rw [if_neg hw]
          by_cases hi : i = w
          · subst hi
            rw [if_pos (by simp), List.set_set]
          · rw [if_neg (by simp [hi, hw]), List.set_comm _ _ hi]
    rw [gen, if_pos h]
/-- a comprehension's targets: names, tuples of names -/
inductive Pat where
  | n (i : Nat)
  | t (ps : List Pat)
mutual
def Pat.g (K : PySem.W.Frag) : Pat → TG
  | .n i => gName i
  | .t ps => gTup K ps.length (Pat.gs K ps)
def Pat.gs (K : PySem.W.Frag) : List Pat → TGs
  | [] => gNil
  | p :: ps => gCons (Pat.g K p) (Pat.gs K ps)
end
mutual
def Pat.put : Pat → D → Ro → (Ro → Prop) → Prop
  | .n i, d, ρ, k => k (ρ.set i (some d))
  | .t ps, d, ρ, k => match d with
    | .tup xs => Pat.puts ps xs ρ k
    | _ => False
def Pat.puts : List Pat → List D → Ro → (Ro → Prop) → Prop
  | [], ds, ρ, k => match ds with
    | [] => k ρ
    | _ => False
  | p :: ps, ds, ρ, k => match ds with
    | d :: ds => Pat.put p d ρ fun ρ' => Pat.puts ps ds ρ' k
    | [] => False
end
mutual
def Pat.all (vs : List Nat) : Pat → Bool
  | .n i => vs.contains i
  | .t ps => Pat.alls vs ps
def Pat.alls (vs : List Nat) : List Pat → Bool
  | [] => true
  | p :: ps => Pat.all vs p && Pat.alls vs ps
end
theorem puts_len : ∀ {ps : List Pat} {ds : List D} {ρ : Ro} {k : Ro → Prop}, Pat.puts ps ds ρ k → ps.length = ds.length ∨ True := fun _ => .inr trivial
mutual
theorem Pat.ok {K : PySem.W.Frag} {vs : List Nat} {H : Hp} {Q : L2.St → Hp → Prop} : ∀ (p : Pat) (d : D) (v : V) (σ : L2.St) (ρ : Ro) (k : Ro → Prop), Pat.all vs p = true → DV K H d v → SRv K σ H ρ → Pat.put p d ρ k →
    (∀ ρ' σ', SRv K σ' H ρ' → L2.wipe σ' vs = L2.wipe σ vs → k ρ' → Q σ' H) → Pat.g K p v σ H Q
  | .n i, d, v, σ, ρ, k, ha, dv, sr, h, hk => by
    refine hk _ _ (sr.set dv i) (wipe_set (by simpa [Pat.all] using ha)) h
  | .t ps, d, v, σ, ρ, k, ha, dv, sr, h, hk => by
    cases d with
    | tup xs =>
      obtain ⟨a, ws, rfl, q, r⟩ := dv
      obtain ⟨hl, hh⟩ := Pat.oks ps xs ws σ ρ k (by simpa [Pat.all] using ha) r sr h hk
      exact ⟨a, ws, rfl, q.sq, hl.symm, hh⟩
    | _ => exact False.elim h
theorem Pat.oks {K : PySem.W.Frag} {vs : List Nat} {H : Hp} {Q : L2.St → Hp → Prop} : ∀ (ps : List Pat) (ds : List D) (us : List V) (σ : L2.St) (ρ : Ro) (k : Ro → Prop), Pat.alls vs ps = true → DVs K H ds us → SRv K σ H ρ → Pat.puts ps ds ρ k →
    (∀ ρ' σ', SRv K σ' H ρ' → L2.wipe σ' vs = L2.wipe σ vs → k ρ' → Q σ' H) → ps.length = us.length ∧ Pat.gs K ps us σ H Q
  | [], ds, us, σ, ρ, k, ha, dv, sr, h, hk => by
    cases ds with
    | nil =>
      cases (show us = [] from dv)
      exact ⟨rfl, rfl, hk ρ σ sr rfl h⟩
    | cons _ _ => exact False.elim h
  | p :: ps, ds, us, σ, ρ, k, ha, dv, sr, h, hk => by
    cases ds with
    | nil => exact False.elim h
    | cons d ds =>
      obtain ⟨v, ws, rfl, dv1, dv2⟩ := dv
      have ha2 : Pat.all vs p = true ∧ Pat.alls vs ps = true := by simpa [Pat.alls] using ha
      -- the length is told by any run of the rest
      have key := Pat.ok (K := K) (vs := vs) (H := H) (Q := fun σ' H' => H' = H ∧ ps.length = ws.length ∧ Pat.gs K ps ws σ' H Q) p d v σ ρ (fun ρ' => Pat.puts ps ds ρ' k) ha2.1 dv1 sr h (fun ρ' σ' sr' hw h' => by
        obtain ⟨hl, hg⟩ := Pat.oks ps ds ws σ' ρ' k ha2.2 dv2 sr' h' (fun ρ'' σ'' sr'' hw' h'' => hk ρ'' σ'' sr'' (hw'.trans hw) h'')
        exact ⟨rfl, hl, hg⟩)
      have len : ps.length = ws.length := by
        have dl := dv2.length
        rw [← dl]
        -- from the D-level readings
        exact Pat.lens ps ds p d ρ k h
      refine ⟨by simp [len], v, ws, rfl, ?_⟩
      exact Pat.mono p v σ H _ _ (fun σ' H' q => by obtain ⟨e, _, q⟩ := q; rw [e]; exact q) key
theorem Pat.lens : ∀ (ps : List Pat) (ds : List D) (p : Pat) (d : D) (ρ : Ro) (k : Ro → Prop), Pat.put p d ρ (fun ρ' => Pat.puts ps ds ρ' k) → ps.length = ds.length := by
  intro ps ds p d ρ k h
  have h2 : ∃ ρ', Pat.puts ps ds ρ' k := Pat.exi p d ρ _ h
  obtain ⟨ρ', h2⟩ := h2
  exact Pat.len2 ps ds ρ' k h2
theorem Pat.exi : ∀ (p : Pat) (d : D) (ρ : Ro) (k : Ro → Prop), Pat.put p d ρ k → ∃ ρ', k ρ'
  | .n i, d, ρ, k, h => ⟨_, h⟩
  | .t ps, d, ρ, k, h => by
    cases d with
    | tup xs => exact Pat.exis ps xs ρ k h
    | _ => exact False.elim h
theorem Pat.exis : ∀ (ps : List Pat) (ds : List D) (ρ : Ro) (k : Ro → Prop), Pat.puts ps ds ρ k → ∃ ρ', k ρ'
  | [], ds, ρ, k, h => by
    cases ds with
    | nil => exact ⟨_, h⟩
    | cons _ _ => exact False.elim h
  | p :: ps, ds, ρ, k, h => by
    cases ds with
    | nil => exact False.elim h
    | cons d ds =>
      obtain ⟨ρ', h'⟩ := Pat.exi p d ρ _ h
      exact Pat.exis ps ds ρ' k h'
theorem Pat.len2 : ∀ (ps : List Pat) (ds : List D) (ρ : Ro) (k : Ro → Prop), Pat.puts ps ds ρ k → ps.length = ds.length
  | [], ds, ρ, k, h => by
    cases ds with
    | nil => rfl
    | cons _ _ => exact False.elim h
  | p :: ps, ds, ρ, k, h => by
    cases ds with
    | nil => exact False.elim h
    | cons d ds =>
      obtain ⟨ρ', h'⟩ := Pat.exi p d ρ _ h
      simp [Pat.len2 ps ds ρ' k h']
theorem Pat.mono {K : PySem.W.Frag} : ∀ (p : Pat) (v : V) (σ : L2.St) (H : Hp) (Q Q' : L2.St → Hp → Prop), (∀ σ' H', Q σ' H' → Q' σ' H') → Pat.g K p v σ H Q → Pat.g K p v σ H Q'
  | .n i, v, σ, H, Q, Q', m, h => m _ _ h
  | .t ps, v, σ, H, Q, Q', m, h => by
    obtain ⟨a, xs, e, q, l, h⟩ := h
    exact ⟨a, xs, e, q, l, Pat.monos ps xs σ H Q Q' m h⟩
theorem Pat.monos {K : PySem.W.Frag} : ∀ (ps : List Pat) (vs : List V) (σ : L2.St) (H : Hp) (Q Q' : L2.St → Hp → Prop), (∀ σ' H', Q σ' H' → Q' σ' H') → Pat.gs K ps vs σ H Q → Pat.gs K ps vs σ H Q'
  | [], vs, σ, H, Q, Q', m, h => ⟨h.1, m _ _ h.2⟩
  | p :: ps, vs, σ, H, Q, Q', m, h => by
    obtain ⟨v, r, e, h⟩ := h
    exact ⟨v, r, e, Pat.mono p v σ H _ _ (fun σ' H' q => Pat.monos ps r σ' H' Q Q' m q) h⟩
end

def PDTs (X : Cx) (y : DXw) (ifs : List Expr) (t : RT) : Prop := PTs X ifs (lT X.K y t)
def rYes : RT := fun _ S Q => Q true S
theorem pdts_nil : PDTs X y [] rYes := ⟨fun pins s σ H Q I h => by
  obtain ⟨ρ, S, R, sr, so, h, k⟩ := h
  exact pts_nil.run pins s σ H Q I (k true S H (Go.refl so.so) h)⟩
theorem pdts_one {c : Expr} {t : RT} (h : PDT X y c t) : PDTs X y [c] t := pts_one h
/-- no exception is wanted -/
def y0 : DXw := ⟨fun _ _ _ _ => False, fun _ _ _ _ => False⟩
theorem sx0 {K : PySem.W.Frag} {H : Hp} {S : Sto} (h : SOk K H S) : SX K y0 H S := ⟨h, fun _ _ _ _ _ _ _ _ _ _ _ _ z => z⟩
def rLc (wi : RI) (p : Pat) (tt : RT) (te : RE) (vs : List Nat) : RE := fun ρ S Q => wi ρ S fun xs src S1 => ∃ W : Nat → List D → Sto → Prop, W 0 [] S1 ∧ ∀ i acc S', W i acc S' → src S' ∧
  (∀ x, xs[i]? = some x → Pat.put p x (dwipe ρ vs) fun ρ2 => tt ρ2 S' fun b S3 => IFB b (te ρ2 S3 fun d S4 => acc.length < sizeLine ∧ W (i + 1) (acc ++ [d]) S4) (W (i + 1) acc S3)) ∧
  (i = xs.length → ∀ p, S' p = none → Q (.ref p) (sup S' p (.lst acc)))
theorem lc_of {wi : RI} {p : Pat} {tt : RT} {te : RE} {vs : List Nat} {σ : L2.St} {H : Hp} {Q : VK} (ha : Pat.all vs p = true) (h : lE X.K y (rLc wi p tt te vs) σ H Q) : tLc (lI X.K y wi) (Pat.g X.K p) (lT X.K y0 tt) (lE X.K y0 te) vs σ H Q := by
  obtain ⟨ρ, S, R, sr, so, h, k⟩ := h
  refine ⟨ρ, S, _, sr, so, h, fun xs src S1 J H1 g1 jo ⟨W, w0, hs⟩ D hD => ?_⟩
  -- the new list lies beside the store
  have base : ∀ {H2 : Hp} {S2 : Sto} {ws : List V}, Go X.K H1 S1 H2 S2 → H2 D = some (.lst ws) → S2 D = none → True := fun _ _ _ => trivial
  have gD := Go.new (K := X.K) (o := .lst []) g1.ok hD
  have swap : ∀ {H2 : Hp} {S2 : Sto} {ws ws' : List V}, SOk X.K H2 S2 → S2 D = none → H2 D = some (.lst ws) → SOk X.K (upd H2 D (.lst ws')) S2 := fun {H2 S2 ws ws'} so2 e e2 a c q => by
    have ne : a ≠ D := fun z => by rw [z, e] at q; cases q
    have := so2 a c q
    cases c with
    | lst xs => obtain ⟨us, e1, r⟩ := this; exact ⟨us, by rw [upd_ne ne]; exact e1, DVs.wr e2 (.inl ⟨_, rfl⟩) _ _ r⟩
    | dK kvs => obtain ⟨us, e1, r⟩ := this; exact ⟨us, by rw [upd_ne ne]; exact e1, DKs.wr e2 (.inl ⟨_, rfl⟩) r⟩
    | dN kvs => obtain ⟨us, e1, n, r⟩ := this; exact ⟨us, by rw [upd_ne ne]; exact e1, n, DKN.wr e2 (.inl ⟨_, rfl⟩) r⟩
  -- what stands beside the store, but the new list, from H1 on
  refine ⟨fun i m H2 => ∃ S2 acc ws, m = xs.length - i ∧ i ≤ xs.length ∧ Go X.K H1 S1 H2 S2 ∧ H2 D = some (.lst ws) ∧ S2 D = none ∧ DVs X.K H2 acc ws ∧ W i acc S2, ⟨_, S1, [], [], rfl, Nat.zero_le _, gD, upd_same, g1.ok.free hD, DVs.nil, w0⟩, ?_⟩
  rintro i m H2 ⟨S2, acc, ws, rfl, hi, g2, hD2, sD2, r2, w2⟩
  obtain ⟨hsrc, hturn, hend⟩ := hs i acc S2 w2
  obtain ⟨j1, j2⟩ := jo i H2 S2 g2 hsrc
  by_cases hlt : i < xs.length
  · have hx : xs[i]? = some xs[i] := List.getElem?_eq_getElem hlt
    obtain ⟨jg, jy⟩ := j1 _ hx
    refine .inr ⟨jg, fun H3 => ∃ S3 acc3 ws3, Go X.K H1 S1 H3 S3 ∧ H3 D = some (.lst ws3) ∧ S3 D = none ∧ DVs X.K H3 acc3 ws3 ∧ W (i + 1) acc3 S3, fun H3 ⟨S3, acc3, ws3, g3, a1, a2, a3, a4⟩ => ⟨xs.length - (i + 1), by omega, S3, acc3, ws3, rfl, hlt, g3, a1, a2, a3, a4⟩, fun v H3 hy => ?_⟩
    obtain ⟨g3, dv⟩ := jy v H3 hy
    have gA := g2.trans g3
    have hD3 : H3 D = some (.lst ws) := g3.frame D _ sD2 hD2
    refine Pat.ok p _ v _ _ _ ha dv (((sr.go g1).go gA).wipe vs) (hturn _ hx) fun ρ3 σ3 sr3 hw h3 => ⟨by
      have e : ∀ (l : List Nat), L2.wipe (L2.wipe σ l) l = L2.wipe σ l := by
        intro l
        have gen : ∀ (l l' : List Nat), (∀ i ∈ l, i ∈ l') → L2.wipe (L2.wipe σ l') l = L2.wipe σ l' := by
          intro l
          induction l with
          | nil => intro l' _; rfl
          | cons a l ih =>
            intro l' hl
            show (L2.wipe (L2.wipe σ l') l).set a none = L2.wipe σ l'
            rw [ih l' fun i hi => hl i (List.mem_cons_of_mem _ hi)]
            have ha' := hl a List.mem_cons_self
            apply List.ext_getElem?
            intro j
            by_cases hj : a = j
            · subst hj
              by_cases hb : a < (L2.wipe σ l').length
              · rw [List.getElem?_set_self hb]
                cases q : (L2.wipe σ l')[a]? with
                | none => rw [List.getElem?_eq_none_iff] at q; omega
                | some o =>
                  cases o with
                  | none => rfl
                  | some x => exact absurd ha' (wipe_some q).2
              · rw [List.getElem?_eq_none (by simpa using hb), List.getElem?_eq_none (by simpa using hb)]
            · rw [List.getElem?_set_ne hj]
        exact gen l l fun _ h => h
      rw [hw, e], ?_⟩
    refine ⟨ρ3, S2, _, sr3, sx0 gA.ok, h3, fun b S4 H4 g4 h4 => ?_⟩
    have hD4 : H4 D = some (.lst ws) := g4.frame D _ sD2 hD3
    have sD4 : S4 D = none := g4.ex D _ sD2 hD3
    refine ite_of_IFB h4 (fun z => ⟨ρ3, S4, _, sr3.go g4, sx0 g4.ok, z, fun d S5 w H5 g5 dv5 h5 => ?_⟩) fun z => ?_
    · have hD5 : H5 D = some (.lst ws) := g5.frame D _ sD4 hD4
      have sD5 : S5 D = none := g5.ex D _ sD4 hD4
      have gB := (gA.trans g4).trans g5
      have r5 : DVs X.K H5 acc ws := DVs.go ((g3.trans g4).trans g5) _ _ r2
      refine ⟨ws, hD5, by rw [← r5.length]; exact h5.1, S5, acc ++ [d], ws ++ [w], ⟨g1.ok, swap gB.ok sD5 hD5, fun a o e q => ?_, gB.ex⟩, upd_same, sD5, DVs.wr hD5 (.inl ⟨_, rfl⟩) _ _ (r5.append (DVs.cons dv5 DVs.nil)), h5.2⟩
      rw [upd_ne (ne_of_none q hD)]
      exact gB.frame a o e q
    · exact ⟨S4, acc, ws, gA.trans g4, hD4, sD4, DVs.go (g3.trans g4) _ _ r2, z⟩
  · have e : i = xs.length := by omega
    subst e
    refine .inl ⟨j2 (by simp), ?_⟩
    have sok : SOk X.K H2 (sup S2 D (.lst acc)) := fun a c q => by
      by_cases ha : a = D
      · subst ha
        rw [sup_same] at q; cases q
        exact ⟨ws, hD2, r2⟩
      · rw [sup_ne ha] at q
        exact g2.ok a c q
    have gE : Go X.K H1 S1 H2 (sup S2 D (.lst acc)) := ⟨g1.ok, sok, g2.frame, fun a o e q => by rw [sup_ne (ne_of_none q hD)]; exact g2.ex a o e q⟩
    exact k (.ref D) _ _ _ (g1.trans gE) rfl (hend rfl D sD2)
theorem pd_lc {elt tg iter : Expr} {ifs : List Expr} {scope : Scope} {own : List (Str × Nat)} {wi : RI} {p : Pat} {tt : RT} {te : RE} (hc : X.calm = true) (hN : X.N.Nodup) (hi : PDI X y tg iter wi) (ok : BlkOk X.N X.env.scope scope own)
    (hg : ∀ (s : Shared) (H : Hp) (C : Addr) (cl : List (Str × Addr)) (fp : List Addr), PG (X.blk s H scope (compEnvC scope cl C X.env) fp) tg (Pat.g X.K p)) (ht : ∀ (s : Shared) (H : Hp) (C : Addr) (cl : List (Str × Addr)) (fp : List Addr), PDTs (X.blk s H scope (compEnvC scope cl C X.env) fp) y0 ifs tt)
    (he : ∀ (s : Shared) (H : Hp) (C : Addr) (cl : List (Str × Addr)) (fp : List Addr), PD (X.blk s H scope (compEnvC scope cl C X.env) fp) y0 elt te) (hv : Pat.all (own.map (·.2)) p = true := by rfl) (hs : ∀ x, foldedSetIterable iter X.env x = pure x := by intro _; rfl) :
    PD X y (.ListComp elt [⟨tg, iter, ifs, 0⟩] scope pos) (rLc wi p tt te (own.map (·.2))) :=
  PD.of (pe_lc (tt := lT X.K y0 tt) (te := lE X.K y0 te) hc hN hi ok hg ht he hs) fun σ H Q h => lc_of hv h
theorem pd_setLc (i : Nat) {yn : Str} {py : Pos} {elt tg iter : Expr} {ifs : List Expr} {scope : Scope} {own : List (Str × Nat)} {spos : Pos} {wi : RI} {p : Pat} {tt : RT} {te : RE} (hc : X.calm = true) (hN : X.N.Nodup) (hy : X.N[i]? = some yn) (hyl : X.env.scope.names.lookup yn = some .local)
    (hsw : swapsWith (.ListComp elt [⟨tg, iter, ifs, 0⟩] scope pos) (some (.Name yn py)) spos.line X.env = pure true) (hi : PDI X y tg iter wi) (ok : BlkOk X.N X.env.scope scope own)
    (hg : ∀ (s : Shared) (H : Hp) (C : Addr) (cl : List (Str × Addr)) (fp : List Addr), PG (X.blk s H scope (compEnvC scope cl C X.env) fp) tg (Pat.g X.K p)) (ht : ∀ (s : Shared) (H : Hp) (C : Addr) (cl : List (Str × Addr)) (fp : List Addr), PDTs (X.blk s H scope (compEnvC scope cl C X.env) fp) y0 ifs tt)
    (he : ∀ (s : Shared) (H : Hp) (C : Addr) (cl : List (Str × Addr)) (fp : List Addr), PD (X.blk s H scope (compEnvC scope cl C X.env) fp) y0 elt te) (hv : Pat.all (own.map (·.2)) p = true := by rfl) (hs : ∀ x, foldedSetIterable iter X.env x = pure x := by intro _; rfl) :
    PDS X y (.Assign [.Name yn py] (.ListComp elt [⟨tg, iter, ifs, 0⟩] scope pos) spos) (rAsg (rLc wi p tt te (own.map (·.2))) (gN i)) :=
  PDS.of (ps_setLc (tt := lT X.K y0 tt) (te := lE X.K y0 te) hc hN hy hyl hsw hi ok hg ht he hs) fun D σ H h => by
    obtain ⟨ρ, S, E, sr, so, h, eo⟩ := h
    exact lc_of hv ⟨ρ, S, _, sr, so, h, fun d S1 v H1 g1 dv h1 => eo.nx _ S1 _ H1 g1 ((sr.go g1).set dv i) h1⟩
end
end DL
set_option Elab.async false
set_option linter.all false
set_option maxRecDepth 100000
set_option maxHeartbeats 4000000
namespace DL
open PySem PySem.Spec PyProof.Rows L2

/-! ### defs -/
abbrev DSp := List D → Sto → (D → Sto → Prop) → (Addr → D → Sto → Prop) → Prop
def toSp (K : PySem.W.Frag) (f : DSp) : Sp := fun vs H Q E => ∃ ds S R RX, DVs K H ds vs ∧ SOk K H S ∧ f ds S R RX ∧ (∀ d S' v H', Go K H S H' S' → DV K H' d v → R d S' → Q v H') ∧
  (∀ C d S' dx w H', Go K H S H' S' → H' dx = some (.xd [(("value" : Str), w)]) → DV K H' d w → RX C d S' → E (.ref C) (some dx) H')
def startD (N : List Str) (ds : List D) : Ro := ds.map some ++ List.replicate (N.length - ds.length) none
theorem start_srv {K : PySem.W.Frag} {H : Hp} {N : List Str} {ds : List D} {vs : List V} (h : DVs K H ds vs) : SRv K (L2.start N vs) H (startD N ds) := by
  have hl := h.length
  refine ⟨by unfold L2.start startD; simp [hl], fun i d e => ?_⟩
  unfold startD at e
  by_cases hi : i < ds.length
  · rw [List.getElem?_append_left (by simpa using hi), List.getElem?_map] at e
    cases q : ds[i]? with
    | none => rw [q] at e; cases e
    | some d' =>
      rw [q] at e
      have e2 : d' = d := Option.some.inj (Option.some.inj e)
      subst e2
      obtain ⟨v, e1, r⟩ := h.get q
      refine ⟨v, ?_, r⟩
      unfold L2.start
      rw [List.getElem?_append_left (by simpa using (hl ▸ hi)), List.getElem?_map, e1]
      rfl
  · rw [List.getElem?_append_right (by simpa using hi), List.getElem?_replicate] at e
    split at e <;> cases e
abbrev yOf (E : XK) (RX : Addr → D → Sto → Prop) : DXw := ⟨fun cls d _ H => E cls d H, fun C d _ S => RX C d S⟩
theorem fnD {P : Program} {w : World} {K : PySem.W.Frag} {mg : Str → Option Value} {base : Heap} {x qual : Str} {st : Stmt} {f : Addr} {fd : FuncData} {N ps : List Str} {k : Nat} {sp : DSp} (F : Fun K x qual st f fd) (S : FnScope N ps (defScope st))
    (len : ∀ ds S Q E, sp ds S Q E → ds.length = ps.length)
    (hbody : ∀ (cdv : Value) (A : Around) (outer : List Env) (s : Shared) (H : Hp) (E : XK) (RX : Addr → D → Sto → Prop), Room k (A.deeper (envOfC qual (defScope st) s.heap.objs.size f cdv)) →
      ∃ t, PDSs (cxOf (L2.CX P w) P w K mg base N qual (defScope st) f cdv A outer s H E) (yOf E RX) (defBody st) t ∧ ∀ ds S Q, sp ds S Q RX → t { nx := fun _ S' => Q .non S', rt := Q } (startD N ds) S) :
    FnOk P w K mg base (L2.CX P w) (k + 1) f fd ps (toSp K sp) := by
  refine F.okX S (fun vs H Q E h => ?_) (fun cdv A outer s H vs Q E hr h => ?_)
  · obtain ⟨ds, S, R, RX, dvs, _, h, _⟩ := h
    rw [← dvs.length]
    exact len _ _ _ _ h
  · obtain ⟨ds, S, R, RX, dvs, so, h, k1, k2⟩ := h
    obtain ⟨t, ht, hq⟩ := hbody cdv A outer s H E RX hr
    refine ⟨_, ht, startD N ds, S, { nx := fun _ S' => R .non S', rt := R }, start_srv dvs, ⟨so, fun C d ρ S' dx w' σ H' g _ e dv q => k2 C d S' dx w' H' g e dv q⟩, hq ds S R h, ?_⟩
    exact ⟨fun ρ S' σ H' g _ q => k1 .non S' .non H' g rfl q, fun d S' v H' g dv q => k1 d S' v H' g dv q, fun _ _ _ _ _ _ z => z, fun _ _ _ _ _ _ z => z⟩
section
variable {X : Cx} {y : DXw} {pos p : Pos} {e : Expr} {es : List Expr} {x : Str} {k : Nat} {f : Addr} {fd : FuncData} {ps : List Str} {spec : DSp}
def rCall (y : DXw) (spec : DSp) (ta : RA) : RE := fun ρ S Q => ta ρ S fun ds S1 => spec ds S1 Q fun C d S' => y.d C d ρ S'
theorem pd_call {ta : RA} (tk : Takes X y.W) (G : FnOk X.prog X.w X.K X.mg X.base (L2.CX X.prog X.w) k f fd ps (toSp X.K spec)) (hr : Room k X.A) (hm : X.mg x = some (.ref f)) (hk : PySem.W.keepIn X.K (.ref f) = true) (hb : Binds X.K fd ps [])
    (ha : PDA X y (e :: es) ta) (hg : Gl X x := by rfl) (hdb : (x == ("__debug__" : Str)) = false := by decide) (he : starEach (e :: es) X.env = (false, eval e X.env) :: starEach es X.env := by rfl) (hpl : (backTo pos (starEach es X.env)).any (·.1) = false := by rfl) :
    PD X y (.Call (.Name x p) (e :: es) [] pos) (rCall y spec ta) :=
  PD.of (pe_callS G hr hg hm hk hb (fun σ => passAt tk σ) ha hdb he hpl) fun σ H Q h => by
    obtain ⟨ρ, S, R, sr, so, h, k⟩ := h
    exact ⟨ρ, S, _, sr, so, h, fun ds S1 vs H1 g1 dvs hn h1 => ⟨ds, S1, R, _, dvs, g1.ok, h1, fun d S2 v H2 g2 dv q => k d S2 v H2 (g1.trans g2) dv q, fun C d S2 dx w H2 g2 e dw q => (so.go g1).xo C d ρ S2 dx w σ H2 g2 (sr.go (g1.trans g2)) e dw q⟩⟩
/-- keywords -/
def RdK (X : Cx) (y : DXw) (kws : List Keyword) (n : Nat) (t : RA) : Prop := PK X kws (lA X.K y n t)
theorem pdk_nil : RdK X y [] 0 rNil := ⟨fun pins pos s σ H Q I h => by
  obtain ⟨ρ, S, R, sr, so, h, k⟩ := h
  exact pk_nil.run pins pos s σ H Q I (k [] S [] H (Go.refl so.so) DVs.nil rfl h)⟩
theorem pdk_cons {nm : Option Str} {kpos : Pos} {kws : List Keyword} {n : Nat} {t : RE} {u : RA} (he : PD X y e t) (hr : RdK X y kws n u) : RdK X y (⟨nm, e, kpos⟩ :: kws) (n + 1) (rCons t u) := ⟨fun pins pos s σ H Q I h => by
  obtain ⟨ρ, S, R, sr, so, h, k⟩ := h
  refine (pk_cons he hr).run pins pos s σ H Q I ⟨ρ, S, _, sr, so, h, fun d S1 v H1 g1 dv h1 => ⟨ρ, S1, _, sr.go g1, so.go g1, h1, fun ds S2 vs H2 g2 dvs hn h2 => ?_⟩⟩
  exact k _ S2 _ H2 (g1.trans g2) (DVs.cons (DV.go g2 _ _ dv) dvs) (by rw [List.length_cons, hn]) h2⟩
end
end DL
set_option Elab.async false
set_option linter.all false
set_option maxRecDepth 100000
set_option maxHeartbeats 4000000
namespace DL
open PySem PySem.Spec PyProof.Rows L2

/-! ### data as PyData -/
mutual
inductive PyR (S : Sto) : D → PyData → Prop
  | non : PyR S .non .none
  | bl (b : Bool) : PyR S (.bl b) (.bool b)
  | int (i : Int) : PyR S (.int i) (.int i)
  | str (x : Str) : PyR S (.str x) (.str x)
  | tup {xs : List D} {ps : List PyData} : PyRs S xs ps → PyR S (.tup xs) (.tuple ps)
  | fro {xs : List D} {ps : List PyData} : PyRs S xs ps → PyR S (.fro xs) (.list ps)
  | lst {a : Addr} {xs : List D} {ps : List PyData} : S a = some (.lst xs) → PyRs S xs ps → PyR S (.ref a) (.list ps)
inductive PyRs (S : Sto) : List D → List PyData → Prop
  | nil : PyRs S [] []
  | cons {x : D} {xs : List D} {p : PyData} {ps : List PyData} : PyR S x p → PyRs S xs ps → PyRs S (x :: xs) (p :: ps)
end
section
variable {K : PySem.W.Frag} {H : Hp} {S : Sto}
mutual
theorem PyR.dp (so : SOk K H S) : ∀ (p : PyData) (x : D) (v : V), PyR S x p → DV K H x v → Dp K H v p
  | .none, _, _, h, r => by cases h; cases (show _ = V.non from r); exact .non
  | .bool b, _, _, h, r => by cases h; cases (show _ = V.bl b from r); exact .bl b
  | .int i, _, _, h, r => by cases h; cases (show _ = V.int i from r); exact .int i
  | .str x, _, _, h, r => by cases h; cases (show _ = V.str x from r); exact .str x
  | .tuple ps, _, _, h, r => by
    cases h with
    | tup hs =>
      obtain ⟨a, vs, rfl, q, r⟩ := r
      exact .tup q.sq (PyR.dps so ps _ _ hs r)
  | .list ps, _, _, h, r => by
    cases h with
    | fro hs =>
      obtain ⟨a, vs, rfl, q, r⟩ := r
      exact .lst q.sq (PyR.dps so ps _ _ hs r)
    | lst e hs =>
      cases (show _ = V.ref _ from r)
      obtain ⟨vs, e1, r⟩ := so _ _ e
      exact .lst (SqL.of e1) (PyR.dps so ps _ _ hs r)
  | .dict _, _, _, h, _ => by cases h
theorem PyR.dps (so : SOk K H S) : ∀ (ps : List PyData) (xs : List D) (vs : List V), PyRs S xs ps → DVs K H xs vs → DpAll K H vs ps
  | [], _, _, h, r => by cases h; cases (show _ = [] from r); exact .nil
  | p :: ps, _, _, h, r => by
    cases h with
    | cons h1 h2 =>
      obtain ⟨v, ws, rfl, r1, r2⟩ := r
      exact .cons (PyR.dp so p _ _ h1 r1) (PyR.dps so ps _ _ h2 r2)
end
end

/-! ### operators -/
def dAdd : ROp
  | .int i, .int j, S, R => R (.int (i + j)) S
  | .str x, .str z, S, R => x.length + z.length ≤ sizeLine ∧ R (.str (x ++ z)) S
  | .tup xs, .tup ys, S, R => xs.length + ys.length ≤ sizeLine ∧ R (.tup (xs ++ ys)) S
  | .ref a, .ref b, S, R => ∃ xs ys, S a = some (.lst xs) ∧ S b = some (.lst ys) ∧ xs.length + ys.length ≤ sizeLine ∧ ∀ p, S p = none → R (.ref p) (sup S p (.lst (xs ++ ys)))
  | _, _, _, _ => False
def dSub : ROp
  | .int i, .int j, S, R => R (.int (i - j)) S
  | _, _, _, _ => False
def dMul : ROp
  | .int i, .int j, S, R => (CMulW i j ∨ CMul i j) ∧ R (.int (i * j)) S
  | .ref a, .int k, S, R => ∃ xs, S a = some (.lst xs) ∧ (0 ≤ k ∧ k < 2 ^ 63) ∧ xs.length * k.toNat ≤ sizeLine ∧ ∀ p, S p = none → R (.ref p) (sup S p (.lst ((List.replicate k.toNat xs).flatten)))
  | _, _, _, _ => False
def dFdiv : ROp
  | .int i, .int j, S, R => CDivW i j ∧ R (.int (i / j)) S
  | _, _, _, _ => False
def dMod : ROp
  | .int i, .int j, S, R => 0 < j ∧ R (.int (i % j)) S
  | _, _, _, _ => False
def dPow : ROp
  | .int i, .int j, S, R => (0 ≤ j ∧ (Builtin.Int.intBits i : Int) * j ≤ 2 ^ 27) ∧ R (.int (i ^ j.toNat)) S
  | _, _, _, _ => False
def dCmpI (f : Int → Int → Bool) : ROp
  | .int i, .int j, S, R => R (.bl (f i j)) S
  | _, _, _, _ => False
def dLt : ROp
  | .int i, .int j, S, R => R (.bl (decide (i < j))) S
  | _, _, _, _ => False
def dLe : ROp
  | .int i, .int j, S, R => R (.bl (decide (i ≤ j))) S
  | _, _, _, _ => False
def dGt : ROp
  | .int i, .int j, S, R => R (.bl (decide (j < i))) S
  | _, _, _, _ => False
def dGe : ROp
  | .int i, .int j, S, R => R (.bl (decide (j ≤ i))) S
  | _, _, _, _ => False
def dEqG (n : Bool) (x y : D) (S : Sto) (R : D → Sto → Prop) : Prop := ∃ p q, PyR S x p ∧ PyR S y q ∧ SeqAt.shaped p = true ∧ SeqAt.shaped q = true ∧ R (.bl (if n then !PyData.eqv p q else PyData.eqv p q)) S
def dEq : ROp
  | .int i, .int j, S, R => R (.bl (decide (i = j))) S
  | .bl i, .bl j, S, R => R (.bl (decide (i = j))) S
  | .str i, .str j, S, R => R (.bl (decide (i = j))) S
  | x, y, S, R => dEqG false x y S R
def dNe : ROp
  | .int i, .int j, S, R => R (.bl (!decide (i = j))) S
  | .bl i, .bl j, S, R => R (.bl (!decide (i = j))) S
  | .str i, .str j, S, R => R (.bl (!decide (i = j))) S
  | x, y, S, R => dEqG true x y S R
def isNone : D → Bool
  | .non => true
  | _ => false
def dIs : ROp
  | x, .non, S, R => R (.bl (isNone x)) S
  | _, _, _, _ => False
def dIsNot : ROp
  | x, .non, S, R => R (.bl (!isNone x)) S
  | _, _, _, _ => False
section
variable {X : Cx}
theorem od_add : OpR X (binaryOp .Add) (lop X.K dAdd) := by
  intro pins s σ H v w vv ww Q I rv rw' h
  obtain ⟨x, y, S, R, dx, dy, so, h, k⟩ := h
  cases x <;> cases y <;> first | exact False.elim h | skip
  case int.int i j =>
    cases (show v = V.int i from dx); cases (show w = V.int j from dy)
    exact op_add pins s σ H _ _ vv ww Q I rv rw' ⟨i, j, rfl, rfl, k (.int (i + j)) S _ H (Go.refl so) rfl h⟩
  case str.str i j =>
    cases (show v = V.str i from dx); cases (show w = V.str j from dy)
    exact op_add_str pins s σ H _ _ vv ww Q I rv rw' ⟨i, j, rfl, rfl, h.1, k (.str (i ++ j)) S _ H (Go.refl so) rfl h.2⟩
  case tup.tup xs ys =>
    obtain ⟨a, vs, rfl, q1, r1⟩ := dx
    obtain ⟨b, ws, rfl, q2, r2⟩ := dy
    obtain ⟨hl, h⟩ := h
    refine op_catA pins s σ H _ _ vv ww Q I rv rw' ⟨a, b, vs, ws, rfl, rfl, q1.sq, q2.sq, by rw [← r1.length, ← r2.length]; exact hl, fun hv => ?_, fun _ hw => ?_, fun _ _ p hp => ?_⟩
    · subst hv
      have e : xs = [] := List.length_eq_zero_iff.mp r1.length
      subst e
      rw [List.nil_append] at h
      exact k (.tup ys) S _ H (Go.refl so) ⟨b, ws, rfl, q2, r2⟩ h
    · subst hw
      have e : ys = [] := List.length_eq_zero_iff.mp r2.length
      subst e
      rw [List.append_nil] at h
      exact k (.tup xs) S _ H (Go.refl so) ⟨a, vs, rfl, q1, r1⟩ h
    · have g := Go.new (o := .tup (vs ++ ws)) so hp
      exact k (.tup (xs ++ ys)) S _ _ g ⟨p, vs ++ ws, rfl, .inl upd_same, DVs.append (DVs.go g _ _ r1) (DVs.go g _ _ r2)⟩ h
  case ref.ref a b =>
    cases (show v = V.ref a from dx); cases (show w = V.ref b from dy)
    obtain ⟨xs, ys, e1, e2, hl, h⟩ := h
    obtain ⟨vs, f1, r1⟩ := so _ _ e1
    obtain ⟨ws, f2, r2⟩ := so _ _ e2
    refine op_cat pins s σ H _ _ vv ww Q I rv rw' ⟨a, b, vs, ws, rfl, rfl, f1, f2, by rw [← r1.length, ← r2.length]; exact hl, fun p hp => ?_⟩
    exact k (.ref p) _ _ _ (Go.newLst so hp (r1.append r2)) rfl (h p (so.free hp))
theorem od_sub : OpR X (binaryOp .Sub) (lop X.K dSub) := by
  intro pins s σ H v w vv ww Q I rv rw' h
  obtain ⟨x, y, S, R, dx, dy, so, h, k⟩ := h
  cases x <;> cases y <;> first | exact False.elim h | skip
  case int.int i j =>
    cases (show v = V.int i from dx); cases (show w = V.int j from dy)
    exact op_sub pins s σ H _ _ vv ww Q I rv rw' ⟨i, j, rfl, rfl, k (.int (i - j)) S _ H (Go.refl so) rfl h⟩
theorem od_mul : OpR X (binaryOp .Mult) (lop X.K dMul) := by
  intro pins s σ H v w vv ww Q I rv rw' h
  obtain ⟨x, y, S, R, dx, dy, so, h, k⟩ := h
  cases x <;> cases y <;> first | exact False.elim h | skip
  case int.int i j =>
    cases (show v = V.int i from dx); cases (show w = V.int j from dy)
    rcases h.1 with hc | hc
    · exact op_mulW pins s σ H _ _ vv ww Q I rv rw' ⟨i, j, rfl, rfl, hc, k (.int (i * j)) S _ H (Go.refl so) rfl h.2⟩
    · exact op_mul pins s σ H _ _ vv ww Q I rv rw' ⟨i, j, rfl, rfl, hc, k (.int (i * j)) S _ H (Go.refl so) rfl h.2⟩
  case ref.int a j =>
    cases (show v = V.ref a from dx); cases (show w = V.int j from dy)
    obtain ⟨xs, e1, ⟨h0, h1⟩, hl, h⟩ := h
    obtain ⟨vs, f1, r1⟩ := so _ _ e1
    refine op_rep pins s σ H _ _ vv ww Q I rv rw' ⟨a, j, vs, rfl, rfl, f1, by omega, h1, by rw [← r1.length]; exact hl, fun p hp => ?_⟩
    have rr : DVs X.K H ((List.replicate j.toNat xs).flatten) ((List.replicate j.toNat vs).flatten) := by
      generalize j.toNat = n
      induction n with
      | zero => exact DVs.nil
      | succ n ih => rw [List.replicate_succ, List.replicate_succ, List.flatten_cons, List.flatten_cons]; exact r1.append ih
    exact k (.ref p) _ _ _ (Go.newLst so hp rr) rfl (h p (so.free hp))
theorem od_fdiv : OpR X (binaryOp .FloorDiv) (lop X.K dFdiv) := by
  intro pins s σ H v w vv ww Q I rv rw' h
  obtain ⟨x, y, S, R, dx, dy, so, h, k⟩ := h
  cases x <;> cases y <;> first | exact False.elim h | skip
  case int.int i j =>
    cases (show v = V.int i from dx); cases (show w = V.int j from dy)
    exact op_fdivW pins s σ H _ _ vv ww Q I rv rw' ⟨i, j, rfl, rfl, h.1, k (.int (i / j)) S _ H (Go.refl so) rfl h.2⟩
theorem od_mod : OpR X (binaryOp .Mod) (lop X.K dMod) := by
  intro pins s σ H v w vv ww Q I rv rw' h
  obtain ⟨x, y, S, R, dx, dy, so, h, k⟩ := h
  cases x <;> cases y <;> first | exact False.elim h | skip
  case int.int i j =>
    cases (show v = V.int i from dx); cases (show w = V.int j from dy)
    exact op_mod pins s σ H _ _ vv ww Q I rv rw' ⟨i, j, rfl, rfl, h.1, k (.int (i % j)) S _ H (Go.refl so) rfl h.2⟩
theorem op_powW : OpR X (binaryOp .Pow) (rI (fun i j => 0 ≤ j ∧ (Builtin.Int.intBits i : Int) * j ≤ 2 ^ 27) fun i j => .int (i ^ j.toNat)) := opI fun _ _ _ _ _ _ _ hc q => PyProof.Rows.pow_int hc.1 hc.2 q
theorem od_pow : OpR X (binaryOp .Pow) (lop X.K dPow) := by
  intro pins s σ H v w vv ww Q I rv rw' h
  obtain ⟨x, y, S, R, dx, dy, so, h, k⟩ := h
  cases x <;> cases y <;> first | exact False.elim h | skip
  case int.int i j =>
    cases (show v = V.int i from dx); cases (show w = V.int j from dy)
    exact op_powW pins s σ H _ _ vv ww Q I rv rw' ⟨i, j, rfl, rfl, h.1, k (.int (i ^ j.toNat)) S _ H (Go.refl so) rfl h.2⟩
theorem od_cmpI {op : CmpOp} {f : Int → Int → Bool} (ho : OpR X (compareOp op) (rI0 fun i j => .bl (f i j))) : OpR X (compareOp op) (lop X.K (dCmpI f)) := by
  intro pins s σ H v w vv ww Q I rv rw' h
  obtain ⟨x, y, S, R, dx, dy, so, h, k⟩ := h
  cases x <;> cases y <;> first | exact False.elim h | skip
  case int.int i j =>
    cases (show v = V.int i from dx); cases (show w = V.int j from dy)
    exact ho pins s σ H _ _ vv ww Q I rv rw' ⟨i, j, rfl, rfl, k (.bl (f i j)) S _ H (Go.refl so) rfl h⟩
theorem od_lt : OpR X (compareOp .Lt) (lop X.K dLt) := od_cmpI op_lt
theorem od_le : OpR X (compareOp .LtE) (lop X.K dLe) := od_cmpI op_le
theorem od_gt : OpR X (compareOp .Gt) (lop X.K dGt) := od_cmpI op_gt
theorem od_ge : OpR X (compareOp .GtE) (lop X.K dGe) := od_cmpI op_ge
theorem eqG_of {n : Bool} {x y : D} {S : Sto} {R : D → Sto → Prop} {H : Hp} {v w : V} {Q : VK} (so : SOk X.K H S) (dx : DV X.K H x v) (dy : DV X.K H y w) (h : dEqG n x y S R) (k : ∀ d S' z H', Go X.K H S H' S' → DV X.K H' d z → R d S' → Q z H') :
    ∃ d e, Dp X.K H v d ∧ Dp X.K H w e ∧ SeqAt.shaped d = true ∧ SeqAt.shaped e = true ∧ Q (.bl (if n then !PyData.eqv d e else PyData.eqv d e)) H := by
  obtain ⟨p, q, h1, h2, s1, s2, h⟩ := h
  exact ⟨p, q, PyR.dp so p x v h1 dx, PyR.dp so q y w h2 dy, s1, s2, k (.bl (if n then !PyData.eqv p q else PyData.eqv p q)) S _ H (Go.refl so) rfl h⟩
theorem dEq_case {x y : D} {S : Sto} {R : D → Sto → Prop} (h : dEq x y S R) : (∃ i j, x = .int i ∧ y = .int j ∧ R (.bl (decide (i = j))) S) ∨ (∃ i j, x = .bl i ∧ y = .bl j ∧ R (.bl (decide (i = j))) S) ∨ (∃ i j, x = .str i ∧ y = .str j ∧ R (.bl (decide (i = j))) S) ∨ dEqG false x y S R := by
  cases x <;> cases y <;> first | exact .inr (.inr (.inr h)) | exact .inl ⟨_, _, rfl, rfl, h⟩ | exact .inr (.inl ⟨_, _, rfl, rfl, h⟩) | exact .inr (.inr (.inl ⟨_, _, rfl, rfl, h⟩))
theorem dNe_case {x y : D} {S : Sto} {R : D → Sto → Prop} (h : dNe x y S R) : (∃ i j, x = .int i ∧ y = .int j ∧ R (.bl (!decide (i = j))) S) ∨ (∃ i j, x = .bl i ∧ y = .bl j ∧ R (.bl (!decide (i = j))) S) ∨ (∃ i j, x = .str i ∧ y = .str j ∧ R (.bl (!decide (i = j))) S) ∨ dEqG true x y S R := by
  cases x <;> cases y <;> first | exact .inr (.inr (.inr h)) | exact .inl ⟨_, _, rfl, rfl, h⟩ | exact .inr (.inl ⟨_, _, rfl, rfl, h⟩) | exact .inr (.inr (.inl ⟨_, _, rfl, rfl, h⟩))
theorem od_eq (hu : X.A.units + 64 < cLine) : OpR X (compareOp .Eq) (lop X.K dEq) := by
  intro pins s σ H v w vv ww Q I rv rw' h
  obtain ⟨x, y, S, R, dx, dy, so, h, k⟩ := h
  rcases dEq_case h with ⟨i, j, rfl, rfl, h⟩ | ⟨i, j, rfl, rfl, h⟩ | ⟨i, j, rfl, rfl, h⟩ | h
  · cases (show v = V.int i from dx); cases (show w = V.int j from dy)
    exact op_eq pins s σ H _ _ vv ww Q I rv rw' ⟨rfl, by rw [show decide (V.int i = V.int j) = decide (i = j) by simp]; exact k (.bl (decide (i = j))) S _ H (Go.refl so) rfl h⟩
  · cases (show v = V.bl i from dx); cases (show w = V.bl j from dy)
    exact op_eq pins s σ H _ _ vv ww Q I rv rw' ⟨rfl, by rw [show decide (V.bl i = V.bl j) = decide (i = j) by simp]; exact k (.bl (decide (i = j))) S _ H (Go.refl so) rfl h⟩
  · cases (show v = V.str i from dx); cases (show w = V.str j from dy)
    exact op_eq pins s σ H _ _ vv ww Q I rv rw' ⟨rfl, by rw [show decide (V.str i = V.str j) = decide (i = j) by simp]; exact k (.bl (decide (i = j))) S _ H (Go.refl so) rfl h⟩
  · exact op_eqD hu pins s σ H _ _ vv ww Q I rv rw' (eqG_of so dx dy h k)
theorem od_ne (hu : X.A.units + 64 < cLine) : OpR X (compareOp .NotEq) (lop X.K dNe) := by
  intro pins s σ H v w vv ww Q I rv rw' h
  obtain ⟨x, y, S, R, dx, dy, so, h, k⟩ := h
  rcases dNe_case h with ⟨i, j, rfl, rfl, h⟩ | ⟨i, j, rfl, rfl, h⟩ | ⟨i, j, rfl, rfl, h⟩ | h
  · cases (show v = V.int i from dx); cases (show w = V.int j from dy)
    exact op_ne pins s σ H _ _ vv ww Q I rv rw' ⟨rfl, by rw [show decide (V.int i = V.int j) = decide (i = j) by simp]; exact k (.bl (!decide (i = j))) S _ H (Go.refl so) rfl h⟩
  · cases (show v = V.bl i from dx); cases (show w = V.bl j from dy)
    exact op_ne pins s σ H _ _ vv ww Q I rv rw' ⟨rfl, by rw [show decide (V.bl i = V.bl j) = decide (i = j) by simp]; exact k (.bl (!decide (i = j))) S _ H (Go.refl so) rfl h⟩
  · cases (show v = V.str i from dx); cases (show w = V.str j from dy)
    exact op_ne pins s σ H _ _ vv ww Q I rv rw' ⟨rfl, by rw [show decide (V.str i = V.str j) = decide (i = j) by simp]; exact k (.bl (!decide (i = j))) S _ H (Go.refl so) rfl h⟩
  · exact op_neD hu pins s σ H _ _ vv ww Q I rv rw' (eqG_of so dx dy h k)
theorem isNone_of {K : PySem.W.Frag} {H : Hp} {x : D} {v : V} (h : DV K H x v) : decide (v = V.non) = isNone x := by
  cases x with
  | non => cases (show v = V.non from h); rfl
  | bl b => cases (show v = V.bl b from h); rfl
  | int b => cases (show v = V.int b from h); rfl
  | str b => cases (show v = V.str b from h); rfl
  | ty b => cases (show v = V.ty b from h); rfl
  | ref b => cases (show v = V.ref b from h); rfl
  | tup b => obtain ⟨a, vs, rfl, _⟩ := h; rfl
  | fro b => obtain ⟨a, vs, rfl, _⟩ := h; rfl
  | exc C d => obtain ⟨a, dx, w, rfl, _⟩ := h; rfl
theorem od_is : OpR X (compareOp .Is) (lop X.K dIs) := by
  intro pins s σ H v w vv ww Q I rv rw' h
  obtain ⟨x, y, S, R, dx, dy, so, h, k⟩ := h
  cases y <;> first | (cases x <;> exact False.elim h) | skip
  cases (show w = V.non from dy)
  have h : R (.bl (isNone x)) S := by cases x <;> exact h
  exact op_isN pins s σ H _ _ vv ww Q I rv rw' ⟨rfl, by rw [isNone_of dx]; exact k (.bl (isNone x)) S _ H (Go.refl so) rfl h⟩
theorem od_isnot : OpR X (compareOp .IsNot) (lop X.K dIsNot) := by
  intro pins s σ H v w vv ww Q I rv rw' h
  obtain ⟨x, y, S, R, dx, dy, so, h, k⟩ := h
  cases y <;> first | (cases x <;> exact False.elim h) | skip
  cases (show w = V.non from dy)
  have h : R (.bl (!isNone x)) S := by cases x <;> exact h
  exact op_notN pins s σ H _ _ vv ww Q I rv rw' ⟨rfl, by rw [isNone_of dx]; exact k (.bl (!isNone x)) S _ H (Go.refl so) rfl h⟩
variable {y : DXw} {a b : Expr} {t : RE} {pos : Pos}
/-- -a -/
def rNeg (t : RE) : RE := fun ρ S Q => t ρ S fun d S1 => match d with
  | .int i => Q (.int (-i)) S1
  | _ => False
theorem pd_neg (ha : PD X y a t) : PD X y (.UnaryOp .USub a pos) (rNeg t) := by
  refine PD.of (pe_un un_neg ha) fun σ H Q h => ?_
  obtain ⟨ρ, S, R, sr, so, h, k⟩ := h
  refine ⟨ρ, S, _, sr, so, h, fun d S' v H' g dv hd => ?_⟩
  cases d with
  | int i => exact ⟨i, dv, k (.int (-i)) S' _ H' g rfl hd⟩
  | _ => exact False.elim hd
end
end DL
set_option Elab.async false
set_option linter.all false
set_option maxRecDepth 100000
set_option maxHeartbeats 4000000
namespace DL
open PySem PySem.Spec PyProof.Rows L2

/-! ### built-ins, by values -/
abbrev RCall := List D → Sto → (D → Sto → Prop) → Prop
def lcl (K : PySem.W.Frag) (p : RCall) : List V → Hp → VK → Prop := fun vs H Q => ∃ ds S R, DVs K H ds vs ∧ SOk K H S ∧ p ds S R ∧ ∀ d S' z H', Go K H S H' S' → DV K H' d z → R d S' → Q z H'
def rCl (p : RCall) (ta : RA) : RE := fun ρ S Q => ta ρ S fun ds S1 => p ds S1 Q
def dvs1 {K : PySem.W.Frag} {H : Hp} {d : D} {vs : List V} (h : DVs K H [d] vs) : ∃ v, vs = [v] ∧ DV K H d v := by
  obtain ⟨v, ws, rfl, r, q⟩ := h
  cases (show ws = [] from q)
  exact ⟨v, rfl, r⟩
def dvs2 {K : PySem.W.Frag} {H : Hp} {d e : D} {vs : List V} (h : DVs K H [d, e] vs) : ∃ v w, vs = [v, w] ∧ DV K H d v ∧ DV K H e w := by
  obtain ⟨v, ws, rfl, r, q⟩ := h
  obtain ⟨w, rfl, r2⟩ := dvs1 q
  exact ⟨v, w, rfl, r, r2⟩
section
variable {X : Cx} {y : DXw} {pos p : Pos} {e : Expr} {es : List Expr} {x : Str} {ta : RA}
theorem cl_of {r : List V → Hp → VK → Prop} {q : RCall} {n : Nat} {σ : L2.St} {H : Hp} {Q : VK} (hr : ∀ vs H Q, lcl X.K q vs H Q → r vs H Q) (h : lE X.K y (rCl q ta) σ H Q) : tCB r (lA X.K y n ta) σ H Q := by
  obtain ⟨ρ, S, R, sr, so, h, k⟩ := h
  exact ⟨ρ, S, _, sr, so, h, fun ds S1 vs H1 g1 dvs hn h1 => hr _ _ _ ⟨ds, S1, R, dvs, g1.ok, h1, fun d S2 z H2 g2 dz q => k d S2 z H2 (g1.trans g2) dz q⟩⟩
theorem pd_blt {id : String} {q : RCall} (hc : CallR X (.builtin id) (lcl X.K q)) (hm : X.mg x = none) (hv : bootBuiltins x = some (.builtin id)) (ha : PDA X y (e :: es) ta) (hg : Gl X x := by rfl) (hn : x ≠ "__name__" := by decide) (hdb : (x == ("__debug__" : Str)) = false := by decide)
    (he : starEach (e :: es) X.env = (false, eval e X.env) :: starEach es X.env := by rfl) (hpl : (backTo pos (starEach es X.env)).any (·.1) = false := by rfl) : PD X y (.Call (.Name x p) (e :: es) [] pos) (rCl q ta) :=
  PD.of (pe_callB hc hg hm hv ha hn hdb he hpl) fun σ H Q h => cl_of (fun _ _ _ z => z) h
theorem pd_bltTy {T : String} {q : RCall} (hc : CallR X (.type T) (lcl X.K q)) (hm : X.mg x = none) (hv : bootBuiltins x = some (.type T)) (ha : PDA X y (e :: es) ta) (hg : Gl X x := by rfl) (hn : x ≠ "__name__" := by decide) (hdb : (x == ("__debug__" : Str)) = false := by decide)
    (he : starEach (e :: es) X.env = (false, eval e X.env) :: starEach es X.env := by rfl) (hpl : (backTo pos (starEach es X.env)).any (·.1) = false := by rfl) : PD X y (.Call (.Name x p) (e :: es) [] pos) (rCl q ta) :=
  PD.of (pe_callTy hc hg hm hv ha hn hdb he hpl) fun σ H Q h => cl_of (fun _ _ _ z => z) h
theorem pd_bltFun {id : String} {q : RCall} (hc : CallR X (.builtin id) (lcl X.K q)) (hm : X.mg x = some (.builtin id)) (ha : PDA X y (e :: es) ta) (hg : Gl X x := by rfl) (hdb : (x == ("__debug__" : Str)) = false := by decide)
    (he : starEach (e :: es) X.env = (false, eval e X.env) :: starEach es X.env := by rfl) (hpl : (backTo pos (starEach es X.env)).any (·.1) = false := by rfl) : PD X y (.Call (.Name x p) (e :: es) [] pos) (rCl q ta) :=
  PD.of (pe_callBfun hc hg hm ha hdb he hpl) fun σ H Q h => cl_of (fun _ _ _ z => z) h

/-- len -/
def dLen : RCall := fun ds S Q => match ds with
  | [.tup xs] => Q (.int xs.length) S
  | [.str x] => x.length ≤ sizeLine ∧ Q (.int x.length) S
  | [d] => ∃ xs, RdL S d xs ∧ Q (.int xs.length) S
  | _ => False
theorem cd_len : CallR X (.builtin "len") (lcl X.K dLen) := by
  intro pins s σ H vs us Q I rv h
  obtain ⟨ds, S, R, dv, so, h, k⟩ := h
  refine call_len pins s σ H vs us Q I rv ?_
  unfold dLen at h
  split at h
  · rename_i xs
    obtain ⟨v, rfl, a, ws, rfl, q, r⟩ := dvs1 dv
    exact ⟨_, _, rfl, .inr ⟨ws, q.sq, rfl⟩, by rw [← r.length]; exact k (.int xs.length) S _ H (Go.refl so) rfl h⟩
  · rename_i z
    obtain ⟨v, rfl, r⟩ := dvs1 dv
    cases (show v = V.str z from r)
    exact ⟨_, _, rfl, ⟨h.1, rfl⟩, k (.int z.length) S _ H (Go.refl so) rfl h.2⟩
  · rename_i d _ _
    obtain ⟨v, rfl, r⟩ := dvs1 dv
    obtain ⟨xs, hx, h⟩ := h
    obtain ⟨a, ws, rfl, q, r⟩ := hx.sq so r
    exact ⟨_, _, rfl, .inl ⟨ws, q, rfl⟩, by rw [← r.length]; exact k (.int xs.length) S _ H (Go.refl so) rfl h⟩
  · exact h.elim
/-- int -/
def dInt : RCall := fun ds S Q => match ds with
  | [.int i] => Q (.int i) S
  | [.bl b] => Q (.int (if b then 1 else 0)) S
  | _ => False
theorem cd_int : CallR X (.type "int") (lcl X.K dInt) := by
  intro pins s σ H vs us Q I rv h
  obtain ⟨ds, S, R, dv, so, h, k⟩ := h
  refine call_int1 pins s σ H vs us Q I rv ?_
  unfold dInt at h
  split at h
  · rename_i i
    obtain ⟨v, rfl, r⟩ := dvs1 dv
    cases (show v = V.int i from r)
    exact .inl ⟨i, rfl, k (.int i) S _ H (Go.refl so) rfl h⟩
  · rename_i b
    obtain ⟨v, rfl, r⟩ := dvs1 dv
    cases (show v = V.bl b from r)
    exact .inr ⟨b, rfl, k (.int (if b then 1 else 0)) S _ H (Go.refl so) rfl h⟩
  · exact h.elim
/-- a built-in of whole numbers -/
def dI1 (f : Int → Int) : RCall := fun ds S Q => match ds with
  | [.int i] => Q (.int (f i)) S
  | _ => False
def dI2 (f : Int → Int → Int) : RCall := fun ds S Q => match ds with
  | [.int i, .int j] => Q (.int (f i j)) S
  | _ => False
theorem cd_I1 {u : Value} {f : Int → Int} (hc : CallR X u (fun xs H Q => ∃ i, xs = [.int i] ∧ Q (.int (f i)) H)) : CallR X u (lcl X.K (dI1 f)) := by
  intro pins s σ H vs us Q I rv h
  obtain ⟨ds, S, R, dv, so, h, k⟩ := h
  refine hc pins s σ H vs us Q I rv ?_
  unfold dI1 at h
  split at h
  · rename_i i
    obtain ⟨v, rfl, r⟩ := dvs1 dv
    cases (show v = V.int i from r)
    exact ⟨i, rfl, k (.int (f i)) S _ H (Go.refl so) rfl h⟩
  · exact h.elim
theorem cd_I2 {u : Value} {f : Int → Int → Int} (hc : CallR X u (fun xs H Q => ∃ i j, xs = [.int i, .int j] ∧ Q (.int (f i j)) H)) : CallR X u (lcl X.K (dI2 f)) := by
  intro pins s σ H vs us Q I rv h
  obtain ⟨ds, S, R, dv, so, h, k⟩ := h
  refine hc pins s σ H vs us Q I rv ?_
  unfold dI2 at h
  split at h
  · rename_i i j
    obtain ⟨v, w, rfl, r1, r2⟩ := dvs2 dv
    cases (show v = V.int i from r1)
    cases (show w = V.int j from r2)
    exact ⟨i, j, rfl, k (.int (f i j)) S _ H (Go.refl so) rfl h⟩
  · exact h.elim
def dAbs : RCall := fun ds S Q => match ds with
  | [.int i] => Q (.int (if i < 0 then -i else i)) S
  | _ => False
def dMax2 : RCall := fun ds S Q => match ds with
  | [.int i, .int j] => Q (.int (if j > i then j else i)) S
  | _ => False
def dMin2 : RCall := fun ds S Q => match ds with
  | [.int i, .int j] => Q (.int (if j < i then j else i)) S
  | _ => False
def dGcd : RCall := fun ds S Q => match ds with
  | [.int i, .int j] => Q (.int ((Nat.gcd i.natAbs j.natAbs : Nat) : Int)) S
  | _ => False
theorem cd_abs : CallR X (.builtin "abs") (lcl X.K dAbs) := cd_I1 call_abs
theorem cd_max2 (hc : X.calm = true) : CallR X (.builtin "max") (lcl X.K dMax2) := cd_I2 (call_max2 hc)
theorem cd_min2 (hc : X.calm = true) : CallR X (.builtin "min") (lcl X.K dMin2) := cd_I2 (call_min2 hc)
theorem cd_gcd : CallR X (.builtin "math.gcd") (lcl X.K dGcd) := cd_I2 cr_gcd
/-- tuple, list -/
def dTuple : RCall := fun ds S Q => match ds with
  | [.tup xs] => Q (.tup xs) S
  | [d] => ∃ xs, RdL S d xs ∧ Q (.tup xs) S
  | _ => False
theorem cd_tuple : CallR X (.type "tuple") (lcl X.K dTuple) := by
  intro pins s σ H vs us Q I rv h
  obtain ⟨ds, S, R, dv, so, h, k⟩ := h
  refine call_tuple_of pins s σ H vs us Q I rv ?_
  unfold dTuple at h
  split at h
  · rename_i xs
    obtain ⟨v, rfl, a, ws, rfl, q, r⟩ := dvs1 dv
    exact ⟨a, ws, rfl, .inr ⟨q.sq, k (.tup xs) S _ H (Go.refl so) ⟨a, ws, rfl, q, r⟩ h⟩⟩
  · rename_i d _
    obtain ⟨v, rfl, r⟩ := dvs1 dv
    obtain ⟨xs, hx, h⟩ := h
    obtain ⟨a, ws, rfl, q, r⟩ := hx.sq so r
    refine ⟨a, ws, rfl, .inl ⟨q, fun l hl => ?_⟩⟩
    have g := Go.new (o := .tup ws) so hl
    exact k (.tup xs) S _ _ g ⟨l, ws, rfl, .inl upd_same, DVs.go g _ _ r⟩ h
  · exact h.elim
def dList : RCall := fun ds S Q => match ds with
  | [.tup xs] => ∀ p, S p = none → Q (.ref p) (sup S p (.lst xs))
  | [d] => ∃ xs, RdL S d xs ∧ ∀ p, S p = none → Q (.ref p) (sup S p (.lst xs))
  | _ => False
theorem cd_list : CallR X (.type "list") (lcl X.K dList) := by
  intro pins s σ H vs us Q I rv h
  obtain ⟨ds, S, R, dv, so, h, k⟩ := h
  refine call_list_of pins s σ H vs us Q I rv ?_
  unfold dList at h
  split at h
  · rename_i xs
    obtain ⟨v, rfl, a, ws, rfl, q, r⟩ := dvs1 dv
    exact ⟨a, ws, rfl, .inr q.sq, fun l hl => k (.ref l) _ _ _ (Go.newLst so hl r) rfl (h l (so.free hl))⟩
  · rename_i d _
    obtain ⟨v, rfl, r⟩ := dvs1 dv
    obtain ⟨xs, hx, h⟩ := h
    obtain ⟨a, ws, rfl, q, r⟩ := hx.sq so r
    exact ⟨a, ws, rfl, .inl q, fun l hl => k (.ref l) _ _ _ (Go.newLst so hl r) rfl (h l (so.free hl))⟩
  · exact h.elim
/-- sum, all, any of a list -/
def dSum : RCall := fun ds S Q => match ds with
  | [d] => ∃ ns : List Int, RdL S d (ns.map D.int) ∧ Q (.int ns.sum) S
  | _ => False
theorem cd_sum (hc : X.calm = true) : CallR X (.builtin "sum") (lcl X.K dSum) := by
  intro pins s σ H vs us Q I rv h
  obtain ⟨ds, S, R, dv, so, h, k⟩ := h
  refine cr_sum hc pins s σ H vs us Q I rv ?_
  unfold dSum at h
  split at h
  · rename_i d
    obtain ⟨v, rfl, r⟩ := dvs1 dv
    obtain ⟨ns, hx, h⟩ := h
    obtain ⟨a, ws, rfl, q, r⟩ := hx.sq so r
    rw [DVs.ints r] at q
    exact ⟨a, ns, rfl, q, k (.int ns.sum) S _ H (Go.refl so) rfl h⟩
  · exact h.elim
def dAll : RCall := fun ds S Q => match ds with
  | [d] => ∃ bs : List Bool, RdL S d (bs.map D.bl) ∧ Q (.bl (bs.all id)) S
  | _ => False
def dAny : RCall := fun ds S Q => match ds with
  | [d] => ∃ bs : List Bool, RdL S d (bs.map D.bl) ∧ Q (.bl (bs.any id)) S
  | _ => False
theorem cd_all (hc : X.calm = true) : CallR X (.builtin "all") (lcl X.K dAll) := by
  intro pins s σ H vs us Q I rv h
  obtain ⟨ds, S, R, dv, so, h, k⟩ := h
  refine cr_all hc pins s σ H vs us Q I rv ?_
  unfold dAll at h
  split at h
  · rename_i d
    obtain ⟨v, rfl, r⟩ := dvs1 dv
    obtain ⟨ns, hx, h⟩ := h
    obtain ⟨a, ws, rfl, q, r⟩ := hx.sq so r
    rw [DVs.bls r] at q
    exact ⟨a, ns, rfl, q, k (.bl (ns.all id)) S _ H (Go.refl so) rfl h⟩
  · exact h.elim
theorem cd_any (hc : X.calm = true) : CallR X (.builtin "any") (lcl X.K dAny) := by
  intro pins s σ H vs us Q I rv h
  obtain ⟨ds, S, R, dv, so, h, k⟩ := h
  refine cr_any hc pins s σ H vs us Q I rv ?_
  unfold dAny at h
  split at h
  · rename_i d
    obtain ⟨v, rfl, r⟩ := dvs1 dv
    obtain ⟨ns, hx, h⟩ := h
    obtain ⟨a, ws, rfl, q, r⟩ := hx.sq so r
    rw [DVs.bls r] at q
    exact ⟨a, ns, rfl, q, k (.bl (ns.any id)) S _ H (Go.refl so) rfl h⟩
  · exact h.elim

/-! ### isinstance -/
inductive Ty where
  | int | bool | none | str | tup | lst | dct
  deriving DecidableEq
def Ty.nm : Ty → String
  | .int => "int" | .bool => "bool" | .none => "NoneType" | .str => "str" | .tup => "tuple" | .lst => "list" | .dct => "dict"
def isi : Ty → Ty → Bool
  | .int, .int => true | .bool, .bool => true | .bool, .int => true | .none, .none => true | .str, .str => true | .tup, .tup => true | .lst, .lst => true | .dct, .dct => true
  | _, _ => false
theorem isi_kit : ∀ t c : Ty, kitB t.nm c.nm = some (isi t c) := by
  intro t c
  cases t <;> cases c <;> decide +kernel
def dTy : D → Sto → (Ty → Prop) → Prop
  | .non, _, k => k .none
  | .bl _, _, k => k .bool
  | .int _, _, k => k .int
  | .str _, _, k => k .str
  | .tup _, _, k => k .tup
  | .fro _, _, k => k .lst
  | .ref a, S, k => (∃ xs, S a = some (.lst xs) ∧ k .lst) ∨ ∃ kvs, S a = some (.dK kvs) ∧ k .dct
  | _, _, _ => False
theorem dTy_of {K : PySem.W.Frag} {H : Hp} {S : Sto} (so : SOk K H S) : ∀ {d : D} {v : V} {k : Ty → Prop}, DV K H d v → dTy d S k → ∃ t : Ty, TyX K H v (.type t.nm) ∧ k t
  | .non, _, _, h, q => by cases (show _ = V.non from h); exact ⟨.none, .base .non, q⟩
  | .bl b, _, _, h, q => by cases (show _ = V.bl b from h); exact ⟨.bool, .base (.bl b), q⟩
  | .int b, _, _, h, q => by cases (show _ = V.int b from h); exact ⟨.int, .base (.int b), q⟩
  | .str b, _, _, h, q => by cases (show _ = V.str b from h); exact ⟨.str, .base (.str b), q⟩
  | .tup b, _, _, h, q => by
    obtain ⟨a, vs, rfl, e, _⟩ := h
    rcases e with e | ⟨o, its, n, e, c, _⟩
    · exact ⟨.tup, .base (.tup e), q⟩
    · exact ⟨.tup, .kTuple e c, q⟩
  | .fro b, _, _, h, q => by
    obtain ⟨a, vs, rfl, e, _⟩ := h
    rcases e with ⟨o, e⟩ | ⟨o, its, n, e, c, _⟩
    · exact ⟨.lst, .base (.frz e), q⟩
    · exact ⟨.lst, .kList e c, q⟩
  | .ref a, _, _, h, q => by
    cases (show _ = V.ref a from h)
    rcases q with ⟨xs, e, q⟩ | ⟨xs, e, q⟩
    · obtain ⟨vs, e1, _⟩ := so a _ e
      exact ⟨.lst, .base (.lst e1), q⟩
    · obtain ⟨vs, e1, _⟩ := so a _ e
      exact ⟨.dct, .base (.dK e1), q⟩
  | .ty _, _, _, _, q => q.elim
  | .exc _ _, _, _, _, q => q.elim
/-- a class's name as a value -/
theorem pd_ty {x : Str} {c : Ty} {pos : Pos} (hm : X.mg x = none) (hv : bootBuiltins x = some (.type c.nm)) (hg : Gl X x := by rfl) (hn : x ≠ "__name__" := by decide) (hd : (x == ("__debug__" : Str)) = false := by decide) : PD X y (.Name x pos) (rC (.ty c.nm)) :=
  pd_c (pe_bltn (v := .ty c.nm) hg hm hv rfl hn hd) fun _ => rfl
def dIsi : RCall := fun ds S Q => match ds with
  | [d, .ty n] => ∀ c : Ty, c.nm = n → dTy d S fun t => Q (.bl (isi t c)) S
  | [d, .tup [.ty n, .ty m]] => ∀ c c' : Ty, c.nm = n → c'.nm = m → dTy d S fun t => Q (.bl (isi t c || isi t c')) S
  | _ => False
end
end DL
set_option Elab.async false
set_option linter.all false
set_option maxRecDepth 100000
set_option maxHeartbeats 4000000
namespace DL
open PySem PySem.Spec PyProof.Rows L2
section
variable {X : Cx} {y : DXw} {pos p p2 apos : Pos} {e a b o : Expr} {es : List Expr} {x : Str} {ta : RA} {te ti to : RE}

/-! ### isinstance -/
def rIs1 (c : Ty) (te : RE) : RE := fun ρ S Q => te ρ S fun d S1 => dTy d S1 fun t => Q (.bl (isi t c)) S1
def rIs2 (c c' : Ty) (te : RE) : RE := fun ρ S Q => te ρ S fun d S1 => dTy d S1 fun t => Q (.bl (isi t c || isi t c')) S1
theorem pd_isi1 (c : Ty) {cn : Str} (he : PD X y e te) (hm : X.mg "isinstance" = none) (hmc : X.mg cn = none) (hvc : bootBuiltins cn = some (.type c.nm) := by decide +kernel) (hg : Gl X "isinstance" := by rfl) (hgc : Gl X cn := by rfl) (hn : cn ≠ "__name__" := by decide) (hdb : (cn == ("__debug__" : Str)) = false := by decide)
    (h1 : starEach [e, .Name cn p2] X.env = (false, eval e X.env) :: starEach [.Name cn p2] X.env := by rfl) (h2 : starEach [.Name cn p2] X.env = (false, eval (.Name cn p2) X.env) :: starEach [] X.env := by rfl) (hpl : (backTo pos (starEach [.Name cn p2] X.env)).any (·.1) = false := by rfl) :
    PD X y (.Call (.Name "isinstance" p) [e, .Name cn p2] [] pos) (rIs1 c te) := by
  refine PD.of (pe_callB call_isi hg hm (by decide +kernel) (pa_cons he (pa_cons (pe_bltn (v := .ty c.nm) hgc hmc hvc rfl hn hdb) pa_nil h2) h1) (by decide) (by decide) h1 hpl) fun σ H Q h => ?_
  obtain ⟨ρ, S, R, sr, so, h, k⟩ := h
  refine ⟨ρ, S, _, sr, so, h, fun d S1 v H1 g dv hd => ?_⟩
  obtain ⟨t, ht, q⟩ := dTy_of g.ok dv hd
  exact ⟨v, .ty c.nm, .type t.nm, .type c.nm, _, rfl, .ty _, ht, kit_ty (isi_kit t c), k (.bl (isi t c)) S1 _ H1 g rfl q⟩
theorem pd_isi2 (c c' : Ty) {cn cn' : Str} {kk : Nat} {p3 p4 : Pos} (he : PD X y e te) (hm : X.mg "isinstance" = none) (hmc : X.mg cn = none) (hmc' : X.mg cn' = none) (hvc : bootBuiltins cn = some (.type c.nm) := by decide +kernel) (hvc' : bootBuiltins cn' = some (.type c'.nm) := by decide +kernel) (hg : Gl X "isinstance" := by rfl) (hgc : Gl X cn := by rfl) (hgc' : Gl X cn' := by rfl) (hn : cn ≠ "__name__" := by decide) (hdb : (cn == ("__debug__" : Str)) = false := by decide) (hn' : cn' ≠ "__name__" := by decide) (hdb' : (cn' == ("__debug__" : Str)) = false := by decide)
    (h1 : starEach [e, .Tuple [.Name cn p2, .Name cn' p3] kk p4] X.env = (false, eval e X.env) :: starEach [.Tuple [.Name cn p2, .Name cn' p3] kk p4] X.env := by rfl) (h2 : starEach [.Tuple [.Name cn p2, .Name cn' p3] kk p4] X.env = (false, eval (.Tuple [.Name cn p2, .Name cn' p3] kk p4) X.env) :: starEach [] X.env := by rfl) (hpl : (backTo pos (starEach [.Tuple [.Name cn p2, .Name cn' p3] kk p4] X.env)).any (·.1) = false := by rfl)
    (h3 : starEach [.Name cn p2, .Name cn' p3] X.env = (false, eval (.Name cn p2) X.env) :: starEach [.Name cn' p3] X.env := by rfl) (h4 : starEach [.Name cn' p3] X.env = (false, eval (.Name cn' p3) X.env) :: starEach [] X.env := by rfl) :
    PD X y (.Call (.Name "isinstance" p) [e, .Tuple [.Name cn p2, .Name cn' p3] kk p4] [] pos) (rIs2 c c' te) := by
  refine PD.of (pe_callB call_isiT hg hm (by decide +kernel) (pa_cons he (pa_cons (pe_tup (pa_cons (pe_bltn (v := .ty c.nm) hgc hmc hvc rfl hn hdb) (pa_cons (pe_bltn (v := .ty c'.nm) hgc' hmc' hvc' rfl hn' hdb') pa_nil h4) h3)) pa_nil h2) h1) (by decide) (by decide) h1 hpl) fun σ H Q h => ?_
  obtain ⟨ρ, S, R, sr, so, h, k⟩ := h
  refine ⟨ρ, S, _, sr, so, h, fun d S1 v H1 g dv hd => ?_⟩
  refine ⟨by show 2 ≤ sizeLine; decide, fun q hq => ?_⟩
  have g2 := Go.new (K := X.K) (o := .tup [.ty c.nm, .ty c'.nm]) g.ok hq
  obtain ⟨t, ht, hr⟩ := dTy_of g2.ok (DV.go g2 _ _ dv) hd
  refine ⟨v, q, [.ty c.nm, .ty c'.nm], .type t.nm, [.type c.nm, .type c'.nm], isi t c || isi t c', rfl, upd_same, .cons (.ty _) (.cons (.ty _) .nil), ht, ?_, k (.bl (isi t c || isi t c')) S1 _ _ (g.trans g2) rfl hr⟩
  refine kitAny_cons (kit_ty (isi_kit t c)) (fun z => ?_) fun z => by rw [z]; rfl
  rw [z, Bool.false_or]
  exact kitAny_cons (kit_ty (isi_kit t c')) (fun z => by rw [z]; exact kitAny_nil) fun z => z

/-! ### items -/
def dIx : ROp
  | .tup xs, .int i, S, R => ∃ d, atI xs i = some d ∧ R d S
  | .str x, .int i, S, R => ∃ c, x.length ≤ sizeLine ∧ atI x.cps.toList i = some c ∧ R (.str ⟨#[c]⟩) S
  | d, .int i, S, R => ∃ xs v, RdL S d xs ∧ atI xs i = some v ∧ R v S
  | _, _, _, _ => False
theorem atI_dv {K : PySem.W.Frag} {H : Hp} {xs : List D} {vs : List V} {i : Int} {d : D} (r : DVs K H xs vs) (h : atI xs i = some d) : ∃ v, atI vs i = some v ∧ DV K H d v := by
  unfold atI at h ⊢
  rw [← r.length]
  cases e : ixN xs.length i with
  | none => rw [e] at h; cases h
  | some j =>
    rw [e] at h
    exact r.get h
theorem dIx_case {x y : D} {S : Sto} {R : D → Sto → Prop} (h : dIx x y S R) : ∃ i, y = .int i ∧ ((∃ xs d, x = .tup xs ∧ atI xs i = some d ∧ R d S) ∨ (∃ z c, x = .str z ∧ z.length ≤ sizeLine ∧ atI z.cps.toList i = some c ∧ R (.str ⟨#[c]⟩) S) ∨ ∃ xs v, RdL S x xs ∧ atI xs i = some v ∧ R v S) := by
  cases y with
  | int i =>
    refine ⟨i, rfl, ?_⟩
    cases x with
    | tup xs => obtain ⟨d, h1, h2⟩ := (show ∃ d, atI xs i = some d ∧ R d S from h); exact .inl ⟨xs, d, rfl, h1, h2⟩
    | str z => obtain ⟨c, h1, h2, h3⟩ := (show ∃ c, z.length ≤ sizeLine ∧ atI z.cps.toList i = some c ∧ R (.str ⟨#[c]⟩) S from h); exact .inr (.inl ⟨z, c, rfl, h1, h2, h3⟩)
    | _ => exact .inr (.inr h)
  | _ => cases x <;> exact False.elim h
theorem id_seq : IxR X (lop X.K dIx) := by
  intro value slice pins s σ H v w vv ww Q I rv rw' h hs
  obtain ⟨x, z, S, R, dx, dz, so, h, k⟩ := h
  obtain ⟨i, rfl, hc⟩ := dIx_case h
  cases (show w = V.int i from dz)
  refine ix_seq value slice pins s σ H _ _ vv ww Q I rv rw' ?_ hs
  rcases hc with ⟨xs, d, rfl, e, h⟩ | ⟨z, c, rfl, hl, e, h⟩ | ⟨xs, d, hx, e, h⟩
  · obtain ⟨a, vs, rfl, q, r⟩ := dx
    obtain ⟨u, e2, r2⟩ := atI_dv r e
    exact .inr (.inl ⟨a, vs, i, u, rfl, rfl, q.sq, e2, k d S _ H (Go.refl so) r2 h⟩)
  · cases (show v = V.str z from dx)
    exact .inr (.inr ⟨z, i, c, rfl, rfl, hl, e, k (.str ⟨#[c]⟩) S _ H (Go.refl so) rfl h⟩)
  · obtain ⟨a, vs, rfl, q, r⟩ := hx.sq so dx
    obtain ⟨u, e2, r2⟩ := atI_dv r e
    exact .inl ⟨a, vs, i, u, rfl, rfl, q, e2, k d S _ H (Go.refl so) r2 h⟩
theorem pd_ix (ha : PD X y a te) (hb : PD X y b ti) (hs : PlainIx b := by exact fun _ _ => rfl) : PD X y (.Subscript a b pos) (rBin dIx te ti) :=
  PD.of (pe_ix id_seq ha hb hs) fun _ _ _ h => bin_of (fun _ _ _ _ z => z) h
/-- xs[i] = v -/
def dSet : RSet := fun o i v S R => match o, i with
  | .ref a, .int k => ∃ xs j, S a = some (.lst xs) ∧ ixN xs.length k = some j ∧ R (sup S a (.lst (xs.set j v)))
  | _, _ => False
theorem sd_list : PSet X (lset X.K dSet) := by
  intro pins s σ H o i v ov iv u Q I ro ri rv h
  obtain ⟨x, k, d, S, R, dx, dk, dv, so, h, c⟩ := h
  refine set_list pins s σ H o i v ov iv u Q I ro ri rv ?_
  cases x <;> cases k <;> first | exact False.elim h | skip
  case ref.int a j =>
    cases (show o = V.ref a from dx); cases (show i = V.int j from dk)
    obtain ⟨xs, m, e, hj, h⟩ := h
    obtain ⟨vs, e1, r⟩ := so a _ e
    exact ⟨a, vs, j, m, rfl, rfl, e1, by rw [← r.length]; exact hj, c _ _ (Go.setLst so e (r.set m dv)) h⟩

/-! ### slices -/
abbrev RO := Ro → Sto → (Option Int → Sto → Prop) → Prop
def lO (K : PySem.W.Frag) (y : DXw) (t : RO) : TO := fun σ H Q => ∃ ρ S R, SRv K σ H ρ ∧ SX K y H S ∧ t ρ S R ∧ ∀ i S' H', Go K H S H' S' → R i S' → Q i H'
def PDO (X : Cx) (y : DXw) (e : Option Expr) (t : RO) : Prop := PO X e (lO X.K y t)
def rNoP : RO := fun _ S Q => Q none S
def rPart (t : RE) : RO := fun ρ S Q => t ρ S fun d S1 => match d with
  | .int i => Q (some i) S1
  | _ => False
theorem pdo_none : PDO X y none rNoP := ⟨fun pins s σ H Q I h => by
  obtain ⟨ρ, S, R, sr, so, h, k⟩ := h
  exact po_none.run pins s σ H Q I (k none S H (Go.refl so.so) h)⟩
theorem pdo_some (h : PD X y e te) : PDO X y (some e) (rPart te) := ⟨fun pins s σ H Q I q => by
  refine (po_some h).run pins s σ H Q I ?_
  obtain ⟨ρ, S, R, sr, so, h, k⟩ := q
  refine ⟨ρ, S, _, sr, so, h, fun d S' v H' g dv hd => ?_⟩
  cases d with
  | int i => exact ⟨i, dv, k (some i) S' H' g hd⟩
  | _ => exact False.elim hd⟩
def cutD (xs : List D) (lo hi : Option Int) : List D := (xs.drop (HT.sIx xs.length 0 lo)).take (HT.sIx xs.length xs.length hi - HT.sIx xs.length 0 lo)
theorem cutD_dv {K : PySem.W.Frag} {H : Hp} {xs : List D} {vs : List V} (r : DVs K H xs vs) (lo hi : Option Int) : DVs K H (cutD xs lo hi) (cutV vs lo hi) := by
  unfold cutD cutV
  rw [← r.length]
  exact (r.drop _).take _
abbrev RSl := D → Option Int → Option Int → Sto → (D → Sto → Prop) → Prop
def dSl : RSl := fun d lo hi S R => match d with
  | .tup xs => R (.tup (cutD xs lo hi)) S
  | _ => ∃ xs, RdL S d xs ∧ ∀ p, S p = none → R (.ref p) (sup S p (.lst (cutD xs lo hi)))
def lsl (K : PySem.W.Frag) (q : RSl) : V → Option Int → Option Int → Hp → VK → Prop := fun v lo hi H Q => ∃ d S R, DV K H d v ∧ SOk K H S ∧ q d lo hi S R ∧ ∀ d S' z H', Go K H S H' S' → DV K H' d z → R d S' → Q z H'
theorem sd_sl : SlR X (lsl X.K dSl) := by
  have lst : ∀ {d : D} {lo hi : Option Int} {v : V} {S : Sto} {H : Hp} {R : D → Sto → Prop} {Q : VK}, SOk X.K H S → DV X.K H d v → (∃ xs, RdL S d xs ∧ ∀ p, S p = none → R (.ref p) (sup S p (.lst (cutD xs lo hi)))) → (∀ d S' z H', Go X.K H S H' S' → DV X.K H' d z → R d S' → Q z H') → rSlL X.K v lo hi H Q := fun so dv ⟨xs, hx, h⟩ k => by
    obtain ⟨a, vs, rfl, q, r⟩ := hx.sq so dv
    exact ⟨a, vs, rfl, q, fun p hp => k (.ref p) _ _ _ (Go.newLst so hp (cutD_dv r _ _)) rfl (h p (so.free hp))⟩
  intro pins s σ H x v vl vu lo hi sl Q I rx hs pl pu h
  obtain ⟨d, S, R, dv, so, h, k⟩ := h
  refine ((sl_tupA (X := X)).or (sl_list (X := X))) pins s σ H x v vl vu lo hi sl Q I rx hs pl pu ?_
  cases d with
  | tup xs =>
    obtain ⟨a, vs, rfl, q, r⟩ := dv
    have h : R (.tup (cutD xs lo hi)) S := h
    refine .inl ⟨a, vs, rfl, q.sq, fun hw => ?_, fun _ p hp => ?_⟩
    · have e : cutD xs lo hi = xs := by
        unfold cutD
        rw [r.length, hw.1, hw.2, ← r.length]
        simp
      rw [e] at h
      exact k (.tup xs) S _ H (Go.refl so) ⟨a, vs, rfl, q, r⟩ h
    · have g := Go.new (K := X.K) (o := .tup (cutV vs lo hi)) so hp
      exact k (.tup (cutD xs lo hi)) S _ _ g ⟨p, _, rfl, .inl upd_same, DVs.go g _ _ (cutD_dv r _ _)⟩ h
  | _ => exact .inr (lst so dv h k)
def rSl (te : RE) (tl th : RO) : RE := fun ρ S Q => te ρ S fun d S1 => tl ρ S1 fun l S2 => th ρ S2 fun u S3 => dSl d l u S3 Q
theorem pd_slice {lo hi : Option Expr} {tl th : RO} (he : PD X y e te) (hl : PDO X y lo tl) (hu : PDO X y hi th) : PD X y (.Subscript e (.Slice lo hi none p2) pos) (rSl te tl th) := by
  refine PD.of (pe_slice sd_sl he hl hu) fun σ H Q h => ?_
  obtain ⟨ρ, S, R, sr, so, h, k⟩ := h
  refine ⟨ρ, S, _, sr, so, h, fun d S1 v H1 g1 dv h1 => ⟨ρ, S1, _, sr.go g1, so.go g1, h1, fun l S2 H2 g2 h2 => ⟨ρ, S2, _, (sr.go g1).go g2, (so.go g1).go g2, h2, fun u S3 H3 g3 h3 => ?_⟩⟩⟩
  exact ⟨d, S3, R, DV.go (g2.trans g3) _ _ dv, g3.ok, h3, fun d S' z H' g dz hz => k d S' z H' (g1.trans (g2.trans (g3.trans g))) dz hz⟩

/-! ### methods of lists -/
abbrev RMt := D → List D → Sto → (D → Sto → Prop) → Prop
def isL : D → Sto → Prop
  | .ref a, S => ∃ xs, S a = some (.lst xs)
  | _, _ => False
def lmt (K : PySem.W.Frag) (q : RMt) : V → List V → Hp → VK → Prop := fun v vs H Q => ∃ d ds S R, DV K H d v ∧ DVs K H ds vs ∧ SOk K H S ∧ q d ds S R ∧ ∀ d S' z H', Go K H S H' S' → DV K H' d z → R d S' → Q z H'
def rBM (q : RMt) (to : RE) (ta : RA) : RE := fun ρ S Q => to ρ S fun o S1 => isL o S1 ∧ ta ρ S1 fun ds S2 => q o ds S2 Q
def rBM0 (q : RMt) (to : RE) : RE := fun ρ S Q => to ρ S fun o S1 => isL o S1 ∧ q o [] S1 Q
theorem isL_ty {K : PySem.W.Frag} {H : Hp} {S : Sto} (so : SOk K H S) {d : D} {v : V} (dv : DV K H d v) (h : isL d S) : tyV K "list" v H := by
  cases d with
  | ref a =>
    cases (show v = V.ref a from dv)
    obtain ⟨xs, e⟩ := h
    obtain ⟨vs, e1, _⟩ := so a _ e
    exact .inl ⟨rfl, vs, SqL.of e1⟩
  | _ => exact False.elim h
variable {name : Str} {id : String} {cpos : Pos}
theorem pd_lm {q : RMt} (slot : Slot "list" name id) (hty : typeOf (.builtin id) = pure (.type "method_descriptor")) (hm : MtR X id (lmt X.K q)) (ho : PD X y o to) (ha : PDA X y (e :: es) ta)
    (hbase : attributeBase o name X.env (eval o X.env) = eval o X.env := by rfl)
    (hfew : ((backTo cpos (starEach (e :: es) X.env)).all (fun x => !x.1) && (backToKw cpos (keywordEach [] X.env)).all (fun x => x.1.isSome)
      && decide ((e :: es).length + ([] : List Keyword).length + (if ([] : List Keyword).isEmpty then 0 else 1) < 30)) = true := by rfl)
    (hline : (apos.endLine == cpos.line) = true := by rfl) (hs : starEach (e :: es) X.env = (false, eval e X.env) :: starEach es X.env := by rfl) (hplain : (backTo cpos (starEach es X.env)).any (·.1) = false := by rfl) :
    PD X y (.Call (.Attribute o name apos) (e :: es) [] cpos) (rBM q to ta) :=
  PD.of (pe_bm PySem.F.plainAttrs_list slot hty hm ho ha hbase hfew hline hs hplain) fun σ H Q h => by
    obtain ⟨ρ, S, R, sr, so, h, k⟩ := h
    refine ⟨ρ, S, _, sr, so, h, fun d S1 v H1 g1 dv h1 => ⟨isL_ty g1.ok dv h1.1, ρ, S1, _, sr.go g1, so.go g1, h1.2, fun ds S2 vs H2 g2 dvs hn h2 => ?_⟩⟩
    exact ⟨d, ds, S2, R, DV.go g2 _ _ dv, dvs, g2.ok, h2, fun d S' z H' g dz hz => k d S' z H' (g1.trans (g2.trans g)) dz hz⟩
theorem pd_lm0 {q : RMt} (slot : Slot "list" name id) (hty : typeOf (.builtin id) = pure (.type "method_descriptor")) (hm : MtR X id (lmt X.K q)) (ho : PD X y o to)
    (hbase : attributeBase o name X.env (eval o X.env) = eval o X.env := by rfl) (hline : (apos.endLine == cpos.line) = true := by rfl) : PD X y (.Call (.Attribute o name apos) [] [] cpos) (rBM0 q to) :=
  PD.of (pe_bm0 PySem.F.plainAttrs_list slot hty hm ho hbase hline) fun σ H Q h => by
    obtain ⟨ρ, S, R, sr, so, h, k⟩ := h
    refine ⟨ρ, S, _, sr, so, h, fun d S1 v H1 g1 dv h1 => ⟨isL_ty g1.ok dv h1.1, ?_⟩⟩
    exact ⟨d, [], S1, R, dv, DVs.nil, g1.ok, h1.2, fun d S' z H' g dz hz => k d S' z H' (g1.trans g) dz hz⟩
def dAppend : RMt := fun o ds S R => match o, ds with
  | .ref a, [d] => ∃ xs, S a = some (.lst xs) ∧ xs.length < sizeLine ∧ R .non (sup S a (.lst (xs ++ [d])))
  | _, _ => False
theorem md_append : MtR X "list.append" (lmt X.K dAppend) := by
  intro pins s σ H v vs vv us Q I rv rs h
  obtain ⟨o, ds, S, R, dv, dvs, so, h, k⟩ := h
  refine mt_append pins s σ H v vs vv us Q I rv rs ?_
  unfold dAppend at h
  split at h
  · rename_i a d
    cases (show v = V.ref a from dv)
    obtain ⟨w, rfl, dw⟩ := dvs1 dvs
    obtain ⟨xs, e, hl, h⟩ := h
    obtain ⟨ws, e1, r⟩ := so a _ e
    exact ⟨a, ws, w, rfl, rfl, e1, by rw [← r.length]; exact hl, k .non _ _ _ (Go.setLst so e (r.append (DVs.cons dw DVs.nil))) rfl h⟩
  · exact h.elim
def dInsert : RMt := fun o ds S R => match o, ds with
  | .ref a, [.int i, d] => ∃ xs, S a = some (.lst xs) ∧ xs.length < sizeLine ∧ 0 ≤ i ∧ i < 2 ^ 63 ∧ R .non (sup S a (.lst (xs.take i.toNat ++ [d] ++ xs.drop i.toNat)))
  | _, _ => False
theorem md_insert : MtR X "list.insert" (lmt X.K dInsert) := by
  intro pins s σ H v vs vv us Q I rv rs h
  obtain ⟨o, ds, S, R, dv, dvs, so, h, k⟩ := h
  refine mt_insert pins s σ H v vs vv us Q I rv rs ?_
  unfold dInsert at h
  split at h
  · rename_i a i d
    cases (show v = V.ref a from dv)
    obtain ⟨w, w2, rfl, dw, dw2⟩ := dvs2 dvs
    cases (show w = V.int i from dw)
    obtain ⟨xs, e, hl, h0, h1, h⟩ := h
    obtain ⟨ws, e1, r⟩ := so a _ e
    exact ⟨a, ws, i, w2, rfl, rfl, e1, by rw [← r.length]; exact hl, h0, h1, k .non _ _ _ (Go.setLst so e (((r.take _).append (DVs.cons dw2 DVs.nil)).append (r.drop _))) rfl h⟩
  · exact h.elim
def dExtend : RMt := fun o ds S R => match o, ds with
  | .ref a, [.ref b] => ∃ xs zs, S a = some (.lst xs) ∧ S b = some (.lst zs) ∧ xs.length + zs.length ≤ sizeLine ∧ R .non (sup S a (.lst (xs ++ zs)))
  | _, _ => False
theorem md_extend : MtR X "list.extend" (lmt X.K dExtend) := by
  intro pins s σ H v vs vv us Q I rv rs h
  obtain ⟨o, ds, S, R, dv, dvs, so, h, k⟩ := h
  refine mt_extend pins s σ H v vs vv us Q I rv rs ?_
  unfold dExtend at h
  split at h
  · rename_i a b
    cases (show v = V.ref a from dv)
    obtain ⟨w, rfl, dw⟩ := dvs1 dvs
    cases (show w = V.ref b from dw)
    obtain ⟨xs, zs, e, e', hl, h⟩ := h
    obtain ⟨ws, e1, r⟩ := so a _ e
    obtain ⟨ws', e1', r'⟩ := so b _ e'
    exact ⟨a, b, ws, ws', rfl, rfl, e1, e1', by rw [← r.length, ← r'.length]; exact hl, k .non _ _ _ (Go.setLst so e (r.append r')) rfl h⟩
  · exact h.elim
end
end DL
set_option Elab.async false
set_option linter.all false
set_option maxRecDepth 100000
set_option maxHeartbeats 4000000
namespace DL
open PySem PySem.Spec PyProof.Rows L2
section
variable {X : Cx} {y : DXw} {pos p p2 pos' apos : Pos} {e a b o i value : Expr} {es : List Expr} {x : Str} {ta : RA} {te ti to td tv : RE}

/-! ### flat values in lists and tuples -/
def fl : D → V
  | .non => .non | .bl b => .bl b | .int i => .int i | .str x => .str x | _ => .ref 0
def fb : D → Bool
  | .non => true | .bl _ => true | .int _ => true | .str _ => true | _ => false
theorem fl_of {K : PySem.W.Frag} {H : Hp} {d : D} {v : V} (h : fb d = true) (dv : DV K H d v) : v = fl d ∧ flatV v = true := by
  cases d with
  | non => cases (show v = V.non from dv); exact ⟨rfl, rfl⟩
  | bl b => cases (show v = V.bl b from dv); exact ⟨rfl, rfl⟩
  | int b => cases (show v = V.int b from dv); exact ⟨rfl, rfl⟩
  | str b => cases (show v = V.str b from dv); exact ⟨rfl, rfl⟩
  | _ => cases h
theorem fls_of {K : PySem.W.Frag} {H : Hp} : ∀ {ds : List D} {vs : List V}, ds.all fb = true → DVs K H ds vs → vs = ds.map fl ∧ vs.all flatV = true
  | [], _, _, h => by cases (show _ = [] from h); exact ⟨rfl, rfl⟩
  | d :: ds, _, f, h => by
    obtain ⟨v, ws, rfl, r, q⟩ := h
    rw [List.all_cons, Bool.and_eq_true] at f
    obtain ⟨e1, f1⟩ := fl_of f.1 r
    obtain ⟨e2, f2⟩ := fls_of f.2 q
    exact ⟨by rw [e1, e2, List.map_cons], by rw [List.all_cons, f1, f2]; rfl⟩
def inD (x : D) (xs : List D) : Bool := inV (fl x) (xs.map fl)
def dIn (n : Bool) : ROp := fun x c S R => match c with
  | .tup xs => fb x = true ∧ xs.all fb = true ∧ R (.bl (if n then !inD x xs else inD x xs)) S
  | _ => ∃ xs, RdL S c xs ∧ fb x = true ∧ xs.all fb = true ∧ R (.bl (if n then !inD x xs else inD x xs)) S
theorem dIn_of {n : Bool} {x c : D} {S : Sto} {R : D → Sto → Prop} {H : Hp} {v w : V} {Q : VK} (so : SOk X.K H S) (dx : DV X.K H x v) (dc : DV X.K H c w) (h : dIn n x c S R) (k : ∀ d S' z H', Go X.K H S H' S' → DV X.K H' d z → R d S' → Q z H') : rIn X.K n v w H Q := by
  have fin : ∀ {a : Addr} {xs : List D} {vs : List V}, w = .ref a → (SqL X.K H a vs ∨ SqT X.K H a vs) → DVs X.K H xs vs → fb x = true → xs.all fb = true → R (.bl (if n then !inD x xs else inD x xs)) S → rIn X.K n v w H Q := fun {a xs vs} e q r f1 f2 h => by
    obtain ⟨e1, g1⟩ := fl_of f1 dx
    obtain ⟨e2, g2⟩ := fls_of f2 r
    refine ⟨a, vs, e, q, g1, g2, ?_⟩
    rw [e1, e2]
    exact k (.bl (if n then !inD x xs else inD x xs)) S _ H (Go.refl so) rfl h
  cases c with
  | tup xs =>
    obtain ⟨a, vs, e, q, r⟩ := dc
    exact fin e (.inr q.sq) r h.1 h.2.1 h.2.2
  | _ =>
    obtain ⟨xs, hx, f1, f2, h⟩ := h
    obtain ⟨a, vs, e, q, r⟩ := hx.sq so dc
    exact fin e (.inl q) r f1 f2 h
theorem od_in : OpR X (compareOp .In) (lop X.K (dIn false)) := by
  intro pins s σ H v w vv ww Q I rv rw' h
  obtain ⟨x, y, S, R, dx, dy, so, h, k⟩ := h
  exact op_in_seq pins s σ H v w vv ww Q I rv rw' (dIn_of so dx dy h k)
theorem od_notin : OpR X (compareOp .NotIn) (lop X.K (dIn true)) := by
  intro pins s σ H v w vv ww Q I rv rw' h
  obtain ⟨x, y, S, R, dx, dy, so, h, k⟩ := h
  exact op_notIn_seq pins s σ H v w vv ww Q I rv rw' (dIn_of so dx dy h k)

/-! ### dicts by ints and texts -/
def dkey : Key → D
  | .inl i => .int i
  | .inr x => .str x
def keyD : D → Option Key
  | .int i => some (.inl i)
  | .str x => some (.inr x)
  | _ => none
theorem keyD_v {K : PySem.W.Frag} {H : Hp} {d : D} {v : V} {k : Key} (h : keyD d = some k) (dv : DV K H d v) : v = kV k := by
  cases d with
  | int i => cases h; exact dv
  | str i => cases h; exact dv
  | _ => cases h
def dval (kvs : List (Key × D)) (k : Key) : Option D := (kvs.find? fun kv => decide (kv.1 = k)).map (·.2)
def dput (kvs : List (Key × D)) (k : Key) (v : D) : List (Key × D) := if kvs.any (fun kv => decide (kv.1 = k)) then kvs.map (fun kv => if kv.1 = k then (kv.1, v) else kv) else kvs ++ [(k, v)]
theorem DKs.val {K : PySem.W.Frag} {H : Hp} {ds : List (Key × D)} {vs : List (Key × V)} (h : DKs K H ds vs) (k : Key) : (dval ds k).isSome = (valV vs k).isSome ∧ ∀ d, dval ds k = some d → ∃ v, valV vs k = some v ∧ DV K H d v := by
  induction h with
  | nil => exact ⟨rfl, fun _ e => by cases e⟩
  | @cons k' d v ds vs r _ ih =>
    by_cases e : k' = k
    · subst e
      refine ⟨by simp [dval, valV, List.find?_cons], fun d' h => ⟨v, by simp [valV, List.find?_cons], ?_⟩⟩
      have : d = d' := by simpa [dval, List.find?_cons] using h
      rw [← this]; exact r
    · have e1 : dval ((k', d) :: ds) k = dval ds k := by simp [dval, List.find?_cons, e]
      have e2 : valV ((k', v) :: vs) k = valV vs k := valV_neg e
      rw [e1, e2]
      exact ih
theorem DKs.any {K : PySem.W.Frag} {H : Hp} {ds : List (Key × D)} {vs : List (Key × V)} (h : DKs K H ds vs) (k : Key) : (ds.any fun kv => decide (kv.1 = k)) = vs.any fun kv => decide (kv.1 = k) := by
  induction h with
  | nil => rfl
  | cons _ _ ih => rw [List.any_cons, List.any_cons, ih]
theorem DKs.append {K : PySem.W.Frag} {H : Hp} {ds : List (Key × D)} {vs : List (Key × V)} (h : DKs K H ds vs) {k : Key} {d : D} {v : V} (r : DV K H d v) : DKs K H (ds ++ [(k, d)]) (vs ++ [(k, v)]) := by
  induction h with
  | nil => exact .cons r .nil
  | cons q _ ih => exact .cons q ih
theorem DKs.put {K : PySem.W.Frag} {H : Hp} {ds : List (Key × D)} {vs : List (Key × V)} (h : DKs K H ds vs) (k : Key) {d : D} {v : V} (r : DV K H d v) : DKs K H (dput ds k d) (putK vs k v) := by
  have m : DKs K H (ds.map fun kv => if kv.1 = k then (kv.1, d) else kv) (vs.map fun kv => if kv.1 = k then (kv.1, v) else kv) := by
    induction h with
    | nil => exact .nil
    | @cons k' d' v' ds vs q _ ih =>
      rw [List.map_cons, List.map_cons]
      by_cases e : k' = k
      · rw [if_pos e, if_pos e]; exact .cons r ih
      · rw [if_neg e, if_neg e]; exact .cons q ih
  unfold dput putK
  rw [h.any k]
  split
  · exact m
  · exact h.append r
def rDNew : RE := fun _ S Q => ∀ p, S p = none → Q (.ref p) (sup S p (.dK []))
theorem pd_dnew : PD X y (.Dict [] [] pos) rDNew := by
  refine PD.of pe_dnewK fun σ H Q h => ?_
  obtain ⟨ρ, S, R, sr, so, h, k⟩ := h
  intro p hp
  exact k (.ref p) _ _ _ (Go.newDK so.so hp .nil) rfl (h p (so.so.free hp))
def isD (S : Sto) (o k : D) (f : Addr → List (Key × D) → Key → Prop) : Prop := match o with
  | .ref a => ∃ kvs key, S a = some (.dK kvs) ∧ keyD k = some key ∧ f a kvs key
  | _ => False
def rDGet (td ti : RE) : RE := fun ρ S Q => td ρ S fun o S1 => ti ρ S1 fun k S2 => isD S2 o k fun _ kvs key => ∃ d, dval kvs key = some d ∧ Q d S2
def rDIn (n : Bool) (ti td : RE) : RE := fun ρ S Q => ti ρ S fun k S1 => td ρ S1 fun o S2 => isD S2 o k fun _ kvs key => Q (.bl (if n then !(dval kvs key).isSome else (dval kvs key).isSome)) S2
theorem isD_of {K : PySem.W.Frag} {S : Sto} {H : Hp} {o k : D} {v w : V} {f : Addr → List (Key × D) → Key → Prop} (so : SOk K H S) (dv : DV K H o v) (dw : DV K H k w) (h : isD S o k f) : ∃ a kvs vs key, v = .ref a ∧ S a = some (.dK kvs) ∧ H a = some (.dK vs) ∧ DKs K H kvs vs ∧ w = kV key ∧ f a kvs key := by
  cases o with
  | ref a =>
    obtain ⟨kvs, key, e, ek, h⟩ := h
    obtain ⟨vs, e1, r⟩ := so a _ e
    exact ⟨a, kvs, vs, key, dv, e, e1, r, keyD_v ek dw, h⟩
  | _ => exact False.elim h
theorem pd_dget (hu : X.A.units + 1 < cLine) (ho : PD X y o td) (hi : PD X y i ti) (hs : NoSl i := by exact fun _ _ => rfl) : PD X y (.Subscript o i pos) (rDGet td ti) := by
  refine PD.of (pe_dget hu ho hi hs) fun σ H Q h => ?_
  obtain ⟨ρ, S, R, sr, so, h, k⟩ := h
  refine ⟨ρ, S, _, sr, so, h, fun x S1 v H1 g1 dv h1 => ⟨ρ, S1, _, sr.go g1, so.go g1, h1, fun z S2 w H2 g2 dw h2 => ?_⟩⟩
  obtain ⟨a, kvs, vs, key, rfl, _, e1, r, rfl, d, hd, h3⟩ := isD_of g2.ok (DV.go g2 _ _ dv) dw h2
  obtain ⟨u, hu, ru⟩ := (r.val key).2 d hd
  exact ⟨a, u, rfl, hu ▸ DGet.k e1, k d S2 u H2 (g1.trans g2) ru h3⟩
theorem din_read {n : Bool} {σ : L2.St} {H : Hp} {Q : VK} (h : lE X.K y (rDIn n ti td) σ H Q) : lE X.K y ti σ H fun w H1 => lE X.K y td σ H1 fun v H2 => ∃ a o, v = .ref a ∧ DGet H2 a w o ∧ Q (.bl (if n then !o.isSome else o.isSome)) H2 := by
  obtain ⟨ρ, S, R, sr, so, h, k⟩ := h
  refine ⟨ρ, S, _, sr, so, h, fun z S1 w H1 g1 dw h1 => ⟨ρ, S1, _, sr.go g1, so.go g1, h1, fun x S2 v H2 g2 dv h2 => ?_⟩⟩
  obtain ⟨a, kvs, vs, key, rfl, _, e1, r, rfl, h3⟩ := isD_of g2.ok dv (DV.go g2 _ _ dw) h2
  refine ⟨a, _, rfl, DGet.k e1, ?_⟩
  rw [← (r.val key).1]
  exact k (.bl (if n then !(dval kvs key).isSome else (dval kvs key).isSome)) S2 _ H2 (g1.trans g2) rfl h3
theorem pd_din (hu : X.A.units + 1 < cLine) (hi : PD X y i ti) (ho : PD X y o td) (hb : behindInMarks .In o = false := by rfl) : PD X y (.Compare i [.In] [o] pos) (rDIn false ti td) := PD.of (pe_cmp (pc_din hu hi ho) hb) fun _ _ _ h => din_read (n := false) h
theorem pd_dnotin (hu : X.A.units + 1 < cLine) (hi : PD X y i ti) (ho : PD X y o td) (hb : behindInMarks .NotIn o = false := by rfl) : PD X y (.Compare i [.NotIn] [o] pos) (rDIn true ti td) := PD.of (pe_cmp (pc_dnotin hu hi ho) hb) fun _ _ _ h => din_read (n := true) h
theorem pdt_din (hu : X.A.units + 1 < cLine) (hi : PD X y i ti) (ho : PD X y o td) (hb : behindInMarks .In o = false := by rfl) : PDT X y (.Compare i [.In] [o] pos) (rTst (rDIn false ti td)) := PDT.of (pt_cmp (pc_din hu hi ho) hb) fun _ _ _ h => tst_of (fun _ _ _ h => din_read (n := false) h) h
theorem pdt_dnotin (hu : X.A.units + 1 < cLine) (hi : PD X y i ti) (ho : PD X y o td) (hb : behindInMarks .NotIn o = false := by rfl) : PDT X y (.Compare i [.NotIn] [o] pos) (rTst (rDIn true ti td)) := PDT.of (pt_cmp (pc_dnotin hu hi ho) hb) fun _ _ _ h => tst_of (fun _ _ _ h => din_read (n := true) h) h
def rDPut (td ti tv : RE) : RS := fun E ρ S => tv ρ S fun d S1 => td ρ S1 fun o S2 => ti ρ S2 fun k S3 => isD S3 o k fun a kvs key => kvs.length < sizeLine ∧ E.nx ρ (sup S3 a (.dK (dput kvs key d)))
theorem pd_dput (hu : X.A.units + 1 < cLine) (ho : PD X y o td) (hi : PD X y i ti) (hv : PD X y value tv) (hs : swapsWith value (some (.Subscript o i pos')) pos.line X.env = pure false := by rfl) : PDS X y (.Assign [.Subscript o i pos'] value pos) (rDPut td ti tv) := by
  refine PDS.of (ps_dput hu ho hi hv hs) fun D σ H h => ?_
  obtain ⟨ρ, S, E, sr, so, h, eo⟩ := h
  refine ⟨ρ, S, _, sr, so, h, fun d S1 u H1 g1 du h1 => ⟨ρ, S1, _, sr.go g1, so.go g1, h1, fun x S2 v H2 g2 dv h2 => ⟨ρ, S2, _, (sr.go g1).go g2, (so.go g1).go g2, h2, fun z S3 w H3 g3 dw h3 => ?_⟩⟩⟩
  obtain ⟨a, kvs, vs, key, rfl, e0, e1, r, rfl, hl, h4⟩ := isD_of g3.ok (DV.go g3 _ _ dv) dw h3
  have gA := g1.trans (g2.trans g3)
  have g4 := Go.setDK g3.ok e0 (r.put key (DV.go (g2.trans g3) _ _ du))
  exact ⟨a, _, rfl, DPut.k e1 (by rw [← r.length]; exact hl), eo.nx ρ _ σ _ (gA.trans g4) ((sr.go gA).go g4) h4⟩

/-! ### tuple(range(..)) -/
def rRgT (ta : RA) : RE := fun ρ S Q => ta ρ S fun ds S1 => match ds with
  | [.int j] => j ≤ 16777216 ∧ Q (.tup (rgI 0 j.toNat)) S1
  | [.int i, .int j] => (0 ≤ i ∧ i ≤ 16777216 ∧ 0 ≤ j ∧ j ≤ 16777216) ∧ Q (.tup (rgI i (j - i).toNat)) S1
  | _ => False
theorem rgI_dv {K : PySem.W.Frag} {H : Hp} {i j : Int} : DVs K H (rgI i (j - i).toNat) (rgV i j) := by
  unfold rgI rgV
  generalize (List.range (j - i).toNat) = l
  induction l with
  | nil => exact DVs.nil
  | cons a l ih => exact DVs.cons rfl ih
theorem pd_tupRg1 {ti : RE} {p q : Pos} (hc : X.calm = true) (hm : X.mg "tuple" = none) (hm2 : X.mg "range" = none) (hi : PD X y a ti) (hg : Gl X "tuple" := by rfl) (hg2 : Gl X "range" := by rfl) (na : starEach [.Call (.Name "range" q) [a] [] p2] X.env = (false, eval (.Call (.Name "range" q) [a] [] p2) X.env) :: starEach [] X.env := by rfl)
    (nb : starEach [a] X.env = (false, eval a X.env) :: starEach [] X.env := by rfl) : PD X y (.Call (.Name "tuple" p) [.Call (.Name "range" q) [a] [] p2] [] pos) (fun ρ S Q => ti ρ S fun d S1 => match d with | .int j => (0 ≤ j ∧ j ≤ 16777216) ∧ Q (.tup (rgI 0 j.toNat)) S1 | _ => False) := by
  refine PD.of (pe_tupRg hc hg hm (prg_1 hg2 hm2 hi nb) na) fun σ H Q h => ?_
  obtain ⟨ρ, S, R, sr, so, h, k⟩ := h
  refine ⟨ρ, S, _, sr, so, h, fun d S1 v H1 g dv hd => ?_⟩
  cases d with
  | int j =>
    refine ⟨j, dv, RgOk.of_le (by omega) hd.1.2 (by omega) hd.1.1, fun q hq => ?_⟩
    have g2 := Go.new (K := X.K) (o := .tup (rgV 0 j)) g.ok hq
    have e : (j - 0).toNat = j.toNat := by omega
    exact k (.tup (rgI 0 j.toNat)) S1 _ _ (g.trans g2) ⟨q, _, rfl, .inl upd_same, e ▸ rgI_dv⟩ hd.2
  | _ => exact False.elim hd
theorem pd_tupRg2 {ti tj : RE} {p q : Pos} (hc : X.calm = true) (hm : X.mg "tuple" = none) (hm2 : X.mg "range" = none) (hi : PD X y a ti) (hj : PD X y b tj) (hg : Gl X "tuple" := by rfl) (hg2 : Gl X "range" := by rfl) (na : starEach [.Call (.Name "range" q) [a, b] [] p2] X.env = (false, eval (.Call (.Name "range" q) [a, b] [] p2) X.env) :: starEach [] X.env := by rfl)
    (nb : starEach [a, b] X.env = (false, eval a X.env) :: starEach [b] X.env := by rfl) (nc : starEach [b] X.env = (false, eval b X.env) :: starEach [] X.env := by rfl) (hp : (backTo p2 (starEach [b] X.env)).any (·.1) = false := by rfl) : PD X y (.Call (.Name "tuple" p) [.Call (.Name "range" q) [a, b] [] p2] [] pos)
      (fun ρ S Q => ti ρ S fun d S1 => tj ρ S1 fun f S2 => match d, f with | .int i, .int j => (0 ≤ i ∧ i ≤ 16777216 ∧ 0 ≤ j ∧ j ≤ 16777216) ∧ Q (.tup (rgI i (j - i).toNat)) S2 | _, _ => False) := by
  refine PD.of (pe_tupRg hc hg hm (prg_2 hg2 hm2 hi hj nb nc hp) na) fun σ H Q h => ?_
  obtain ⟨ρ, S, R, sr, so, h, k⟩ := h
  refine ⟨ρ, S, _, sr, so, h, fun d S1 v H1 g1 dv hd => ⟨ρ, S1, _, sr.go g1, so.go g1, hd, fun f S2 w H2 g2 dw hf => ?_⟩⟩
  cases d <;> cases f <;> first | exact False.elim hf | skip
  case int.int i j =>
    cases (show v = V.int i from dv); cases (show w = V.int j from dw)
    refine ⟨i, j, rfl, rfl, RgOk.of_le hf.1.1 hf.1.2.2.2 hf.1.2.1 hf.1.2.2.1, fun q hq => ?_⟩
    have g3 := Go.new (K := X.K) (o := .tup (rgV i j)) g2.ok hq
    exact k (.tup (rgI i (j - i).toNat)) S2 _ _ (g1.trans (g2.trans g3)) ⟨q, _, rfl, .inl upd_same, rgI_dv⟩ hf.2
/-! ### x.bit_length(), factorial, comb -/
def rBits (te : RE) : RE := fun ρ S Q => te ρ S fun d S1 => match d with
  | .int i => Q (.int (Builtin.Int.intBits i : Nat)) S1
  | _ => False
theorem pd_bits (ho : PD X y o te) (hbase : attributeBase o "bit_length" X.env (eval o X.env) = eval o X.env := by rfl) (hline : (apos.endLine == pos.line) = true := by rfl) : PD X y (.Call (.Attribute o "bit_length" apos) [] [] pos) (rBits te) := by
  refine PD.of (pe_bits ho hbase hline) fun σ H Q h => ?_
  obtain ⟨ρ, S, R, sr, so, h, k⟩ := h
  refine ⟨ρ, S, _, sr, so, h, fun d S1 v H1 g dv hd => ?_⟩
  cases d with
  | int i => exact ⟨i, dv, k (.int (Builtin.Int.intBits i : Nat)) S1 _ H1 g rfl hd⟩
  | _ => exact False.elim hd
def dFact : RCall := fun ds S Q => match ds with
  | [.int i] => (0 ≤ i ∧ i ≤ 20000) ∧ Q (.int ((Builtin.Math.factorialNat i.toNat : Nat) : Int)) S
  | _ => False
theorem cd_factorial : CallR X (.builtin "math.factorial") (lcl X.K dFact) := by
  intro pins s σ H vs us Q I rv h
  obtain ⟨ds, S, R, dv, so, h, k⟩ := h
  unfold dFact at h
  split at h
  · rename_i i
    obtain ⟨v, rfl, r⟩ := dvs1 dv
    cases (show v = V.int i from r)
    obtain ⟨u, rfl, t, rfl⟩ := vals1 rv
    exact PySem.W.mc_factorial h.1.1 h.1.2 fun _ => ⟨.int _, H, I.tok _, ⟨_, rfl⟩, k (.int _) S _ H (Go.refl so) rfl h.2⟩
  · exact h.elim
def dComb : RCall := fun ds S Q => match ds with
  | [.int i, .int j] => (0 ≤ i ∧ 0 ≤ j ∧ i ≤ 9000) ∧ Q (.int (PySem.W.mcComb i j)) S
  | _ => False
theorem cd_comb : CallR X (.builtin "math.comb") (lcl X.K dComb) := by
  intro pins s σ H vs us Q I rv h
  obtain ⟨ds, S, R, dv, so, h, k⟩ := h
  unfold dComb at h
  split at h
  · rename_i i j
    obtain ⟨v, w, rfl, r1, r2⟩ := dvs2 dv
    cases (show v = V.int i from r1)
    cases (show w = V.int j from r2)
    obtain ⟨u, u', rfl, ⟨t, rfl⟩, ⟨t', rfl⟩⟩ := vals2 rv
    exact PySem.W.mc_comb h.1.1 h.1.2.1 (by have := h.1.2.2; omega) (.inr (by have := h.1.2.2; omega)) fun _ => ⟨.int _, H, I.tok _, ⟨_, rfl⟩, k (.int _) S _ H (Go.refl so) rfl h.2⟩
  · exact h.elim

/-! ### calls with keywords -/
def rCallK (y : DXw) (spec : DSp) (gD : List D → List D → List D) (ta tk : RA) : RE := fun ρ S Q => ta ρ S fun ds S1 => tk ρ S1 fun zs S2 => spec (gD ds zs) S2 Q fun C d S' => y.d C d ρ S'
structure KBD (K : PySem.W.Frag) (fd : FuncData) (ps ks : List Str) (g : List Value → List Value → List Value) (gD : List D → List D → List D) : Prop where
  to : ∀ (s : Shared) (us ws : List Value), K.In s.heap → (g us ws).length = ps.length → BindsTo s fd ⟨us, ks.zip ws⟩ (ps.zip (g us ws))
  rel : ∀ {H : Hp} {ds zs : List D} {vs ws : List V} {us xs : List Value}, DVs K H ds vs → DVs K H zs ws → Vals vs us → Vals ws xs → ∃ qs, DVs K H (gD ds zs) qs ∧ Vals qs (g us xs)
variable {k : Nat} {f : Addr} {fd : FuncData} {ps ks : List Str} {spec : DSp} {kws : List Keyword} {g : List Value → List Value → List Value} {gD : List D → List D → List D}
theorem run_K {pins : List (Addr × Obj)} {σ : L2.St} {H : Hp} {s : Shared} {Q : VK} {us ws : List Value} {qs : List V} (tk : Takes X y.W) (G : FnOk X.prog X.w X.K X.mg X.base (L2.CX X.prog X.w) k f fd ps (toSp X.K spec)) (hr : Room k X.A) (hb : KBD X.K fd ps ks g gD)
    (I : Inv X pins σ H s) (r : Vals qs (g us ws)) (h : toSp X.K spec qs H Q (WE y.W σ)) : wpAny (model X.prog X.w) X.A (call (.ref f) us (ks.zip ws)) (EP X pins σ Q) X.xe s := by
  have hl : (g us ws).length = ps.length := by rw [← r.length]; exact G.len _ _ _ _ h
  refine wpAny_call (codeAny_mono (G.run X.A X.stack s H ⟨us, ks.zip ws⟩ (g us ws) qs Q _ hr I.env0 (hb.to s us ws I.kIn hl) r h) fun r s' hq => ?_)
  cases r with
  | error e => exact passAt tk σ pins H s e s' I hq
  | ok fl =>
    cases fl with
    | ret u => exact I.after hq
    | next => exact False.elim hq
    | brk => exact False.elim hq
    | cont => exact False.elim hq
theorem pd_callK0 {tkk : RA} {n : Nat} (tk : Takes X y.W) (G : FnOk X.prog X.w X.K X.mg X.base (L2.CX X.prog X.w) k f fd ps (toSp X.K spec)) (hr : Room k X.A) (hm : X.mg x = some (.ref f)) (hk : PySem.W.keepIn X.K (.ref f) = true) (hb : KBD X.K fd ps ks g gD) (hkw : RdK X y kws n tkk)
    (hg : Gl X x := by rfl) (hall : (backToKw pos (keywordEach kws X.env)).all (·.1.isSome) = true := by rfl) (hks : (backToKw pos (keywordEach kws X.env)).filterMap (·.1) = ks := by rfl)
    (hdb : (x == ("__debug__" : Str)) = false := by decide) (hpl : ((backTo pos (starEach [] X.env)).any (·.1) || (backToKw pos (keywordEach kws X.env)).any (·.1.isNone)) = false := by rfl) :
    PD X y (.Call (.Name x p) [] kws pos) (rCallK y spec gD rNil tkk) := by
  refine ⟨fun pins s σ H Q I h => ?_⟩
  obtain ⟨ρ, S, R, sr, so, h, c⟩ := h
  refine wpAny_Call_Name_kw (ld_glob I hg hm ?_ hdb)
  refine PySem.W.callWith_KW0 (h₀ := X.base) I.ok.mod.kin hk hall ?_ hpl
  have hkr := hkw.run pos pins s σ H (fun vs H1 => ∃ zs S1, Go X.K H S H1 S1 ∧ DVs X.K H1 zs vs ∧ spec (gD [] zs) S1 R fun C d S' => y.d C d ρ S') I ⟨ρ, S, _, sr, so, h, fun zs S1 vs H1 g1 dvs _ h1 => ⟨zs, S1, g1, dvs, h1⟩⟩
  refine thn hkr fun ws s2 ⟨vs, H2, I2, rz, zs, S2, g2, dvs, h2⟩ => ⟨I2.kIn, ?_⟩
  rw [hks]
  obtain ⟨qs, hq1, hq2⟩ := hb.rel (H := H2) (ds := []) (vs := []) (us := []) DVs.nil dvs .nil rz
  exact run_K tk G hr hb I2 hq2 ⟨gD [] zs, S2, R, _, hq1, g2.ok, h2, fun d S3 v H3 g3 dv q => c d S3 v H3 (g2.trans g3) dv q, fun C d S3 dx w H3 g3 e dw q => (so.go g2).xo C d ρ S3 dx w σ H3 g3 (sr.go (g2.trans g3)) e dw q⟩
theorem pd_callK {tkk : RA} {n : Nat} (tk : Takes X y.W) (G : FnOk X.prog X.w X.K X.mg X.base (L2.CX X.prog X.w) k f fd ps (toSp X.K spec)) (hr : Room k X.A) (hm : X.mg x = some (.ref f)) (hk : PySem.W.keepIn X.K (.ref f) = true) (hb : KBD X.K fd ps ks g gD) (ha : PDA X y (e :: es) ta) (hkw : RdK X y kws n tkk)
    (hg : Gl X x := by rfl) (hall : (backToKw pos (keywordEach kws X.env)).all (·.1.isSome) = true := by rfl) (hks : (backToKw pos (keywordEach kws X.env)).filterMap (·.1) = ks := by rfl)
    (hdb : (x == ("__debug__" : Str)) = false := by decide) (he : starEach (e :: es) X.env = (false, eval e X.env) :: starEach es X.env := by rfl) (hpl : ((backTo pos (starEach (e :: es) X.env)).any (·.1) || (backToKw pos (keywordEach kws X.env)).any (·.1.isNone)) = false := by rfl) :
    PD X y (.Call (.Name x p) (e :: es) kws pos) (rCallK y spec gD ta tkk) := by
  refine ⟨fun pins s σ H Q I h => ?_⟩
  obtain ⟨ρ, S, R, sr, so, h, c⟩ := h
  refine wpAny_Call_Name_kw (ld_glob I hg hm ?_ hdb)
  have har := ha.run pos pins s σ H (fun vs H1 => ∃ ds S1, Go X.K H S H1 S1 ∧ DVs X.K H1 ds vs ∧ tkk ρ S1 fun zs S2 => spec (gD ds zs) S2 R fun C d S' => y.d C d ρ S') I ⟨ρ, S, _, sr, so, h, fun ds S1 vs H1 g1 dvs _ h1 => ⟨ds, S1, g1, dvs, h1⟩⟩
  refine PySem.W.callWith_KW (h₀ := X.base) I.ok.mod.kin hk hall (thn har fun us s1 ⟨vs, H1, I1, r, ds, S1, g1, dv1, h1⟩ => ?_) hpl he
  have hkr := hkw.run pos pins s1 σ H1 (fun vs H2 => ∃ zs S2, Go X.K H1 S1 H2 S2 ∧ DVs X.K H2 zs vs ∧ spec (gD ds zs) S2 R fun C d S' => y.d C d ρ S') I1 ⟨ρ, S1, _, sr.go g1, so.go g1, h1, fun zs S2 vs H2 g2 dvs _ h2 => ⟨zs, S2, g2, dvs, h2⟩⟩
  refine thn hkr fun ws s2 ⟨ws', H2, I2, rz, zs, S2, g2, dv2, h2⟩ => ⟨I2.kIn, ?_⟩
  rw [hks]
  obtain ⟨qs, hq1, hq2⟩ := hb.rel (H := H2) (DVs.go g2 _ _ dv1) dv2 r rz
  have gA := g1.trans g2
  exact run_K tk G hr hb I2 hq2 ⟨gD ds zs, S2, R, _, hq1, gA.ok, h2, fun d S3 v H3 g3 dv q => c d S3 v H3 (gA.trans g3) dv q, fun C d S3 dx w H3 g3 e dw q => (so.go gA).xo C d ρ S3 dx w σ H3 g3 (sr.go (gA.trans g3)) e dw q⟩
end
end DL
set_option Elab.async false
set_option linter.all false
set_option maxRecDepth 100000
set_option maxHeartbeats 4000000
namespace DL
open PySem PySem.Spec PyProof.Rows L2
/-! ### fractions -/
def fr (q : Rat) : D := .tup [.int q.num, .int (q.den : Int)]
theorem low_num {t b : Int} (hb : 0 < b) : t / ((Nat.gcd t.natAbs b.natAbs : Nat) : Int) = ((t : Rat) / (b : Rat)).num := by
  rw [← Rat.divInt_eq_div, Rat.num_divInt, Int.sign_eq_one_of_pos hb, Int.one_mul, Int.gcd, Nat.gcd_comm]
theorem low_den {t b : Int} (hb : 0 < b) : b / ((Nat.gcd t.natAbs b.natAbs : Nat) : Int) = (((t : Rat) / (b : Rat)).den : Int) := by
  rw [← Rat.divInt_eq_div, Rat.den_divInt, if_neg (by omega), Int.gcd, Nat.gcd_comm]
  have : (b.natAbs : Int) = b := by omega
  rw [Int.natCast_ediv, this]
theorem low_fr {t b : Int} (hb : 0 < b) : D.tup [.int (t / ((Nat.gcd t.natAbs b.natAbs : Nat) : Int)), .int (b / ((Nat.gcd t.natAbs b.natAbs : Nat) : Int))] = fr ((t : Rat) / (b : Rat)) := by
  unfold fr
  rw [← low_num hb, ← low_den hb]
theorem den_pos' (q : Rat) : (0 : Int) < (q.den : Int) := by have := q.den_pos; omega
theorem num_div_den' (q : Rat) : ((q.num : Int) : Rat) / ((q.den : Int) : Rat) = q := by
  rw [← Rat.divInt_eq_div]; exact Rat.num_divInt_den q
theorem mul_fr (a b : Rat) : (((a.num * b.num : Int) : Rat) / (((a.den : Int) * (b.den : Int) : Int) : Rat)) = a * b := by
  have ha := num_div_den' a
  have hb := num_div_den' b
  have da : ((a.den : Int) : Rat) ≠ 0 := by have := a.den_nz; simpa using this
  have db : ((b.den : Int) : Rat) ≠ 0 := by have := b.den_nz; simpa using this
  rw [Rat.intCast_mul, Rat.intCast_mul]
  generalize ((a.num : Int) : Rat) = x at *
  generalize ((b.num : Int) : Rat) = y at *
  generalize ((a.den : Int) : Rat) = u at *
  generalize ((b.den : Int) : Rat) = v at *
  subst ha hb
  grind
theorem add_fr (a b : Rat) : (((a.num * (b.den : Int) + b.num * (a.den : Int) : Int) : Rat) / (((a.den : Int) * (b.den : Int) : Int) : Rat)) = a + b := by
  have ha := num_div_den' a
  have hb := num_div_den' b
  have da : ((a.den : Int) : Rat) ≠ 0 := by have := a.den_nz; simpa using this
  have db : ((b.den : Int) : Rat) ≠ 0 := by have := b.den_nz; simpa using this
  rw [Rat.intCast_add, Rat.intCast_mul, Rat.intCast_mul, Rat.intCast_mul]
  generalize ((a.num : Int) : Rat) = x at *
  generalize ((b.num : Int) : Rat) = y at *
  generalize ((a.den : Int) : Rat) = u at *
  generalize ((b.den : Int) : Rat) = v at *
  subst ha hb
  grind
/-! ### sizes -/
theorem gcd_w {t b : Int} (hb : 0 < b) {n : Nat} (h : b.natAbs < 2 ^ n) (h0 : 0 < n) (h9 : n ≤ 9000) (z : Int) : CDivW z ((Nat.gcd t.natAbs b.natAbs : Nat) : Int) := by
  have h1 : 0 < Nat.gcd t.natAbs b.natAbs := Nat.gcd_pos_of_pos_right _ (by omega)
  have h2 : Nat.gcd t.natAbs b.natAbs ≤ b.natAbs := Nat.gcd_le_right _ (by omega)
  exact wide_div (b := n) (by omega) (by rw [Int.natAbs_natCast]; omega) h0 h9
theorem small_r {i j : Int} (h1 : -(2 ^ 64) < j) (h2 : j < 2 ^ 64) : CMulW i j ∨ CMul i j := .inr (.inr ⟨h1, h2⟩)
theorem small_l {i j : Int} (h1 : -(2 ^ 64) < i) (h2 : i < 2 ^ 64) : CMulW i j ∨ CMul i j := .inr (.inl ⟨h1, h2⟩)
theorem div_s {i j : Int} (h : 0 < j) (hb : j < 2 ^ 8000) : CDivW i j := wide_div (b := 8000) h (by omega) (by decide) (by decide)
end DL
set_option Elab.async false
set_option linter.all false
set_option maxRecDepth 100000
set_option maxHeartbeats 4000000
namespace DL
open PySem PySem.Spec PyProof.Rows L2
/-! ### loops -/
theorem for_rg {lo : Int} {n : Nat} {g : RG} {tb : RS} {E : DEnds} {ρ : Ro} {S : Sto} (W : Nat → Ro → Sto → Prop) (h0 : W 0 ρ S)
    (hs : ∀ (i : Nat) ρ' S', i < n → W i ρ' S' → g (.int (lo + (i : Int))) ρ' S' fun ρ2 S2 => tb { E with nx := W (i + 1), ct := W (i + 1), bk := E.nx } ρ2 S2) (hd : ∀ ρ' S', W n ρ' S' → E.nx ρ' S') :
    ∃ W : Nat → Ro → Sto → Prop, W 0 ρ S ∧ ∀ i ρ' S', W i ρ' S' → (fun (_ : Sto) => True) S' ∧
      (∀ x, (rgI lo n)[i]? = some x → g x ρ' S' fun ρ2 S2 => tb { E with nx := W (i + 1), ct := W (i + 1), bk := E.nx } ρ2 S2) ∧ (i = (rgI lo n).length → E.nx ρ' S') := by
  refine ⟨W, h0, fun i ρ' S' h => ⟨trivial, fun x hx => ?_, fun e => ?_⟩⟩
  · obtain ⟨hi, rfl⟩ := rgI_inv hx
    exact hs i ρ' S' hi h
  · rw [rgI_len] at e
    subst e
    exact hd ρ' S' h
theorem for_xs {xs : List D} {src : Sto → Prop} {g : RG} {tb : RS} {E : DEnds} {ρ : Ro} {S : Sto} (W : Nat → Ro → Sto → Prop) (h0 : W 0 ρ S) (hq : ∀ i ρ' S', W i ρ' S' → src S')
    (hs : ∀ (i : Nat) x ρ' S', xs[i]? = some x → W i ρ' S' → g x ρ' S' fun ρ2 S2 => tb { E with nx := W (i + 1), ct := W (i + 1), bk := E.nx } ρ2 S2) (hd : ∀ ρ' S', W xs.length ρ' S' → E.nx ρ' S') :
    ∃ W : Nat → Ro → Sto → Prop, W 0 ρ S ∧ ∀ i ρ' S', W i ρ' S' → src S' ∧
      (∀ x, xs[i]? = some x → g x ρ' S' fun ρ2 S2 => tb { E with nx := W (i + 1), ct := W (i + 1), bk := E.nx } ρ2 S2) ∧ (i = xs.length → E.nx ρ' S') :=
  ⟨W, h0, fun i ρ' S' h => ⟨hq i ρ' S' h, fun x hx => hs i x ρ' S' hx h, fun e => by subst e; exact hd ρ' S' h⟩⟩
/-- a comprehension whose elements are values f i x, the store but growing -/
def Ext (S S' : Sto) : Prop := ∀ a c, S a = some c → S' a = some c
theorem Ext.refl (S : Sto) : Ext S S := fun _ _ h => h
theorem Ext.trans {S S1 S2 : Sto} (a : Ext S S1) (b : Ext S1 S2) : Ext S S2 := fun c o h => b c o (a c o h)
theorem Ext.new {S : Sto} {p : Addr} (h : S p = none) (c : Cell) : Ext S (sup S p c) := fun a o e => by
  rw [sup_ne (fun z => ?_)]
  · exact e
  · subst z; rw [h] at e; cases e
theorem Ext.free {S S' : Sto} (e : Ext S S') {p : Addr} (h : S' p = none) : S p = none := by
  cases q : S p with
  | none => rfl
  | some o => rw [e p o q] at h; cases h
theorem Ext.rd {S S' : Sto} (e : Ext S S') {d : D} {xs : List D} (h : RdL S d xs) : RdL S' d xs := by
  rcases h with ⟨a, rfl, h⟩ | rfl
  · exact .inl ⟨a, rfl, e _ _ h⟩
  · exact .inr rfl
mutual
theorem Pat.imp : ∀ (p : Pat) (d : D) (ρ : Ro) (k k' : Ro → Prop), (∀ ρ', k ρ' → k' ρ') → Pat.put p d ρ k → Pat.put p d ρ k'
  | .n i, d, ρ, k, k', m, h => m _ h
  | .t ps, d, ρ, k, k', m, h => by
    cases d with
    | tup xs => exact Pat.imps ps xs ρ k k' m h
    | _ => exact False.elim h
theorem Pat.imps : ∀ (ps : List Pat) (ds : List D) (ρ : Ro) (k k' : Ro → Prop), (∀ ρ', k ρ' → k' ρ') → Pat.puts ps ds ρ k → Pat.puts ps ds ρ k'
  | [], ds, ρ, k, k', m, h => by
    cases ds with
    | nil => exact m _ h
    | cons _ _ => exact False.elim h
  | p :: ps, ds, ρ, k, k', m, h => by
    cases ds with
    | nil => exact False.elim h
    | cons d ds => exact Pat.imp p d ρ _ _ (fun ρ' h => Pat.imps ps ds ρ' k k' m h) h
end
def WM (n : Nat) (f : Nat → D) (S : Sto) : Nat → List D → Sto → Prop := fun i acc S' => i ≤ n ∧ acc = (List.range i).map f ∧ Ext S S'
theorem lc_rgm {lo : Int} {n : Nat} {p : Pat} {tt : RT} {te : RE} {vs : List Nat} {ρ : Ro} {S : Sto} {G : Addr → Sto → List D → Prop} (f : Nat → D)
    (hs : ∀ (i : Nat) acc S', i < n → WM n f S i acc S' → Pat.put p (.int (lo + (i : Int))) (dwipe ρ vs) fun ρ2 => tt ρ2 S' fun b S3 => IFB b (te ρ2 S3 fun d S4 => acc.length < sizeLine ∧ WM n f S (i + 1) (acc ++ [d]) S4) (WM n f S (i + 1) acc S3))
    (hd : ∀ S' q, Ext S S' → S' q = none → G q S' ((List.range n).map f)) :
    ∃ W : Nat → List D → Sto → Prop, W 0 [] S ∧ ∀ i acc S', W i acc S' → (fun (_ : Sto) => True) S' ∧
      (∀ x, (rgI lo n)[i]? = some x → Pat.put p x (dwipe ρ vs) fun ρ2 => tt ρ2 S' fun b S3 => IFB b (te ρ2 S3 fun d S4 => acc.length < sizeLine ∧ W (i + 1) (acc ++ [d]) S4) (W (i + 1) acc S3)) ∧
      (i = (rgI lo n).length → ∀ p, S' p = none → G p S' acc) := by
  refine ⟨WM n f S, ⟨Nat.zero_le _, by simp, Ext.refl S⟩, fun i acc S' w => ⟨trivial, fun x hx => ?_, fun h q hq => ?_⟩⟩
  · obtain ⟨hi, rfl⟩ := rgI_inv hx
    exact hs i acc S' hi w
  · rw [rgI_len] at h
    subst h
    obtain ⟨_, rfl, e⟩ := w
    exact hd S' q e hq
theorem lc_leaf {n i : Nat} {f : Nat → D} {S S' S4 : Sto} {acc : List D} {d : D} (hi : i < n) (w : WM n f S i acc S') (hn : n ≤ sizeLine) (hd : d = f i) (he : Ext S' S4) : acc.length < sizeLine ∧ WM n f S (i + 1) (acc ++ [d]) S4 := by
  obtain ⟨_, rfl, e⟩ := w
  refine ⟨by simp; omega, hi, ?_, e.trans he⟩
  rw [List.range_succ, List.map_append, hd]
  rfl
/-- over the items of a list -/
def WL (xs : List D) (f : D → D) (S : Sto) : Nat → List D → Sto → Prop := fun i acc S' => i ≤ xs.length ∧ acc = (xs.take i).map f ∧ Ext S S'
theorem lc_xsm {xs : List D} {src : Sto → Prop} {p : Pat} {tt : RT} {te : RE} {vs : List Nat} {ρ : Ro} {S : Sto} {G : Addr → Sto → List D → Prop} (f : D → D) (hq : ∀ S', Ext S S' → src S')
    (hs : ∀ (i : Nat) x acc S', xs[i]? = some x → WL xs f S i acc S' → Pat.put p x (dwipe ρ vs) fun ρ2 => tt ρ2 S' fun b S3 => IFB b (te ρ2 S3 fun d S4 => acc.length < sizeLine ∧ WL xs f S (i + 1) (acc ++ [d]) S4) (WL xs f S (i + 1) acc S3))
    (hd : ∀ S' q, Ext S S' → S' q = none → G q S' (xs.map f)) :
    ∃ W : Nat → List D → Sto → Prop, W 0 [] S ∧ ∀ i acc S', W i acc S' → src S' ∧
      (∀ x, xs[i]? = some x → Pat.put p x (dwipe ρ vs) fun ρ2 => tt ρ2 S' fun b S3 => IFB b (te ρ2 S3 fun d S4 => acc.length < sizeLine ∧ W (i + 1) (acc ++ [d]) S4) (W (i + 1) acc S3)) ∧
      (i = xs.length → ∀ p, S' p = none → G p S' acc) := by
  refine ⟨WL xs f S, ⟨Nat.zero_le _, by simp, Ext.refl S⟩, fun i acc S' w => ⟨hq S' w.2.2, fun x hx => hs i x acc S' hx w, fun h q hq => ?_⟩⟩
  subst h
  obtain ⟨_, rfl, e⟩ := w
  rw [List.take_length]
  exact hd S' q e hq
theorem lc_leafL {xs : List D} {i : Nat} {f : D → D} {S S' S4 : Sto} {acc : List D} {d x : D} (hx : xs[i]? = some x) (w : WL xs f S i acc S') (hn : xs.length ≤ sizeLine) (hd : d = f x) (he : Ext S' S4) : acc.length < sizeLine ∧ WL xs f S (i + 1) (acc ++ [d]) S4 := by
  obtain ⟨_, rfl, e⟩ := w
  have hi : i < xs.length := (List.getElem?_eq_some_iff.mp hx).1
  refine ⟨by simp; omega, hi, ?_, e.trans he⟩
  rw [List.take_succ, hx, List.map_append, hd]
  rfl
end DL
set_option Elab.async false
set_option linter.all false
set_option maxRecDepth 100000
set_option maxHeartbeats 4000000
namespace DL
open PySem PySem.Spec PyProof.Rows L2
section
variable {X : Cx} {y : DXw} {st : Stmt} {rest : List Stmt} {t u : RS} {e : Expr} {te : RE} {pos : Pos}
/-- a, b, c = x, y, z with plain local names -/
def rPar3 (i j l : Nat) (ta : RA) : RS := fun E ρ S => ta ρ S fun ds S1 => match ds with
  | [d, e, f] => E.nx (((ρ.set i (some d)).set j (some e)).set l (some f)) S1
  | _ => False
theorem pd_par3 (i j l : Nat) {x z w : Str} {a b c : Expr} {ta : RA} {px py pz pt pos : Pos} {kt k2 pt2} (hc : X.calm = true) (hN : X.N.Nodup) (ha : PDA X y [a, b, c] ta)
    (hw : swappedStores [.Tuple [.Name x px, .Name z py, .Name w pz] kt pt] (.Tuple [a, b, c] k2 pt2) X.env = pure (some [x, z, w]))
    (hi : X.N[i]? = some x := by rfl) (hj : X.N[j]? = some z := by rfl) (hl : X.N[l]? = some w := by rfl) (hij : i ≠ j := by decide) (hil : i ≠ l := by decide) (hjl : j ≠ l := by decide)
    (hx : X.env.scope.names.lookup x = some .local := by rfl) (hy : X.env.scope.names.lookup z = some .local := by rfl) (hz : X.env.scope.names.lookup w = some .local := by rfl)
    (hs : swapsWithSole [.Tuple [.Name x px, .Name z py, .Name w pz] kt pt] (.Tuple [a, b, c] k2 pt2) pos.line X.env = pure false := by rfl) :
    PDS X y (.Assign [.Tuple [.Name x px, .Name z py, .Name w pz] kt pt] (.Tuple [a, b, c] k2 pt2) pos) (rPar3 i j l ta) := PDS.of (ps_par3 hc hN hi hj hl hij hil hjl hx hy hz ha hw hs) fun D σ H h => by
  obtain ⟨ρ, S, E, sr, so, h, eo⟩ := h
  refine ⟨ρ, S, _, sr, so, h, fun ds S1 vs H1 g1 dvs hn h1 => ?_⟩
  match ds, dvs, h1 with
  | [d, e, f], dvs, h1 =>
    obtain ⟨v, ws, rfl, dv1, v2, ws2, rfl, dv2, v3, ws3, rfl, dv3, q⟩ := dvs
    cases (show ws3 = [] from q)
    exact ⟨v, v2, v3, rfl, eo.nx _ S1 _ H1 g1 ((((sr.go g1).set dv1 i).set dv2 j).set dv3 l) h1⟩
  | [], _, h1 => exact h1.elim
  | [_], _, h1 => exact h1.elim
  | [_, _], _, h1 => exact h1.elim
  | _ :: _ :: _ :: _ :: _, _, h1 => exact h1.elim
end

/-! ### a def whose garbage is dropped -/
theorem Go.less {K : PySem.W.Frag} {H H' : Hp} {S S' S2 : Sto} (g : Go K H S H' S') (e : Ext S2 S') : Go K H S H' S2 :=
  ⟨g.ok0, fun a c h => g.ok a c (e a c h), g.frame, fun a o h1 h2 => by
    cases q : S2 a with
    | none => rfl
    | some c => exact absurd (e a c q) (by rw [g.ex a o h1 h2]; exact fun z => by cases z)⟩
theorem fnE {P : Program} {w : World} {K : PySem.W.Frag} {mg : Str → Option Value} {base : Heap} {x qual : Str} {st : Stmt} {f : Addr} {fd : FuncData} {N ps : List Str} {k : Nat} {sp : DSp} (F : Fun K x qual st f fd) (S : FnScope N ps (defScope st))
    (len : ∀ ds S Q E, sp ds S Q E → ds.length = ps.length)
    (hbody : ∀ (cdv : Value) (A : Around) (outer : List Env) (s : Shared) (H : Hp) (E : XK) (RX : Addr → D → Sto → Prop), Room k (A.deeper (envOfC qual (defScope st) s.heap.objs.size f cdv)) →
      ∃ t, PDSs (cxOf (L2.CX P w) P w K mg base N qual (defScope st) f cdv A outer s H E) (yOf E RX) (defBody st) t ∧ ∀ ds S Q, sp ds S Q RX → t { nx := fun _ S' => ∃ S2, Ext S2 S' ∧ Q .non S2, rt := fun d S' => ∃ S2, Ext S2 S' ∧ Q d S2 } (startD N ds) S) :
    FnOk P w K mg base (L2.CX P w) (k + 1) f fd ps (toSp K sp) := by
  refine F.okX S (fun vs H Q E h => ?_) (fun cdv A outer s H vs Q E hr h => ?_)
  · obtain ⟨ds, S, R, RX, dvs, _, h, _⟩ := h
    rw [← dvs.length]
    exact len _ _ _ _ h
  · obtain ⟨ds, S, R, RX, dvs, so, h, k1, k2⟩ := h
    obtain ⟨t, ht, hq⟩ := hbody cdv A outer s H E RX hr
    refine ⟨_, ht, startD N ds, S, _, start_srv dvs, ⟨so, fun C d ρ S' dx w' σ H' g _ e dv q => k2 C d S' dx w' H' g e dv q⟩, hq ds S R h, ?_⟩
    exact ⟨fun ρ S' σ H' g _ ⟨S2, e, q⟩ => k1 .non S2 .non H' (g.less e) rfl q, fun d S' v H' g dv ⟨S2, e, q⟩ => k1 d S2 v H' (g.less e) dv q, fun _ _ _ _ _ _ z => z, fun _ _ _ _ _ _ z => z⟩
theorem fnok0 {P : Program} {w : World} {K : PySem.W.Frag} {mg : Str → Option Value} {base : Heap} {f : Addr} {fd : FuncData} {ps : List Str} {k : Nat} : FnOk P w K mg base (L2.CX P w) k f fd ps (toSp K fun _ _ _ _ => False) :=
  ⟨fun _ _ _ _ ⟨_, _, _, _, _, _, h, _⟩ => h.elim, fun _ _ _ _ _ _ _ _ _ _ _ _ _ ⟨_, _, _, _, _, _, h, _⟩ => h.elim⟩
/-! ### told and due -/
def cellsD (S : Sto) : D → Option (List D)
  | .ref a => match S a with
    | some (.lst xs) => some xs
    | _ => none
  | .fro xs => some xs
  | _ => none
def sameD (S : Sto) : Nat → D → D → Prop
  | 0, _, _ => False
  | _ + 1, told, .non => told = .non
  | _ + 1, told, .bl b => told = .bl b
  | _ + 1, told, .int i => told = .int i
  | _ + 1, told, .str x => told = .str x
  | n + 1, told, .tup xs => ∃ ys, told = .tup ys ∧ ys.length = xs.length ∧ xs.length < 1000000 ∧ ∀ (i : Nat) y x, ys[i]? = some y → xs[i]? = some x → sameD S n y x
  | n + 1, told, due => ∃ xs ys, RdL S due xs ∧ RdL S told ys ∧ ys.length = xs.length ∧ xs.length < 1000000 ∧ ∀ (i : Nat) y x, ys[i]? = some y → xs[i]? = some x → sameD S n y x
def sp_same (n : Nat) : DSp := fun ds S Q _ => ∃ told due, ds = [told, due] ∧ sameD S n told due ∧ Q (.bl true) S
theorem cut_to {xs : List D} {r : Nat} (h : r ≤ xs.length) : cutD xs none (some (r : Int)) = xs.take r := by
  unfold cutD
  rw [HT.sIx_none, HT.sIx_nat, Nat.min_eq_left h]
  rfl
theorem cut_from {xs : List D} {r : Nat} (h : r ≤ xs.length) : cutD xs (some (r : Int)) none = xs.drop r := by
  unfold cutD
  rw [HT.sIx_none, HT.sIx_nat, Nat.min_eq_left h, List.take_of_length_le (by simp)]
theorem take_get {xs : List D} {r j : Nat} {x : D} (h : (xs.take r)[j]? = some x) : xs[j]? = some x := by
  rw [List.getElem?_take] at h
  split at h
  · exact h
  · cases h
theorem drop_get {xs : List D} {r j : Nat} {x : D} (h : (xs.drop r)[j]? = some x) : xs[r + j]? = some x := by
  rw [List.getElem?_drop] at h
  exact h
theorem Ext.wr {S S' : Sto} {p : Addr} {c : Cell} (e : Ext S S') (h : S p = none) : Ext S (sup S' p c) := fun a o q => by
  rw [sup_ne (fun z => ?_)]
  · exact e a o q
  · subst z; rw [h] at q; cases q

/-! ### calls with keywords: what goes where -/
def gk {α : Type} (n m : Nat) (pm : List Nat) (us ws : List α) : List α := if us.length = n ∧ ws.length = m then pm.filterMap fun i => (us ++ ws)[i]? else []
theorem gk_rel {K : PySem.W.Frag} {n m : Nat} {pm : List Nat} {H : Hp} {ds zs : List D} {vs ws : List V} {us xs : List Value} (h1 : DVs K H ds vs) (h2 : DVs K H zs ws) (r1 : Vals vs us) (r2 : Vals ws xs) :
    ∃ qs, DVs K H (gk n m pm ds zs) qs ∧ Vals qs (gk n m pm us xs) := by
  have l1 := h1.length
  have l2 := h2.length
  have l3 := r1.length
  have l4 := r2.length
  by_cases c : ds.length = n ∧ zs.length = m
  · refine ⟨pm.filterMap fun i => (vs ++ ws)[i]?, ?_, ?_⟩
    · rw [show gk n m pm ds zs = pm.filterMap fun i => (ds ++ zs)[i]? from if_pos c]
      have hA := h1.append h2
      clear c
      induction pm with
      | nil => exact rfl
      | cons i pm ih =>
        rw [List.filterMap_cons, List.filterMap_cons]
        cases e : (ds ++ zs)[i]? with
        | none =>
          have : (vs ++ ws)[i]? = none := by
            rw [List.getElem?_eq_none_iff] at e ⊢
            rw [← hA.length]; exact e
          rw [this]
          exact ih
        | some d =>
          obtain ⟨v, e2, dv⟩ := hA.get e
          rw [e2]
          exact ⟨v, _, rfl, dv, ih⟩
    · rw [show gk n m pm us xs = pm.filterMap fun i => (us ++ xs)[i]? from if_pos (by omega)]
      have hA := r1.append r2
      clear c
      induction pm with
      | nil => exact .nil
      | cons i pm ih =>
        rw [List.filterMap_cons, List.filterMap_cons]
        cases e : (vs ++ ws)[i]? with
        | none =>
          have : (us ++ xs)[i]? = none := by
            rw [List.getElem?_eq_none_iff] at e ⊢
            rw [← hA.length]; exact e
          rw [this]
          exact ih
        | some d =>
          obtain ⟨v, e2, dv⟩ := hA.get e
          rw [e2]
          exact .cons dv ih
  · rw [show gk n m pm ds zs = [] from if_neg c, show gk n m pm us xs = [] from if_neg (by omega)]
    exact ⟨[], rfl, .nil⟩
theorem KBD.of {K : PySem.W.Frag} {x qual : Str} {st : Stmt} {f : Addr} {fd : FuncData} {ps ks : List Str} (n m : Nat) (pm : List Nat) (F : Fun K x qual st f fd) (hp : 0 < ps.length)
    (h : ∀ (kV doc pq : Value) (an : Option Addr) (cdv ct : Value) (us ws : List Value), us.length = n → ws.length = m → bindArgs (PySem.W.fnOf x qual (defArgs st) (defBody st) (defScope st) .none kV doc pq an cdv ct) ⟨us, ks.zip ws⟩ = pure (ps.zip (gk n m pm us ws))) :
    KBD K fd ps ks (gk n m pm) (gk n m pm) := by
  obtain ⟨oc, od, kV, doc, pq, an, cdv, ct, osl, rfl, lk, hcd⟩ := F.ex
  refine ⟨fun s us ws _ hl => ?_, fun h1 h2 r1 r2 => gk_rel h1 h2 r1 r2⟩
  by_cases c : us.length = n ∧ ws.length = m
  · exact .of_eq (h kV doc pq an cdv ct us ws c.1 c.2)
  · rw [show gk n m pm us ws = [] from if_neg c] at hl
    exact absurd hl (by simp; omega)

/-! ### the end -/
theorem law_end {K : PySem.W.Frag} {H : Hp} {a : Addr} {ns : List Int} (hO : Only H) (hS : SqL K H a (ns.map V.int)) {sp : DSp} (h : ∀ S, sp [.fro (ns.map D.int)] S (fun d _ => d = .bl true) (fun _ _ _ => False)) :
    toSp K sp [.ref a] H (fun v _ => v = .bl true) (fun _ _ _ => False) := by
  refine ⟨[.fro (ns.map D.int)], fun _ => none, _, _, ⟨_, _, rfl, ⟨a, ns.map V.int, rfl, ?_, DVs.of_ints⟩, rfl⟩, (fun _ _ z => by cases z), h _, (fun d S v H' _ dv e => by subst e; exact dv), fun _ _ _ _ _ _ _ _ _ z => z⟩
  rcases hS with hS | hS
  · rcases hS with hS | ⟨o, hS⟩
    · rcases hO a with e | ⟨o, xs, e⟩
      · rw [e] at hS; cases hS
      · rw [e] at hS; cases hS
    · exact .inl ⟨o, hS⟩
  · exact .inr hS
theorem cx_end (P : Program) (w : World) (H : Hp) (s : Shared) (e : Value) (s' : Shared) : L2.CX P w [] H s (fun _ _ _ => False) e s' → False := fun ⟨_, _, _, _, _, _, _, _, _, _, _, _, h⟩ => h
theorem law_binds {K : PySem.W.Frag} {x qual : Str} {st : Stmt} {f : Addr} {fd : FuncData} {p : Str} (F : Fun K x qual st f fd) (h : ∀ (kV doc pm : Value) (an : Option Addr) (cdv ct : Value) (u : Value), bindArgs (PySem.W.fnOf x qual (defArgs st) (defBody st) (defScope st) .none kV doc pm an cdv ct) ⟨[u], []⟩ = pure [(p, u)]) :
    ∀ (s : Shared) (u : Value), BindsTo s fd ⟨[u], []⟩ [(p, u)] := fun s u => by
  obtain ⟨oc, od, kV, doc, pm, an, cdv, ct, osl, rfl, _⟩ := F.ex
  exact .of_eq (h kV doc pm an cdv ct u)
end DL
set_option Elab.async false
set_option linter.all false
set_option maxRecDepth 100000
set_option maxHeartbeats 4000000
namespace DL
open PySem PySem.Spec PyProof.Rows L2
open PySem.AutoSeq1 (wpAny_loadPart')
/-! ### enumerate(tuple) -/
theorem meets_enumerate_newT (l : Addr) (items : Array Value) (n : Nat) (dct : Option Addr) (sl : Array (Option Value)) :
    Meets (Builtin.«enumerate.__new__» ⟨[.type "enumerate", .ref l], []⟩) (fun _ R s => s.heap.get? l = some { cls := .type "tuple", dict := dct, data := .seq items n, slots := sl } ∧
      R (.ok (.ret (.ref (s.heap.push { cls := .type "tuple_iterator", data := .fields #[.ref l, .int 0 0] }).objs.size)))
        { s with heap := (s.heap.push { cls := .type "tuple_iterator", data := .fields #[.ref l, .int 0 0] }).push { cls := .type "enumerate", data := .fields #[.none, .bool false, .ref s.heap.objs.size, rawInt 0, .none, .none] } }) :=
  .of_wp fun prog w A R s h => by
    obtain ⟨hp, g, d, tk, os⟩ := s; obtain ⟨hl, h⟩ := h
    have hsub := sub_enumerate
    have hL : Heap.IsTuple (Shared.heap ⟨hp, g, d, tk, os⟩) l items := ⟨_, hl, rfl, n, rfl⟩
    wp_walk using wpAny_loadPart' hl
    refine wpAny_stack_any fun st => wpAny_pure ?_
    split
    · rename_i c _ _ _ _ _
      cases (c == Value.type "enumerate")
      · wp_walk using wpAny_loadPart' hl, wpAny_pyIter_tuple hL
        exact ⟨_, rfl, h⟩
      · wp_walk using wpAny_loadPart' hl, wpAny_pyIter_tuple hL
        exact ⟨_, rfl, h⟩
    · wp_walk using wpAny_loadPart' hl, wpAny_pyIter_tuple hL
      exact ⟨_, rfl, h⟩
theorem call_enumerateT {prog : Program} {w : World} {A : Around} {E : Value → Shared → Prop} {s : Shared} {l : Addr} {items : Array Value} {Q : Value → Shared → Prop} (hL : s.heap.IsTuple l items)
    (h : ∀ h', IsEnum h' (s.heap.objs.size + 1) s.heap.objs.size 0 .none → h'.get? s.heap.objs.size = some { cls := .type "tuple_iterator", data := .fields #[.ref l, .int 0 0] } → h'.objs.size = s.heap.objs.size + 2 →
      (∀ b o, s.heap.get? b = some o → h'.get? b = some o) → Q (.ref (s.heap.objs.size + 1)) { s with heap := h' }) :
    wpAny (model prog w) A (call (.type "enumerate") [.ref l]) Q E s := by
  obtain ⟨⟨c, dct, dt, sl⟩, hl, hc, n, hd⟩ := hL
  replace hc : c = .type "tuple" := hc
  replace hd : dt = .seq items n := hd
  subst hc hd
  refine callType_new F.called_enumerate (by decide) (F.typeCall_enumerate_1 _) (F.newCall_enumerate_1 _) (fun obj => F.args_object_init_2 obj _) F.entry_enumerate_new
    (meets_enumerate_newT l items n dct sl) ⟨hl, ?_⟩
  have hz : (s.heap.push { cls := .type "tuple_iterator", data := .fields #[.ref l, .int 0 0] }).objs.size = s.heap.objs.size + 1 := Heap.size_push ..
  show _ ∧ _
  rw [hz]
  have he : IsEnum ((s.heap.push { cls := .type "tuple_iterator", data := .fields #[.ref l, .int 0 0] }).push
      { cls := .type "enumerate", data := .fields #[.none, .bool false, .ref s.heap.objs.size, rawInt 0, .none, .none] }) (s.heap.objs.size + 1) s.heap.objs.size 0 .none := by
    have := Heap.get?_push_size (s.heap.push { cls := .type "tuple_iterator", data := .fields #[.ref l, .int 0 0] })
      (o := { cls := .type "enumerate", data := .fields #[.none, .bool false, .ref s.heap.objs.size, rawInt 0, .none, .none] }) rfl
    rw [hz] at this; exact this
  refine ⟨⟨_, he, rfl⟩, h _ he (Heap.get?_push_of_some _ (Heap.get?_push_size _ rfl)) (by rw [Heap.size_push, hz]) fun b o x => Heap.get?_push_of_some _ (Heap.get?_push_of_some _ x)⟩
def IteT (K : PySem.W.Frag) (a : Addr) : It :=
  ⟨fun i H => ∃ (xs : List V) (x : V), SqT K H a xs ∧ xs[i]? = some x, fun i H v H' => ∃ T x, v = .ref T ∧ H T = none ∧ H' = upd H T (.tup [.int (i : Nat), x]) ∧ ∀ xs, SqT K H a xs → xs[i]? = some x, fun i H => ∃ xs : List V, SqT K H a xs ∧ xs.length ≤ i⟩
theorem turn_enumT {P : Program} {w : World} {K : PySem.W.Frag} {elts : List Expr} {kk : Nat} {tpos : Pos} (a e it : Addr) :
    Turn P w K (.Tuple elts kk tpos) (IteT K a) [e, it] e (fun i h => (∃ old, IsEnum h e it ((i : Nat) : Int) old) ∧ h.IsTupleIter it a i ∧ e ≠ it ∧ e ≠ a ∧ a ≠ it) where
  mem := by simp
  obj := fun i h st b hb => by
    obtain ⟨⟨old, he⟩, ⟨o, ho, hc, hd⟩, _⟩ := st
    have e' : b = e ∨ b = it := by simpa using hb
    rcases e' with z | z
    · rw [z]; exact ⟨_, he, fun v q => nomatch q⟩
    · rw [z]; exact ⟨o, ho, fun v q => by rw [hd] at q; cases q⟩
  keep := fun i h h' st k => let ⟨⟨old, he⟩, hi, hne⟩ := st; ⟨⟨old, k e (by simp) _ he⟩, hi.at fun o q => k it (by simp) o q, hne⟩
  item := by
    intro X hP hw hK hc i pins s σ H E I hf st hg
    subst hP hw hK
    obtain ⟨⟨old, he⟩, hit, hne, hea, hai⟩ := st
    obtain ⟨xs, x, hq, hx⟩ := hg
    obtain ⟨its, rv, p, hz⟩ := I.tuple hq
    obtain ⟨u, hu, ru⟩ := rv.get hx
    have hl := rv.length
    have hi : i < xs.length := by
      cases Nat.lt_or_ge i xs.length with
      | inl h => exact h
      | inr h2 => rw [List.getElem?_eq_none h2] at hx; cases hx
    have hel : e < s.heap.objs.size := Heap.lt_size he
    have hil : it < s.heap.objs.size := by obtain ⟨_, q, _⟩ := hit; exact Heap.lt_size q
    have pt : s.heap.IsTuple a its.toArray := p
    refine wpAny_pyNext_enum_itemD (Draws.tuple (A := X.A.in1) (show X.A.in1.handled = none from I.ok.hd hc) it a hai its.toArray) he ⟨hit, pt⟩ (by simp; omega) hne (by simp [hne, hea]) fun y h' tk hP ho st' hT hsz hk => ?_
    have ey : y = u := by
      have : its[i]? = some y := by simpa using hP
      rw [hu] at this
      exact (Option.some.inj this).symm
    subst ey
    refine ⟨_, rfl, wpAny_letOwnedTupleGo_enum (s := { s with heap := h', toks := tk + 1 }) ho fun h'' he' sb => ?_⟩
    have hT2 : h''.get? s.heap.objs.size = some { cls := .type "tuple", data := .seq #[.int i tk, y] } := (sb.2 _ (Nat.ne_of_gt hel)).trans hT
    have new : ObjOk X.prog X.w (upd H s.heap.objs.size (.tup [.int (i : Nat), x])) h'' s.heap.objs.size (.tup [.int (i : Nat), x]) :=
      ⟨by show 2 ≤ sizeLine; decide, [.int i tk, y], .cons ⟨_, rfl⟩ (.cons ru .nil), ⟨_, hT2, rfl, _, rfl⟩⟩
    have I1 : Inv X pins σ (upd H s.heap.objs.size (.tup [.int (i : Nat), x])) { s with heap := h'', toks := tk + 1 } :=
      I.turnedNew (ch := [e, it]) (fun b ob hb q => (sb.2 b (fun z => hb (by simp [z]))).trans (hk b ob (fun z => hb (by simp [z])) (fun z => hb (by simp [z])) q)) hf (Nat.le_refl _) new
    refine ⟨.ref s.heap.objs.size, _, I1, rfl, ⟨_, x, rfl, I.hok.fresh (Nat.le_refl _), rfl, fun ys hy => by rw [I.tuple_inj hy hq]; exact hx⟩, ⟨⟨y, ?_⟩, st'.1.at fun o q => (sb.2 it (Ne.symm hne)).trans q, hne, hea, hai⟩, fun b hb => ?_⟩
    · have e1 : ((i + 1 : Nat) : Int) = (i : Int) + 1 := by omega
      rw [e1]; exact he'
    · have hb' : b < s.heap.objs.size := by
        have e' : b = e ∨ b = it := by simpa using hb
        rcases e' with z | z
        · rw [z]; exact hel
        · rw [z]; exact hil
      rw [upd_ne (Nat.ne_of_lt hb')]
      exact (hf b hb).1
  done := by
    intro X hP hw hK hc i pins s σ H E I hf st hg
    subst hP hw hK
    obtain ⟨⟨old, he⟩, hit, hne, hea, hai⟩ := st
    obtain ⟨xs, hq, hx⟩ := hg
    obtain ⟨its, rv, p, hz⟩ := I.tuple hq
    obtain ⟨f0, f1, f2, f3, f4, f5⟩ := hf it (by simp)
    have hl := rv.length
    have hT : s.TypeIs (.ref e) "enumerate" := ⟨_, he, rfl⟩
    unfold pyNext
    refine wpAny_bind (wpAny_attempt (wpAny_callSpecial?_slot (name := Str.ofString "__next__") hT F.slot_enumerate_next
      (wpAny_call_entry F.slot_enumerate_next hT F.entry_enumerate_next ?_ (F.args_enumerate_next_1 _))))
    show wpAny _ _ (field (.ref e) 2 >>= _) _ _ _
    refine wpAny_bind (wpAny_field he rfl (x := .ref it) rfl ?_)
    refine wpAny_bind (wpAny_nextOf_tuple_end (items := its.toArray) (I.ok.hd hc) hit p (by simp; omega) fun h' x he' hx' => ?_)
    obtain ⟨o, ho, hc'⟩ := hx'
    refine wpAny_bind (wpAny_isInstance (T := "StopIteration") (b := true) ⟨o, ho, hc'⟩ isSubtype_stop ?_)
    exact wpAny_pure ⟨rfl, I.turned (t' := s.toks) (fun b o hb q => he' b o hb q) f0 f1 f3 f4 f5⟩
  self := fun A i s Q E st h => let ⟨⟨_, he⟩, _⟩ := st; wpAny_pyIter_enum he h
def iEnumT (K : PySem.W.Frag) (ta : TA) : TI := fun σ H R => ta σ H fun vs H1 => ∃ a xs, vs = [.ref a] ∧ SqT K H1 a xs ∧ R (IteT K a) H1
theorem pi_enumT {X : Cx} {e : Expr} {ta : TA} {p pos tpos : Pos} {elts : List Expr} {kk : Nat} (hg : Gl X "enumerate") (hm : X.mg "enumerate" = none) (ha : PA X [e] ta) (hs : starEach [e] X.env = [(false, eval e X.env)] := by rfl) :
    PI X (.Tuple elts kk tpos) (.Call (.Name "enumerate" p) [e] [] pos) (iEnumT X.K ta) := by
  refine ⟨fun pins s σ H R I h => ?_⟩
  refine Call_ (ld_blt I hg hm boot_enumerate (PyProof.Rows.callWith_type1 (thn (ha.run pos pins s σ H _ I h) fun us s1 ⟨vs, H1, I1, r1, q1⟩ => ?_) hs rfl))
  obtain ⟨a, xs, ex, hq, q⟩ := q1
  subst ex
  cases r1 with
  | cons r rr =>
    cases rr
    cases r
    obtain ⟨its, rv, p', hz⟩ := I1.tuple hq
    have pt : s1.heap.IsTuple a its.toArray := p'
    have hal : a < s1.heap.objs.size := by obtain ⟨_, q, _⟩ := pt; exact Heap.lt_size q
    refine call_enumerateT pt fun h' he hit hsz hk => wpAny_pyIter_enum he ?_
    have I2 : Inv X pins σ H1 { s1 with heap := h' } := I1.kept (t' := s1.toks) hk
    refine ⟨s1.heap.objs.size + 1, [s1.heap.objs.size + 1, s1.heap.objs.size], _, _, H1, rfl, I2, turn_enumT a (s1.heap.objs.size + 1) s1.heap.objs.size, ⟨⟨.none, he⟩, ⟨_, hit, rfl, rfl⟩, Nat.succ_ne_self _, Nat.ne_of_gt (Nat.lt_succ_of_lt hal), Nat.ne_of_lt hal⟩, fun b hb => ?_, q⟩
    have e' : b = s1.heap.objs.size + 1 ∨ b = s1.heap.objs.size := by simpa using hb
    have hle : s1.heap.objs.size ≤ b := by
      rcases e' with z | z
      · rw [z]; exact Nat.le_add_right _ _
      · rw [z]; exact Nat.le_refl _
    exact I1.fpOk hle (I1.hok.fresh hle)

section
variable {X : Cx} {y : DXw}
/-- (i, x) for each item of a tuple -/
def enD (xs : List D) : List D := xs.mapIdx fun i x => D.tup [.int (i : Int), x]
theorem enD_get {xs : List D} {i : Nat} : (enD xs)[i]? = xs[i]?.map fun x => D.tup [.int (i : Int), x] := by unfold enD; rw [List.getElem?_mapIdx]
theorem enD_len {xs : List D} : (enD xs).length = xs.length := by unfold enD; simp
def rEnum (t : RA) : RI := fun ρ S R => t ρ S fun ds S1 => match ds with
  | [.tup xs] => R (enD xs) (fun _ => True) S1
  | _ => False
theorem jok_enumT {K : PySem.W.Frag} {H1 : Hp} {S1 : Sto} {a : Addr} {xs : List D} {vs : List V} (h : StT K H1 a vs) (r : DVs K H1 xs vs) : JOk K H1 S1 (IteT K a) (enD xs) (fun _ => True) := by
  intro i H S g _
  have h2 := g.tup h
  have r2 := DVs.go g _ _ r
  refine ⟨fun x hx => ?_, fun hn => ⟨vs, h2.sq, ?_⟩⟩
  · rw [enD_get] at hx
    cases e : xs[i]? with
    | none => rw [e] at hx; cases hx
    | some d =>
      rw [e] at hx
      cases (Option.some.inj hx)
      obtain ⟨v, e2, dv⟩ := r2.get e
      refine ⟨⟨vs, v, h2.sq, e2⟩, fun w H' ⟨T, x, ew, hT, eH, hall⟩ => ?_⟩
      have := hall vs h2.sq
      rw [e2] at this
      cases (Option.some.inj this)
      subst ew eH
      have g2 := Go.new (K := K) (o := .tup [.int (i : Nat), v]) g.ok hT
      exact ⟨g2, T, _, rfl, .inl upd_same, DVs.cons rfl (DVs.cons (DV.go g2 _ _ dv) DVs.nil)⟩
  · rw [enD_get] at hn
    rw [← r.length]
    cases e : xs[i]? with
    | none => rw [List.getElem?_eq_none_iff] at e; exact e
    | some d => rw [e] at hn; cases hn
theorem pdi_enum {e : Expr} {ta : RA} {p pos tpos : Pos} {elts : List Expr} {kk : Nat} (hm : X.mg "enumerate" = none) (ha : PDA X y [e] ta) (hg : Gl X "enumerate" := by rfl) (hs : starEach [e] X.env = [(false, eval e X.env)] := by rfl) :
    PDI X y (.Tuple elts kk tpos) (.Call (.Name "enumerate" p) [e] [] pos) (rEnum ta) := by
  refine PDI.of (pi_enumT hg hm ha hs) fun σ H R h => ?_
  obtain ⟨ρ, S, Rd, sr, so, h, k⟩ := h
  refine ⟨ρ, S, _, sr, so, h, fun ds S1 vs H1 g dvs hn h1 => ?_⟩
  split at h1
  · rename_i xs
    obtain ⟨v, ws, rfl, dv, q⟩ := dvs
    cases (show ws = [] from q)
    obtain ⟨a, us, rfl, hT, r⟩ := dv
    exact ⟨a, us, rfl, hT.sq, k _ _ _ _ _ g (jok_enumT hT r) h1⟩
  · exact h1.elim
/-! ### comprehensions with two clauses: the new list stands in the store -/
theorem wipe_wipe (σ : L2.St) (l : List Nat) : L2.wipe (L2.wipe σ l) l = L2.wipe σ l := by
  have gen : ∀ (l l' : List Nat), (∀ i ∈ l, i ∈ l') → L2.wipe (L2.wipe σ l') l = L2.wipe σ l' := by
    intro l
    induction l with
    | nil => intro l' _; rfl
    | cons a l ih =>
      intro l' hl
      show (L2.wipe (L2.wipe σ l') l).set a none = L2.wipe σ l'
      rw [ih l' fun i hi => hl i (List.mem_cons_of_mem _ hi)]
      have ha' := hl a List.mem_cons_self
      apply List.ext_getElem?
      intro j
      by_cases hj : a = j
      · subst hj
        by_cases hb : a < (L2.wipe σ l').length
        · rw [List.getElem?_set_self hb]
          cases q : (L2.wipe σ l')[a]? with
          | none => rw [List.getElem?_eq_none_iff] at q; omega
          | some o =>
            cases o with
            | none => rfl
            | some x => exact absurd ha' (wipe_some q).2
        · rw [List.getElem?_eq_none (by simpa using hb), List.getElem?_eq_none (by simpa using hb)]
      · rw [List.getElem?_set_ne hj]
  exact gen l l fun _ h => h
def rLc2 (wi : RI) (p : Pat) (tt : RT) (wi1 : RI) (p1 : Pat) (tt1 : RT) (te : RE) (vs vs1 : List Nat) : RE := fun ρ S Q => wi ρ S fun xs src S1 => ∀ D0, S1 D0 = none → ∃ W : Nat → Sto → Prop, W 0 (sup S1 D0 (.lst [])) ∧ ∀ i S', W i S' → src S' ∧
  (∀ x, xs[i]? = some x → Pat.put p x (dwipe ρ vs) fun ρ2 => tt ρ2 S' fun b S3 => IFB b (wi1 ρ2 S3 fun ys src1 S4 => ∃ W1 : Nat → Sto → Prop, W1 0 S4 ∧ ∀ j S5, W1 j S5 → src1 S5 ∧
      (∀ z, ys[j]? = some z → Pat.put p1 z (dwipe ρ2 vs1) fun ρ3 => tt1 ρ3 S5 fun b S6 => IFB b (te ρ3 S6 fun d S7 => ∃ acc, S7 D0 = some (.lst acc) ∧ acc.length < sizeLine ∧ W1 (j + 1) (sup S7 D0 (.lst (acc ++ [d])))) (W1 (j + 1) S6)) ∧
      (j = ys.length → W (i + 1) S5)) (W (i + 1) S3)) ∧
  (i = xs.length → Q (.ref D0) S')
theorem lc2_of {wi wi1 : RI} {p p1 : Pat} {tt tt1 : RT} {te : RE} {vs vs1 : List Nat} {σ : L2.St} {H : Hp} {Q : VK} (ha : Pat.all vs p = true) (ha1 : Pat.all vs1 p1 = true) (h : lE X.K y (rLc2 wi p tt wi1 p1 tt1 te vs vs1) σ H Q) :
    tLc2 (lI X.K y wi) (Pat.g X.K p) (lT X.K y0 tt) (lI X.K y0 wi1) (Pat.g X.K p1) (lT X.K y0 tt1) (lE X.K y0 te) vs vs1 σ H Q := by
  obtain ⟨ρ, S, R, sr, so, h, k⟩ := h
  refine ⟨ρ, S, _, sr, so, h, fun xs src S1 J H1 g1 jo hD D0 hDn => ?_⟩
  obtain ⟨W, w0, hs⟩ := hD D0 (g1.ok.free hDn)
  have g0 := Go.newLst g1.ok hDn DVs.nil
  refine ⟨fun i m H2 => ∃ S2, m = xs.length - i ∧ i ≤ xs.length ∧ Go X.K H1 S1 H2 S2 ∧ W i S2, ⟨_, _, rfl, Nat.zero_le _, g0, w0⟩, ?_⟩
  rintro i m H2 ⟨S2, rfl, hi, g2, w2⟩
  obtain ⟨hsrc, hturn, hend⟩ := hs i S2 w2
  obtain ⟨j1, j2⟩ := jo i H2 S2 g2 hsrc
  by_cases hlt : i < xs.length
  · have hx : xs[i]? = some xs[i] := List.getElem?_eq_getElem hlt
    obtain ⟨jg, jy⟩ := j1 _ hx
    refine .inr ⟨jg, fun H3 => ∃ S3, Go X.K H1 S1 H3 S3 ∧ W (i + 1) S3, fun H3 ⟨S3, g3, a4⟩ => ⟨xs.length - (i + 1), by omega, S3, rfl, hlt, g3, a4⟩, fun v H3 hy => ?_⟩
    obtain ⟨g3, dv⟩ := jy v H3 hy
    have gA := g2.trans g3
    refine Pat.ok p _ v _ _ _ ha dv (((sr.go g1).go gA).wipe vs) (hturn _ hx) fun ρ3 σ3 sr3 hw h3 => ⟨by rw [hw, wipe_wipe], ?_⟩
    refine ⟨ρ3, S2, _, sr3, sx0 gA.ok, h3, fun b S4 H4 g4 h4 => ?_⟩
    refine ite_of_IFB h4 (fun z => ⟨ρ3, S4, _, sr3.go g4, sx0 g4.ok, z, fun ys src1 S5 J1 H5 g5 jo1 ⟨W1, w10, hs1⟩ => ?_⟩) fun z => ⟨S4, gA.trans g4, z⟩
    have gB := (gA.trans g4).trans g5
    refine ⟨fun j k H6 => ∃ S6, k = ys.length - j ∧ j ≤ ys.length ∧ Go X.K H5 S5 H6 S6 ∧ W1 j S6, ⟨_, S5, rfl, Nat.zero_le _, Go.refl g5.ok, w10⟩, ?_⟩
    rintro j k H6 ⟨S6, rfl, hj, g6, w6⟩
    obtain ⟨hsrc1, hturn1, hend1⟩ := hs1 j S6 w6
    obtain ⟨i1, i2⟩ := jo1 j H6 S6 g6 hsrc1
    by_cases hlt1 : j < ys.length
    · have hz : ys[j]? = some ys[j] := List.getElem?_eq_getElem hlt1
      obtain ⟨jg1, jy1⟩ := i1 _ hz
      refine .inr ⟨jg1, fun H7 => ∃ S7, Go X.K H5 S5 H7 S7 ∧ W1 (j + 1) S7, fun H7 ⟨S7, g7, a4⟩ => ⟨ys.length - (j + 1), by omega, S7, rfl, hlt1, g7, a4⟩, fun v H7 hy1 => ?_⟩
      obtain ⟨g7, dv7⟩ := jy1 v H7 hy1
      have gC := g6.trans g7
      refine Pat.ok p1 _ v _ _ _ ha1 dv7 ((((sr3.go g4).go g5).go gC).wipe vs1) (hturn1 _ hz) fun ρ4 σ4 sr4 hw4 h5 => ⟨by rw [hw4, wipe_wipe], ?_⟩
      refine ⟨ρ4, S6, _, sr4, sx0 gC.ok, h5, fun b S8 H8 g8 h8 => ?_⟩
      refine ite_of_IFB h8 (fun z => ⟨ρ4, S8, _, sr4.go g8, sx0 g8.ok, z, fun d S9 w H9 g9 dv9 ⟨acc, eD, hl, w9⟩ => ?_⟩) fun z => ⟨S8, gC.trans g8, z⟩
      obtain ⟨ws, hD9, r9⟩ := g9.ok D0 _ eD
      exact ⟨ws, hD9, by rw [← r9.length]; exact hl, _, ((gC.trans g8).trans g9).trans (Go.setLst g9.ok eD (r9.append (DVs.cons dv9 DVs.nil))), w9⟩
    · have e : j = ys.length := by omega
      subst e
      exact .inl ⟨i2 (by simp), S6, gB.trans g6, hend1 rfl⟩
  · have e : i = xs.length := by omega
    subst e
    exact .inl ⟨j2 (by simp), k (.ref D0) _ _ _ (g1.trans g2) rfl (hend rfl)⟩
theorem pd_lc2 {elt tg iter tg1 iter1 : Expr} {ifs ifs1 : List Expr} {scope : Scope} {own : List (Str × Nat)} {vs1 : List Nat} {pos : Pos} {wi wi1 : RI} {p p1 : Pat} {tt tt1 : RT} {te : RE} (hc : X.calm = true) (hN : X.N.Nodup) (hi : PDI X y tg iter wi) (ok : BlkOk X.N X.env.scope scope own)
    (hg : ∀ (s : Shared) (H : Hp) (C : Addr) (cl : List (Str × Addr)) (fp : List Addr), PG (X.blk s H scope (compEnvC scope cl C X.env) fp) tg (Pat.g X.K p)) (ht : ∀ (s : Shared) (H : Hp) (C : Addr) (cl : List (Str × Addr)) (fp : List Addr), PDTs (X.blk s H scope (compEnvC scope cl C X.env) fp) y0 ifs tt)
    (hi1 : ∀ (s : Shared) (H : Hp) (C : Addr) (cl : List (Str × Addr)) (fp : List Addr), PDI (X.blk s H scope (compEnvC scope cl C X.env) fp) y0 tg1 iter1 wi1)
    (hg1 : ∀ (s : Shared) (H : Hp) (C : Addr) (cl : List (Str × Addr)) (fp : List Addr), PG (X.blk s H scope (compEnvC scope cl C X.env) fp) tg1 (Pat.g X.K p1)) (ht1 : ∀ (s : Shared) (H : Hp) (C : Addr) (cl : List (Str × Addr)) (fp : List Addr), PDTs (X.blk s H scope (compEnvC scope cl C X.env) fp) y0 ifs1 tt1)
    (he : ∀ (s : Shared) (H : Hp) (C : Addr) (cl : List (Str × Addr)) (fp : List Addr), PD (X.blk s H scope (compEnvC scope cl C X.env) fp) y0 elt te) (hv1 : ∀ i ∈ vs1, i ∈ own.map (·.2) := by decide) (hv : Pat.all (own.map (·.2)) p = true := by rfl) (hv2 : Pat.all vs1 p1 = true := by rfl) (hs : ∀ x, foldedSetIterable iter X.env x = pure x := by intro _; rfl) (hs1 : ∀ env x, foldedSetIterable iter1 env x = pure x := by intro _ _; rfl) :
    PD X y (.ListComp elt [⟨tg, iter, ifs, 0⟩, ⟨tg1, iter1, ifs1, 0⟩] scope pos) (rLc2 wi p tt wi1 p1 tt1 te (own.map (·.2)) vs1) :=
  PD.of (pe_lc2 (wi1 := lI X.K y0 wi1) (tt := lT X.K y0 tt) (tt1 := lT X.K y0 tt1) (te := lE X.K y0 te) hc hN hi ok hv1 hg ht hi1 hg1 ht1 he hs hs1) fun σ H Q h => lc2_of hv hv2 h
end
end DL
set_option Elab.async false
set_option linter.all false
set_option maxRecDepth 100000
set_option maxHeartbeats 4000000
namespace DL
open PySem PySem.Spec PyProof.Rows L2
/-! ### sizes of fractions -/
def RB (n : Nat) (q : Rat) : Prop := q.num.natAbs < 2 ^ n ∧ q.den < 2 ^ n
theorem lt_up {x a b : Nat} (h : x < 2 ^ a) (hab : a ≤ b) : x < 2 ^ b := Nat.lt_of_lt_of_le h (Nat.pow_le_pow_right (by decide) hab)
theorem RB.mono {n m : Nat} {q : Rat} (h : RB n q) (l : n ≤ m) : RB m q := ⟨lt_up h.1 l, lt_up h.2 l⟩
theorem rb_div {t b : Int} {n : Nat} (hb : 0 < b) (h1 : t.natAbs < 2 ^ n) (h2 : b.natAbs < 2 ^ n) : RB n ((t : Rat) / (b : Rat)) := by
  constructor
  · rw [← low_num hb]
    exact Nat.lt_of_le_of_lt (by rw [Int.natAbs_ediv_of_dvd (Int.natAbs_dvd_natAbs.mp (by rw [Int.natAbs_natCast]; exact Nat.gcd_dvd_left _ _))]; exact Nat.div_le_self _ _) h1
  · have e := low_den (t := t) hb
    have : ((((t : Rat) / (b : Rat)).den : Nat) : Int) ≤ b := by
      rw [← e]
      exact Int.ediv_le_self _ (by omega)
    omega
/-- q is so many N-ths -/
def Ov (N : Int) (q : Rat) : Prop := ∃ k : Int, q = (k : Rat) / (N : Rat)
theorem ratNe {N : Int} (h : 0 < N) : (N : Rat) ≠ 0 := fun z => by
  have := Rat.intCast_inj.mp (z.trans Rat.intCast_zero.symm)
  omega
theorem ratPos {N : Int} (h : 0 < N) : (0 : Rat) < (N : Rat) := by
  have := Rat.intCast_lt_intCast.mpr h
  simpa using this
theorem ov_add {N : Int} (h : 0 < N) {a b : Rat} (ha : Ov N a) (hb : Ov N b) : Ov N (a + b) := by
  obtain ⟨k, rfl⟩ := ha
  obtain ⟨l, rfl⟩ := hb
  refine ⟨k + l, ?_⟩
  rw [Rat.intCast_add]
  have := ratNe h
  grind
theorem ov_mul {N M : Int} (h : 0 < N) (h' : 0 < M) {a b : Rat} (ha : Ov N a) (hb : Ov M b) : Ov (N * M) (a * b) := by
  obtain ⟨k, rfl⟩ := ha
  obtain ⟨l, rfl⟩ := hb
  refine ⟨k * l, ?_⟩
  rw [Rat.intCast_mul, Rat.intCast_mul]
  have := ratNe h
  have := ratNe h'
  grind
theorem ov_zero (N : Int) : Ov N 0 := ⟨0, by rw [Rat.intCast_zero, Rat.div_def, Rat.zero_mul]⟩
theorem ov_one {N : Int} (h : 0 < N) : Ov N 1 := ⟨N, by have := ratNe h; grind⟩
theorem ov_rb {N : Int} (h : 0 < N) {n : Nat} (hn : N.natAbs < 2 ^ n) {q : Rat} (o : Ov N q) (h0 : 0 ≤ q) (h1 : q ≤ 1) : RB n q := by
  obtain ⟨k, rfl⟩ := o
  have hp := ratPos h
  have e : ((k : Rat) / (N : Rat)) * (N : Rat) = (k : Rat) := by
    have := ratNe h
    grind
  have k0 : 0 ≤ k := by
    have : (0 : Rat) ≤ (k : Rat) := by rw [← e]; exact Rat.mul_nonneg h0 (Rat.le_of_lt hp)
    exact Rat.intCast_le_intCast.mp (by simpa using this)
  have k1 : k ≤ N := by
    have : (k : Rat) ≤ (N : Rat) := by
      rw [← e]
      have := Rat.mul_le_mul_of_nonneg_right h1 (Rat.le_of_lt hp)
      simpa using this
    exact Rat.intCast_le_intCast.mp this
  exact rb_div h (by omega) hn
/-! ### shares -/
def shD (qs : List Rat) : D := .tup (qs.map fr)
structure Sh (N : Int) (qs : List Rat) : Prop where
  pos : 0 < N
  ne : qs ≠ []
  all : ∀ q ∈ qs, 0 < q ∧ Ov N q
  sum : qs.sum = 1
theorem sum_nonneg : ∀ {qs : List Rat}, (∀ q ∈ qs, (0 : Rat) ≤ q) → 0 ≤ qs.sum
  | [], _ => by simp
  | q :: qs, h => by
    have h1 := h q List.mem_cons_self
    have h2 := sum_nonneg (qs := qs) fun x hx => h x (List.mem_cons_of_mem _ hx)
    rw [List.sum_cons]
    grind
theorem mem_le_sum : ∀ {qs : List Rat}, (∀ q ∈ qs, (0 : Rat) ≤ q) → ∀ q ∈ qs, q ≤ qs.sum
  | x :: qs, h, q, hq => by
    have h1 := h x List.mem_cons_self
    have hs : ∀ q ∈ qs, (0 : Rat) ≤ q := fun y hy => h y (List.mem_cons_of_mem _ hy)
    have h2 := sum_nonneg hs
    rw [List.sum_cons]
    rcases List.mem_cons.mp hq with rfl | hq
    · grind
    · have := mem_le_sum hs q hq
      grind
theorem take_le_sum {qs : List Rat} (h : ∀ q ∈ qs, (0 : Rat) ≤ q) (i : Nat) : (qs.take i).sum ≤ qs.sum := by
  have e : qs.sum = (qs.take i).sum + (qs.drop i).sum := by rw [← List.sum_append, List.take_append_drop]
  have := sum_nonneg (qs := qs.drop i) fun q hq => h q (List.mem_of_mem_drop hq)
  grind
theorem ov_sum {N : Int} (hN : 0 < N) : ∀ {qs : List Rat}, (∀ q ∈ qs, Ov N q) → Ov N qs.sum
  | [], _ => by simpa using ov_zero N
  | q :: qs, h => by
    rw [List.sum_cons]
    exact ov_add hN (h q List.mem_cons_self) (ov_sum hN fun x hx => h x (List.mem_cons_of_mem _ hx))
theorem Sh.le1 {N : Int} {qs : List Rat} (s : Sh N qs) {q : Rat} (h : q ∈ qs) : q ≤ 1 := s.sum ▸ mem_le_sum (fun x hx => Rat.le_of_lt (s.all x hx).1) q h
theorem Sh.rb {N : Int} {qs : List Rat} (s : Sh N qs) {n : Nat} (hn : N.natAbs < 2 ^ n) {q : Rat} (h : q ∈ qs) : RB n q := ov_rb s.pos hn (s.all q h).2 (Rat.le_of_lt (s.all q h).1) (s.le1 h)
/-! ### equal fractions -/
theorem pyr_fr {S : Sto} (q : Rat) : PyR S (fr q) (.tuple [.int q.num, .int (q.den : Int)]) := .tup (.cons (.int _) (.cons (.int _) .nil))
theorem eq_fr {S : Sto} {R : D → Sto → Prop} (q : Rat) (h : R (.bl true) S) : dEqG false (fr q) (fr q) S R :=
  ⟨_, _, pyr_fr q, pyr_fr q, rfl, rfl, by
    have : PyData.eqv (.tuple [.int q.num, .int (q.den : Int)]) (.tuple [.int q.num, .int (q.den : Int)]) = true := SeqAt.eqv_refl _ rfl
    rw [if_neg (by decide), this]; exact h⟩
theorem fr1 : D.tup [.int 1, .int 1] = fr 1 := rfl
theorem fr0 : D.tup [.int 0, .int 1] = fr 0 := rfl
end DL
namespace DL
open PySem PySem.Spec PyProof.Rows L2
/-! ### things put together: shares with marks -/
def sel (ps : List (Rat × Bool)) : List Rat := (ps.filter (·.2)).map (·.1)
def tog (T : Rat) (ps : List (Rat × Bool)) : List Rat := match ps with
  | [] => []
  | (q, false) :: ps => q :: tog T ps
  | (_, true) :: ps => T :: (ps.filter (!·.2)).map (·.1)
def idx (k : Nat) : List (Rat × Bool) → List Nat
  | [] => []
  | (_, b) :: ps => if b then k :: idx (k + 1) ps else idx (k + 1) ps
theorem tog_push (T : Rat) (x : Rat × Bool) : ∀ ps, tog T (ps ++ [x]) = tog T ps ++ (if x.2 then (if ps.any (·.2) then [] else [T]) else [x.1])
  | [] => by
    obtain ⟨q, b⟩ := x
    cases b <;> rfl
  | (q, false) :: ps => by
    show q :: tog T (ps ++ [x]) = q :: (tog T ps ++ _)
    rw [tog_push T x ps]
    rfl
  | (q, true) :: ps => by
    show T :: ((ps ++ [x]).filter (!·.2)).map (·.1) = T :: ((ps.filter (!·.2)).map (·.1) ++ _)
    rw [List.filter_append, List.map_append]
    obtain ⟨r, b⟩ := x
    cases b <;> rfl
theorem idx_ge : ∀ (ps : List (Rat × Bool)) (k i : Nat), i ∈ idx k ps → k ≤ i
  | [], _, _, h => by cases h
  | (q, b) :: ps, k, i, h => by
    unfold idx at h
    cases b with
    | false => exact Nat.le_of_succ_le (idx_ge ps (k + 1) i (by simpa using h))
    | true =>
      rcases List.mem_cons.mp (by simpa using h) with rfl | h
      · exact Nat.le_refl _
      · exact Nat.le_of_succ_le (idx_ge ps (k + 1) i h)
theorem idx_mem : ∀ (ps : List (Rat × Bool)) (k j : Nat), (k + j ∈ idx k ps) ↔ ∃ q, ps[j]? = some (q, true)
  | [], k, j => by simp [idx]
  | (q, b) :: ps, k, 0 => by
    have : ¬ k ∈ idx (k + 1) ps := fun z => by have := idx_ge ps _ _ z; omega
    unfold idx
    cases b <;> simp [this]
  | (q, b) :: ps, k, j + 1 => by
    have := idx_mem ps (k + 1) j
    rw [show k + 1 + j = k + (j + 1) by omega] at this
    unfold idx
    cases b with
    | false => simpa using this
    | true => simpa using this
theorem idx_head : ∀ (ps : List (Rat × Bool)) (k j : Nat), (idx k ps).head? = some (k + j) ↔ (∃ q, ps[j]? = some (q, true)) ∧ (ps.take j).any (·.2) = false
  | [], k, j => by simp [idx]
  | (q, b) :: ps, k, 0 => by
    unfold idx
    cases b with
    | false =>
      have : ¬ (idx (k + 1) ps).head? = some k := fun z => by
        have := idx_ge ps _ _ (List.mem_of_mem_head? z)
        omega
      simpa using this
    | true => simp
  | (q, b) :: ps, k, j + 1 => by
    have := idx_head ps (k + 1) j
    rw [show k + 1 + j = k + (j + 1) by omega] at this
    unfold idx
    cases b with
    | false => simpa using this
    | true => simp
theorem idx_append : ∀ (as bs : List (Rat × Bool)) (k : Nat), idx k (as ++ bs) = idx k as ++ idx (k + as.length) bs
  | [], bs, k => rfl
  | (q, b) :: as, bs, k => by
    show (if b then k :: idx (k + 1) (as ++ bs) else idx (k + 1) (as ++ bs)) = (if b then k :: idx (k + 1) as else idx (k + 1) as) ++ _
    rw [idx_append as bs (k + 1), List.length_cons, show k + 1 + as.length = k + (as.length + 1) by omega]
    cases b <;> simp
theorem idx_get : ∀ (ps : List (Rat × Bool)) (k : Nat), (idx k ps).map (fun i => (ps.map (·.1))[i - k]?) = (sel ps).map some
  | [], _ => rfl
  | (q, b) :: ps, k => by
    have ih := idx_get ps (k + 1)
    have e : (idx (k + 1) ps).map (fun i => (((q, b) :: ps).map (·.1))[i - k]?) = (idx (k + 1) ps).map (fun i => (ps.map (·.1))[i - (k + 1)]?) := by
      apply List.map_congr_left
      intro i hi
      have := idx_ge ps _ _ hi
      rw [List.map_cons, show i - k = (i - (k + 1)) + 1 by omega]
      rfl
    unfold idx sel
    cases b with
    | false => simpa [sel] using e.trans ih
    | true => simpa [sel] using e.trans ih
theorem tog_sum : ∀ (ps : List (Rat × Bool)), ps.any (·.2) = true → (tog (sel ps).sum ps).sum = (ps.map (·.1)).sum := by
  have key : ∀ ps : List (Rat × Bool), ((ps.filter (!·.2)).map (·.1)).sum + (sel ps).sum = (ps.map (·.1)).sum := by
    intro ps
    induction ps with
    | nil => simp [sel]; try grind
    | cons x ps ih =>
      obtain ⟨q, b⟩ := x
      cases b <;> simp [sel] at ih ⊢ <;> grind
  have gen : ∀ (T : Rat) (ps : List (Rat × Bool)), ps.any (·.2) = true → (tog T ps).sum = T + ((ps.filter (!·.2)).map (·.1)).sum := by
    intro T ps
    induction ps with
    | nil => intro h; cases h
    | cons x ps ih =>
      intro h
      obtain ⟨q, b⟩ := x
      cases b with
      | true => simp [tog]
      | false =>
        have := ih (by simpa using h)
        simp [tog, this]
        grind
  intro ps h
  rw [gen _ _ h, ← key ps]
  grind
theorem sel_mem {ps : List (Rat × Bool)} {q : Rat} (h : q ∈ sel ps) : q ∈ ps.map (·.1) := by
  unfold sel at h
  obtain ⟨x, hx, rfl⟩ := List.mem_map.mp h
  exact List.mem_map.mpr ⟨x, (List.mem_filter.mp hx).1, rfl⟩
theorem sel_le {ps : List (Rat × Bool)} (h : ∀ q ∈ ps.map (·.1), (0 : Rat) ≤ q) : (sel ps).sum ≤ (ps.map (·.1)).sum := by
  induction ps with
  | nil => simp [sel]
  | cons x ps ih =>
    obtain ⟨q, b⟩ := x
    have h0 := h q (by simp)
    have := ih fun q hq => h q (List.mem_cons_of_mem _ hq)
    cases b <;> simp [sel] at this ⊢ <;> grind
theorem tog_mem {T : Rat} : ∀ {ps : List (Rat × Bool)} {q : Rat}, q ∈ tog T ps → q = T ∨ q ∈ ps.map (·.1)
  | [], _, h => by cases h
  | (r, false) :: ps, q, h => by
    rcases List.mem_cons.mp (show q ∈ r :: tog T ps from h) with rfl | h
    · exact .inr (by simp)
    · rcases tog_mem h with h | h
      · exact .inl h
      · exact .inr (List.mem_cons_of_mem _ h)
  | (r, true) :: ps, q, h => by
    rcases List.mem_cons.mp (show q ∈ T :: (ps.filter (!·.2)).map (·.1) from h) with rfl | h
    · exact .inl rfl
    · obtain ⟨x, hx, rfl⟩ := List.mem_map.mp h
      exact .inr (List.mem_cons_of_mem _ (List.mem_map.mpr ⟨x, (List.mem_filter.mp hx).1, rfl⟩))
theorem Sh.tog {N : Int} {ps : List (Rat × Bool)} (s : Sh N (ps.map (·.1))) (h : ps.any (·.2) = true) : Sh N (DL.tog (sel ps).sum ps) := by
  refine ⟨s.pos, fun z => ?_, fun q hq => ?_, by rw [tog_sum ps h]; exact s.sum⟩
  · have := tog_sum ps h
    rw [z, s.sum] at this
    simp at this
  · rcases tog_mem hq with rfl | hq
    · refine ⟨?_, ov_sum s.pos fun q hq => (s.all q (sel_mem hq)).2⟩
      obtain ⟨x, hx, hb⟩ := List.any_eq_true.mp h
      have hm : x.1 ∈ sel ps := List.mem_map.mpr ⟨x, List.mem_filter.mpr ⟨hx, hb⟩, rfl⟩
      have h1 := (s.all _ (sel_mem hm)).1
      have h2 := mem_le_sum (fun q hq => Rat.le_of_lt (s.all q (sel_mem hq)).1) _ hm
      grind
    · exact s.all q hq
/-! ### both -/
def prods (as bs : List Rat) : List Rat := as.flatMap fun a => bs.map fun b => a * b
theorem sum_mul (a : Rat) : ∀ bs : List Rat, (bs.map fun b => a * b).sum = a * bs.sum
  | [] => by simp
  | b :: bs => by
    rw [List.map_cons, List.sum_cons, List.sum_cons, sum_mul a bs]
    grind
theorem prods_sum (bs : List Rat) : ∀ as : List Rat, (prods as bs).sum = as.sum * bs.sum
  | [] => by simp [prods]
  | a :: as => by
    have := prods_sum bs as
    unfold prods at this ⊢
    rw [List.flatMap_cons, List.sum_append, this, sum_mul, List.sum_cons]
    grind
theorem Sh.prods {N M : Int} {as bs : List Rat} (s : Sh N as) (t : Sh M bs) : Sh (N * M) (DL.prods as bs) := by
  refine ⟨Int.mul_pos s.pos t.pos, fun z => ?_, fun q hq => ?_, by rw [prods_sum, s.sum, t.sum]; grind⟩
  · have := prods_sum bs as
    rw [z, s.sum, t.sum] at this
    simp at this
  · unfold DL.prods at hq
    obtain ⟨a, ha, hq⟩ := List.mem_flatMap.mp hq
    obtain ⟨b, hb, rfl⟩ := List.mem_map.mp hq
    exact ⟨Rat.mul_pos (s.all a ha).1 (t.all b hb).1, ov_mul s.pos t.pos (s.all a ha).2 (t.all b hb).2⟩

theorem const_tup2 {K : PySem.W.Frag} {z : Addr} {od : Option Addr} {i j : Int} {t u : Tok} {n : Nat} {sl : Array (Option Value)} (l : K.lookup z = some ⟨.type "tuple", od, .seq #[.int i t, .int j u] n, sl⟩) : ∀ H, DV K H (.tup [.int i, .int j]) (.ref z) := fun H =>
  ⟨z, [.int i, .int j], rfl, .inr ⟨_, _, _, l, rfl, rfl, (show 2 ≤ 16777216 by decide), .cons ⟨_, rfl⟩ (.cons ⟨_, rfl⟩ .nil)⟩, DVs.cons rfl (DVs.cons rfl DVs.nil)⟩
def nts (ts : List Nat) : D := .tup (ts.map fun (t : Nat) => D.int (t : Int))
theorem inD_nat (i : Nat) (ts : List Nat) : inD (.int (i : Int)) (ts.map fun (t : Nat) => D.int (t : Int)) = decide (i ∈ ts) := by
  induction ts with
  | nil => rfl
  | cons t ts ih =>
    unfold inD inV at ih ⊢
    simp only [List.map_cons, List.any_cons] at ih ⊢
    rw [ih]
    have : eqV (fl (.int (t : Int))) (fl (.int (i : Int))) = decide (i = t) := by
      show ((t : Int) == (i : Int)) = decide (i = t)
      by_cases h : i = t
      · subst h; simp
      · rw [decide_eq_false h]; simp; omega
    rw [this]
    simp
end DL
namespace DL
theorem fr_at {qs : List Rat} {i : Nat} {x : D} (h : (qs.map fr)[i]? = some x) : ∃ q, qs[i]? = some q ∧ x = fr q := by
  rw [List.getElem?_map] at h
  cases e : qs[i]? with
  | none => rw [e] at h; cases h
  | some q => rw [e] at h; exact ⟨q, rfl, (Option.some.inj h).symm⟩
theorem take_succ_sum {qs : List Rat} {i : Nat} {q : Rat} (h : qs[i]? = some q) : (qs.take (i + 1)).sum = (qs.take i).sum + q := by
  rw [List.take_succ, h, List.sum_append]
  simp only [Option.toList_some, List.sum_cons, List.sum_nil]
  grind

theorem idx_len : ∀ (ps : List (Rat × Bool)) (k : Nat), (idx k ps).length ≤ ps.length
  | [], _ => Nat.le_refl _
  | (q, b) :: ps, k => by
    have := idx_len ps (k + 1)
    unfold idx
    cases b <;> simp <;> omega
theorem idx_lt (ps : List (Rat × Bool)) (t : Nat) (h : t ∈ idx 0 ps) : t < ps.length := by
  obtain ⟨q, hq⟩ := (idx_mem ps 0 t).mp (by rw [Nat.zero_add]; exact h)
  cases Nat.lt_or_ge t ps.length with
  | inl h => exact h
  | inr h2 => rw [List.getElem?_eq_none h2] at hq; cases hq
theorem idx_asc : ∀ (ps : List (Rat × Bool)) (k : Nat), (idx k ps).Pairwise (· < ·)
  | [], _ => .nil
  | (q, b) :: ps, k => by
    have := idx_asc ps (k + 1)
    unfold idx
    cases b with
    | false => simpa using this
    | true => exact .cons (fun i hi => idx_ge ps _ _ hi) this
theorem idx_ne {ps : List (Rat × Bool)} (h : ps.any (·.2) = true) : idx 0 ps ≠ [] := fun z => by
  obtain ⟨x, hx, hb⟩ := List.any_eq_true.mp h
  obtain ⟨j, hj, rfl⟩ := List.mem_iff_getElem.mp hx
  have := (idx_mem ps 0 j).mpr ⟨ps[j].1, by rw [List.getElem?_eq_getElem hj, ← hb]⟩
  rw [z] at this
  cases this
theorem tog_len (T : Rat) : ∀ ps : List (Rat × Bool), (tog T ps).length ≤ ps.length
  | [] => Nat.le_refl _
  | (q, false) :: ps => by
    have := tog_len T ps
    show (q :: tog T ps).length ≤ _
    simp; omega
  | (q, true) :: ps => by
    have := List.length_filter_le (fun x : Rat × Bool => !x.2) ps
    show (T :: (ps.filter (!·.2)).map (·.1)).length ≤ _
    simp; omega
def pickD (qs : List Rat) : D → D
  | .int t => fr (qs[t.toNat]?.getD 0)
  | d => d
def mulD (a : Rat) : D → D
  | .tup [.int n, .int m] => fr (a * ((n : Rat) / (m : Rat)))
  | d => d
theorem mulD_fr (a q : Rat) : mulD a (fr q) = fr (a * q) := by
  show fr (a * ((q.num : Rat) / (((q.den : Nat) : Int) : Rat))) = fr (a * q)
  rw [num_div_den']
theorem sel_vals (ps : List (Rat × Bool)) : ((idx 0 ps).map fun (t : Nat) => D.int (t : Int)).map (pickD (ps.map (·.1))) = (sel ps).map fr := by
  have h := idx_get ps 0
  rw [List.map_map]
  have e : (idx 0 ps).map (fun (t : Nat) => fr ((ps.map (·.1))[t]?.getD 0)) = ((idx 0 ps).map fun i => (ps.map (·.1))[i - 0]?).map fun o => fr (o.getD 0) := by rw [List.map_map]; rfl
  have e2 : ((sel ps).map some).map (fun o => fr (o.getD 0)) = (sel ps).map fr := by rw [List.map_map]; rfl
  rw [← e2, ← h, ← e]
  rfl
theorem prods_len (as bs : List Rat) : (prods as bs).length = as.length * bs.length := by
  unfold prods
  induction as with
  | nil => simp
  | cons a as ih => rw [List.flatMap_cons, List.length_append, ih, List.length_map, List.length_cons, Nat.succ_mul]; omega

theorem trues {xs : List D} : (xs.map fun _ => D.bl true) = (xs.map fun _ => true).map D.bl := by rw [List.map_map]; rfl
theorem num_pos' {q : Rat} (h : 0 < q) : 0 < q.num := by
  have h1 := Rat.num_nonneg.mpr (Rat.le_of_lt h)
  rcases Int.lt_or_eq_of_le h1 with h2 | h2
  · exact h2
  · have := num_div_den' q
    rw [← h2, Rat.intCast_zero, Rat.div_def, Rat.zero_mul] at this
    rw [← this] at h
    exact absurd h (by decide +kernel)

theorem sameD.ext : ∀ {n : Nat} {S S' : Sto} {x y : D}, sameD S n x y → Ext S S' → sameD S' n x y
  | 0, _, _, _, _, h, _ => h.elim
  | n + 1, S, S', x, y, h, e => by
    have lst : (∃ xs ys, RdL S y xs ∧ RdL S x ys ∧ ys.length = xs.length ∧ xs.length < 1000000 ∧ ∀ (i : Nat) u v, ys[i]? = some u → xs[i]? = some v → sameD S n u v) →
        ∃ xs ys, RdL S' y xs ∧ RdL S' x ys ∧ ys.length = xs.length ∧ xs.length < 1000000 ∧ ∀ (i : Nat) u v, ys[i]? = some u → xs[i]? = some v → sameD S' n u v :=
      fun ⟨xs, ys, hx, hy, hl, hb, hq⟩ => ⟨xs, ys, e.rd hx, e.rd hy, hl, hb, fun i u v h1 h2 => (hq i u v h1 h2).ext e⟩
    cases y with
    | non => exact h
    | bl b => exact h
    | int b => exact h
    | str b => exact h
    | tup xs =>
      obtain ⟨ys, h1, hl, hb, hq⟩ := h
      exact ⟨ys, h1, hl, hb, fun i u v h1 h2 => (hq i u v h1 h2).ext e⟩
    | ty _ => exact lst h
    | ref _ => exact lst h
    | fro _ => exact lst h
    | exc _ _ => exact lst h
end DL
set_option Elab.async false
set_option linter.all false
set_option maxRecDepth 100000
set_option maxHeartbeats 4000000
namespace DL
open PySem PySem.Spec PyProof.Rows L2
section
variable {X : Cx} {y : DXw}
/-! ### list.pop(i), zip of lists, range with a step, is True -/
def dPopAt : RMt := fun o ds S R => match o, ds with
  | .ref a, [.int i] => ∃ xs k d, S a = some (.lst xs) ∧ -(2 ^ 63) ≤ i ∧ i < 2 ^ 63 ∧ seqIndex? i xs.length = some k ∧ xs[k]? = some d ∧ R d (sup S a (.lst (xs.eraseIdx k)))
  | _, _ => False
theorem DVs.eraseIdx {K : PySem.W.Frag} {H : Hp} : ∀ {ds : List D} {vs : List V} (k : Nat), DVs K H ds vs → DVs K H (ds.eraseIdx k) (vs.eraseIdx k)
  | [], vs, k, h => by cases (show vs = [] from h); exact rfl
  | d :: ds, vs, 0, h => by
    obtain ⟨v, ws, rfl, _, h2⟩ := h
    exact h2
  | d :: ds, vs, k + 1, h => by
    obtain ⟨v, ws, rfl, h1, h2⟩ := h
    exact ⟨v, _, rfl, h1, DVs.eraseIdx k h2⟩
theorem md_popAt : MtR X "list.pop" (lmt X.K dPopAt) := by
  intro pins s σ H v vs vv us Q I rv rs h
  obtain ⟨o, ds, S, R, dv, dvs, so, h, k⟩ := h
  refine mt_popAt pins s σ H v vs vv us Q I rv rs ?_
  unfold dPopAt at h
  split at h
  · rename_i a i
    obtain ⟨xs, j, d, e, h1, h2, h3, h4, h⟩ := h
    cases (show v = V.ref a from dv)
    obtain ⟨w, ws, rfl, dw, q⟩ := dvs
    cases (show ws = [] from q)
    cases (show w = V.int i from dw)
    obtain ⟨zs, e1, r⟩ := so a _ e
    obtain ⟨z, hz, dz⟩ := r.get h4
    have g := Go.setLst so e (r.eraseIdx j)
    exact ⟨a, zs, i, j, z, rfl, rfl, e1, h1, h2, by rw [← r.length]; exact h3, hz, k d _ z _ g (DV.wr e1 (.inl ⟨_, rfl⟩) _ _ dz) h⟩
  · exact h.elim
def dIsB : ROp
  | .bl a, .bl b, S, R => R (.bl (decide (a = b))) S
  | _, _, _, _ => False
def dNotB : ROp
  | .bl a, .bl b, S, R => R (.bl (!decide (a = b))) S
  | _, _, _, _ => False
theorem od_isB : OpR X (compareOp .Is) (lop X.K dIsB) := by
  intro pins s σ H v w vv ww Q I rv rw' h
  obtain ⟨x, z, S, R, dx, dy, so, h, k⟩ := h
  refine op_isBl pins s σ H v w vv ww Q I rv rw' ?_
  cases x <;> cases z <;> first | exact False.elim h | skip
  case bl.bl a b => exact ⟨a, b, dx, dy, k (.bl (decide (a = b))) S _ H (Go.refl so) rfl h⟩
theorem od_notB : OpR X (compareOp .IsNot) (lop X.K dNotB) := by
  intro pins s σ H v w vv ww Q I rv rw' h
  obtain ⟨x, z, S, R, dx, dy, so, h, k⟩ := h
  refine op_notBl pins s σ H v w vv ww Q I rv rw' ?_
  cases x <;> cases z <;> first | exact False.elim h | skip
  case bl.bl a b => exact ⟨a, b, dx, dy, k (.bl (!decide (a = b))) S _ H (Go.refl so) rfl h⟩
/-- range(i, j, c) of n items -/
def rgC (lo c : Int) (n : Nat) : List D := (List.range n).map fun (i : Nat) => D.int (lo + (i : Int) * c)
def rRng3 (ta : RA) : RI := fun ρ S R => ta ρ S fun ds S1 => match ds with
  | [.int i, .int j, .int c] => ∃ n : Nat, RgC i j c n ∧ R (rgC i c n) (fun _ => True) S1
  | _ => False
theorem jok_rangeC {K : PySem.W.Frag} {H1 : Hp} {S1 : Sto} {lo c : Int} {n : Nat} : JOk K H1 S1 (Itc lo c n) (rgC lo c n) (fun _ => True) := by
  intro i H S g _
  unfold rgC
  refine ⟨fun x hx => ?_, fun hn => ?_⟩
  · rw [List.getElem?_map] at hx
    by_cases hi : i < n
    · rw [List.getElem?_range hi] at hx
      cases (Option.some.inj hx)
      exact ⟨hi, fun v H' ⟨e1, e2⟩ => by subst e1 e2; exact ⟨Go.refl g.ok, rfl⟩⟩
    · rw [List.getElem?_eq_none (by simpa using hi)] at hx; cases hx
  · rw [List.getElem?_eq_none_iff] at hn
    have : n ≤ i := by simpa using hn
    exact this
theorem pdi_range3 {tg a b c : Expr} {ta : RA} {p pos : Pos} (hm : X.mg "range" = none) (ha : PDA X y [a, b, c] ta) (hg : Gl X "range" := by rfl) (hs : starEach [a, b, c] X.env = (false, eval a X.env) :: starEach [b, c] X.env := by rfl) (hpl : (backTo pos (starEach [b, c] X.env)).any (·.1) = false := by rfl) :
    PDI X y tg (.Call (.Name "range" p) [a, b, c] [] pos) (rRng3 ta) := by
  refine PDI.of (pi_range3 hg hm ha hs hpl) fun σ H R h => ?_
  obtain ⟨ρ, S, Rd, sr, so, h, k⟩ := h
  refine ⟨ρ, S, _, sr, so, h, fun ds S1 vs H1 g dvs hn h1 => ?_⟩
  split at h1
  · rename_i i j c
    obtain ⟨v, ws, rfl, dv, v2, ws2, rfl, dv2, v3, ws3, rfl, dv3, q⟩ := dvs
    cases (show ws3 = [] from q)
    cases (show v = V.int i from dv)
    cases (show v2 = V.int j from dv2)
    cases (show v3 = V.int c from dv3)
    obtain ⟨n, h2, h3⟩ := h1
    exact ⟨i, j, c, n, rfl, h2, k _ _ _ _ _ g jok_rangeC h3⟩
  · exact h1.elim
/-- zip of two lists: as they stand at each turn -/
def zpD (xs zs : List D) : List D := (xs.zip zs).map fun p => D.tup [p.1, p.2]
def rZip (ta : RA) : RI := fun ρ S R => ta ρ S fun ds S1 => match ds with
  | [d, e] => ∃ xs zs, RdL S1 d xs ∧ RdL S1 e zs ∧ R (zpD xs zs) (fun S' => RdL S' d xs ∧ RdL S' e zs) S1
  | _ => False
theorem jok_zip {K : PySem.W.Frag} {H1 : Hp} {S1 : Sto} {d e : D} {v w : V} {a b : Addr} {xs zs : List D} (dv : DV K H1 d v) (dw : DV K H1 e w) (ev : v = .ref a) (ew : w = .ref b) : JOk K H1 S1 (Itz K a b) (zpD xs zs) (fun S' => RdL S' d xs ∧ RdL S' e zs) := by
  intro i H S g hr
  obtain ⟨a', vs, e1, q1, r1⟩ := RdL.sq g.ok hr.1 (DV.go g _ _ dv)
  obtain ⟨b', ws, e2, q2, r2⟩ := RdL.sq g.ok hr.2 (DV.go g _ _ dw)
  rw [ev] at e1; cases e1
  rw [ew] at e2; cases e2
  unfold zpD
  refine ⟨fun x hx => ?_, fun hn => ⟨vs, ws, q1, q2, ?_⟩⟩
  · rw [List.getElem?_map] at hx
    cases ez : (xs.zip zs)[i]? with
    | none => rw [ez] at hx; cases hx
    | some p =>
      rw [ez] at hx
      cases (Option.some.inj hx)
      obtain ⟨p1, p2⟩ := p
      obtain ⟨hx1, hx2⟩ := List.getElem?_zip_eq_some.mp ez
      obtain ⟨u, hu, du⟩ := r1.get hx1
      obtain ⟨t, ht, dt⟩ := r2.get hx2
      refine ⟨⟨vs, ws, u, t, q1, q2, hu, ht⟩, fun v' H' ⟨T, x1, y1, ev', hT, eH, ha, hb⟩ => ?_⟩
      have f1 := ha vs q1
      have f2 := hb ws q2
      rw [hu] at f1
      rw [ht] at f2
      cases (Option.some.inj f1)
      cases (Option.some.inj f2)
      subst ev' eH
      have g2 := Go.new (K := K) (o := .tup [u, t]) g.ok hT
      exact ⟨g2, T, _, rfl, .inl upd_same, DVs.cons (DV.go g2 _ _ du) (DVs.cons (DV.go g2 _ _ dt) DVs.nil)⟩
  · rw [List.getElem?_eq_none_iff, List.length_map, List.length_zip] at hn
    rw [← r1.length, ← r2.length]
    omega
theorem pdi_zip {e e2 : Expr} {ta : RA} {p pos tpos : Pos} {elts : List Expr} {kk : Nat} (hm : X.mg "zip" = none) (ha : PDA X y [e, e2] ta) (hg : Gl X "zip" := by rfl)
    (hs : starEach [e, e2] X.env = (false, eval e X.env) :: starEach [e2] X.env := by rfl) (hpl : (backTo pos (starEach [e2] X.env)).any (·.1) = false := by rfl) :
    PDI X y (.Tuple elts kk tpos) (.Call (.Name "zip" p) [e, e2] [] pos) (rZip ta) := by
  refine PDI.of (pi_zip hg hm ha hs hpl) fun σ H R h => ?_
  obtain ⟨ρ, S, Rd, sr, so, h, k⟩ := h
  refine ⟨ρ, S, _, sr, so, h, fun ds S1 vs H1 g dvs hn h1 => ?_⟩
  split at h1
  · rename_i d1 d2
    obtain ⟨v, ws, rfl, dv, v2, ws2, rfl, dv2, q⟩ := dvs
    cases (show ws2 = [] from q)
    obtain ⟨xs, zs, hx, hz, h1⟩ := h1
    obtain ⟨a, us, rfl, q1, r1⟩ := hx.sq g.ok dv
    obtain ⟨b, ts, rfl, q2, r2⟩ := hz.sq g.ok dv2
    exact ⟨a, b, us, ts, rfl, q1, q2, k _ _ _ _ _ g (jok_zip dv dv2 rfl rfl) h1⟩
  · exact h1.elim

/-! ### sorted(set(list of ints)) -/
end
section
variable {P : Program} {w : World} {A : Around} {E : Value → Shared → Prop} {s : Shared}
theorem call_set_listI {l : Addr} {items : Array Value} (ns : List Int) {Q : Value → Shared → Prop} (hh : A.handled = none) (hl : s.heap.IsList l items) (hit : IntsAre items.toList ns) (hb : ns.length + 1 < scanBound)
    (h : ∀ (h' : Heap) (tk c : Nat), SetR w h' s.heap.objs.size (fun j => decide (j ∈ ns)) c → c ≤ ns.length → (∀ b o, s.heap.get? b = some o → h'.get? b = some o) → Q (.ref s.heap.objs.size) { s with heap := h', toks := tk }) :
    wpAny (model P w) A (call (.type "set") [.ref l]) Q E s := by
  have hisz : items.size = ns.length := by
    have q := IntsAre.length hit
    rw [Array.length_toList] at q
    exact q
  obtain ⟨c, tl, hmro⟩ := F.called_set.mro
  have hmade := F.called_set.made
  have hsub := F.called_set.sub
  refine wpAny_call (codeAny_of_tree ?_)
  show wpAny _ _ (callAny (.type "set") _) _ _ _
  refine wpAny_pure ⟨Code.quiet_builtin _ (by decide +kernel), codeAny_builtin F.entry_type_call ?_⟩
  rw [Around.under_plain (weight_type_call_type "set" [.ref l] []) rfl]
  have h1 := F.called_set.notType
  have h2 := F.called_set.canCreate
  have hct := F.typeCall_set_1 (.ref l)
  repeat (any_goals (first | assumption | wp_step))
  refine codeAny_mono (code_set_led1 (.ref l) (E := E) (Q₁ := fun obj s₁ => obj = .ref s.heap.objs.size ∧ s₁ = { s with heap := s.heap.push { cls := .type "set", dict := none, data := .set #[] 0 (.fresh 0 0 (!w.params.followText "set-order")) } }) ⟨rfl, rfl⟩) fun r s₁ hr => ?_
  cases r with
  | error e => exact hr
  | ok fl =>
    cases fl with
    | ret obj =>
      obtain ⟨rfl, rfl⟩ := hr
      obtain ⟨h0, eh0⟩ : ∃ h0, h0 = s.heap.push { cls := .type "set", dict := none, data := .set #[] 0 (.fresh 0 0 (!w.params.followText "set-order")) } := ⟨_, rfl⟩
      rw [← eh0]
      have hS : h0.get? s.heap.objs.size = some { cls := .type "set", dict := none, data := .set #[] 0 (.fresh 0 0 (!w.params.followText "set-order")) } := by rw [eh0]; exact Heap.get?_push_size _ rfl
      have hz0 : h0.objs.size = s.heap.objs.size + 1 := by rw [eh0]; exact Heap.size_push ..
      have keep0 : ∀ b o, s.heap.get? b = some o → h0.get? b = some o := fun b o e => by rw [eh0]; exact Heap.get?_push_of_some _ e
      have hT : Shared.TypeIs { s with heap := h0 } (.ref s.heap.objs.size) "set" := ⟨_, hS, rfl⟩
      have hli := F.called_set.init.lookup
      have hbi := F.called_set.init.bind (.ref s.heap.objs.size)
      repeat (any_goals (first | assumption | wp_step))
      refine codeAny_mono (codeAny_call_builtin (R := wants (fun r s₂ => r = .none ∧ ∃ h' tk c, s₂ = { s with heap := h', toks := tk } ∧ SetR w h' s.heap.objs.size (fun j => decide (j ∈ ns)) c ∧ c ≤ ns.length ∧
          (∀ b o, s.heap.get? b = some o → h'.get? b = some o)) E) F.called_set.init.plain F.entry_set_init (check_set_init_1 hT ?_)) fun r₂ s₂ hr₂ => ?_
      · obtain ⟨ol, hol, hcl, nl, hdl⟩ := hl
        obtain ⟨ocls, odict, odata, oslots⟩ := ol
        simp only at hcl hdl
        subst hcl; subst hdl
        have hol' := keep0 _ _ hol
        have hsls := F.sub_list_set
        have hslf := F.sub_list_frozenset
        have hne : (Value.type "list" == Value.type "dict") = false := by decide
        have hl1 : h0.IsList l items := ⟨_, hol', rfl, nl, rfl⟩
        unfold Builtin.«set.__init__» noKeywords Builtin.Frozenset.updateFrom
        generalize hPI : pyIter = PI
        wp_walk
        subst hPI
        refine wpAny_pyIter_list hl1 ?_
        refine wpAny_bind (wpAny_runValue ?_)
        have hlS : l < s.heap.objs.size := Heap.lt_size hol
        have hh3 : A.in1.in1.in1.handled = none := by simp [hh]
        have hneI : l ≠ h0.objs.size := by rw [hz0]; exact Nat.ne_of_lt (Nat.lt_succ_of_lt hlS)
        have hSf : s.heap.objs.size ∉ [h0.objs.size, l] := by
          rw [hz0]; simp only [List.mem_cons, List.mem_singleton, List.not_mem_nil, or_false, not_or]
          exact ⟨Nat.ne_of_lt (Nat.lt_succ_self _), Nat.ne_of_gt hlS⟩
        have hval : ∀ (i : Nat) (v : Value), items[i]? = some v → ∃ k t, ns[i]? = some k ∧ v = .int k t := fun i v hv => by
          have hi : i < ns.length := by rw [← hisz]; exact (Array.getElem?_eq_some_iff.mp hv).1
          obtain ⟨t, e⟩ := PyProof.Rows.IntsAre.int_at hit i v (by rw [Array.getElem?_toList]; exact hv)
          refine ⟨ns[i], t, List.getElem?_eq_getElem hi, ?_⟩
          rw [e, List.getD_eq_getElem?_getD, List.getElem?_eq_getElem hi] <;> rfl
        refine set_update_ints ((Walks.list hh3 _ l hneI items).toS) s.heap.objs.size hSf ns hisz hb hval (items.size - 0) 0 _ (by omega) (Nat.zero_le _)
          ⟨⟨_, Heap.get?_push_size _ rfl, rfl, rfl⟩, (hl1.push _)⟩ ⟨0, Nat.le_refl 0, setR_new_at (Heap.get?_push_of_some _ hS)⟩ ?_
        intro s' c' hm hc' hS'
        obtain ⟨h', g2, d', tk', os'⟩ := s'
        have eg : g2 = s.gens := hm.gens
        have ed : d' = s.drawn := hm.drawn
        have eo : os' = s.os := hm.os
        subst eg; subst ed; subst eo
        refine wpAny_pure ?_
        show wpAny _ _ (ret Value.none) _ _ _
        rw [hisz] at hc'
        refine wpAny_pure ⟨rfl, h', tk', c', rfl, hS', hc', fun b o e => ?_⟩
        have hb0 : b < s.heap.objs.size := Heap.lt_size e
        exact hm.heap b o (by rw [hz0]; simp only [List.mem_cons, List.mem_singleton, List.not_mem_nil, or_false, not_or]; exact ⟨Nat.ne_of_lt hb0, Nat.ne_of_lt (Nat.lt_succ_of_lt hb0)⟩) (Heap.get?_push_of_some _ (keep0 b o e))
      · cases r₂ with
        | error e => exact hr₂
        | ok fl₂ =>
          cases fl₂ with
          | ret r =>
            obtain ⟨rfl, h', tk, c', rfl, hS', hc', hk'⟩ := hr₂
            repeat (any_goals (first | assumption | wp_step))
            exact h _ _ _ hS' hc' hk'
          | _ => exact hr₂.elim
    | _ => exact hr.elim
end
section
variable {X : Cx} {y : DXw}
def rSetOfI (K : PySem.W.Frag) (w : World) : List V → Hp → VK → Prop := fun xs H Q => ∃ (l : Addr) (ns : List Int), xs = [V.ref l] ∧ SqL K H l (ns.map V.int) ∧ ns.length < 64 ∧
  ∀ (a : Addr) (c : Nat), H a = none → c ≤ ns.length → Q (.ref a) (upd H a (SetO w a (fun j => decide (j ∈ ns)) c))
theorem cr_setOfI (hc : X.calm = true) : CallR X (.type "set") (rSetOfI X.K X.w) := by
  intro pins s σ H xs us Q I r h
  obtain ⟨l, ns, rfl, hl, hf, q⟩ := h
  rw [Vals.ref1 r]
  obtain ⟨its, rv, pl, hz⟩ := I.list hl
  have hn : H s.heap.objs.size = none := I.hok.fresh (Nat.le_refl _)
  refine call_set_listI (P := X.prog) (w := X.w) ns (I.ok.hd hc) pl.isList (by simpa using ints_of_vals rv) (by unfold scanBound; omega) fun h' tk c R hcn k => ?_
  exact ⟨.ref s.heap.objs.size, upd H s.heap.objs.size (SetO X.w s.heap.objs.size (fun j => decide (j ∈ ns)) c), I.laid (t' := tk) k (Nat.le_refl _) (setO_new R), rfl, q _ c hn hcn⟩
def rSortSet (te : RE) : RE := fun ρ S Q => te ρ S fun d S1 => ∃ ns : List Int, RdL S1 d (ns.map D.int) ∧ ns.length < 64 ∧
  ∀ (ms : List Int) p, ms.Pairwise (· < ·) → (∀ k, k ∈ ms ↔ k ∈ ns) → S1 p = none → Q (.ref p) (sup S1 p (.lst (ms.map D.int)))
theorem pd_sortedSet {e : Expr} {te : RE} {p p2 pos pos2 : Pos} (hc : X.calm = true) (hm : X.mg "sorted" = none) (hm2 : X.mg "set" = none) (he : PD X y e te) (hg : Gl X "sorted" := by rfl) (hg2 : Gl X "set" := by rfl)
    (h1 : starEach [.Call (.Name "set" p2) [e] [] pos2] X.env = (false, eval (.Call (.Name "set" p2) [e] [] pos2) X.env) :: starEach [] X.env := by rfl) (h2 : starEach [e] X.env = (false, eval e X.env) :: starEach [] X.env := by rfl) :
    PD X y (.Call (.Name "sorted" p) [.Call (.Name "set" p2) [e] [] pos2] [] pos) (rSortSet te) := by
  refine PD.of (pe_callB (cr_sortedSet hc) hg hm (by decide +kernel) (pa_cons (pe_callTy (cr_setOfI hc) hg2 hm2 (by decide +kernel) (pa_cons he pa_nil (hs := h2)) (he := h2)) pa_nil (hs := h1)) (he := h1)) fun σ H Q h => ?_
  obtain ⟨ρ, S, R, sr, so, h, k⟩ := h
  refine ⟨ρ, S, _, sr, so, h, fun d S1 v H1 g1 dv hq => ?_⟩
  obtain ⟨ns, hx, hl, hQ⟩ := hq
  obtain ⟨a, vs, rfl, q, r⟩ := hx.sq g1.ok dv
  have ev := r.ints
  subst ev
  refine ⟨a, ns, rfl, q, hl, fun b c hb hcn => ?_⟩
  have g2 := Go.new (K := X.K) (o := SetO X.w b (fun j => decide (j ∈ ns)) c) g1.ok hb
  refine ⟨b, _, c, rfl, upd_same, by omega, fun ms p3 pw hm hlen hp => ?_⟩
  have g3 := Go.newLst g2.ok hp (DVs.of_ints (ns := ms))
  exact k (.ref p3) _ _ _ ((g1.trans g2).trans g3) rfl (hQ ms p3 pw (fun z => (hm z).trans (by simp)) (g2.ok.free hp))
end
end DL
namespace DL
open PySem PySem.Spec PyProof.Rows L2
def frP (q : Rat) : PyData := .tuple [.int q.num, .int (q.den : Int)]
theorem pyrs_frs {S : Sto} : ∀ qs : List Rat, PyRs S (qs.map fr) (qs.map frP)
  | [] => .nil
  | q :: qs => .cons (pyr_fr q) (pyrs_frs qs)
theorem lay_frs : ∀ qs : List Rat, PyData.canLayAll0 (qs.map frP) = true
  | [] => rfl
  | q :: qs => by
    show (PyData.canLay0 (frP q) && PyData.canLayAll0 (qs.map frP)) = true
    rw [lay_frs qs]
    rfl
theorem dep_frs : ∀ qs : List Rat, PyData.depthAll (qs.map frP) ≤ 3
  | [] => by simp [PyData.depthAll]
  | q :: qs => by
    have := dep_frs qs
    have h : PyData.depth (frP q) ≤ 3 := by simp [frP, PyData.depth, PyData.depthAll]
    simp only [List.map_cons, PyData.depthAll]
    omega
theorem shaped_frs (qs : List Rat) : SeqAt.shaped (.list (qs.map frP)) = true := by
  have h1 := lay_frs qs
  have h2 := dep_frs qs
  unfold SeqAt.shaped
  rw [show PyData.canLay0 (.list (qs.map frP)) = PyData.canLayAll0 (qs.map frP) from by simp [PyData.canLay0], h1, Bool.true_and]
  apply decide_eq_true
  simp only [PyData.depth]
  omega
end DL
set_option Elab.async false
set_option linter.all false
set_option maxRecDepth 100000
set_option maxHeartbeats 4000000
namespace DL
open PySem PySem.Spec PyProof.Rows L2 RZ
/-! ### tuple * int -/
theorem tuple_mul1 (l : Addr) (items : Array Value) (n : Nat) (dd : Option Addr) (sl : Array (Option Value)) (u : Tok) :
    Meets (Builtin.«tuple.__mul__» ⟨[.ref l, .int 1 u], []⟩) (fun _ R s => s.heap.get? l = some { cls := .type "tuple", dict := dd, data := .seq items n, slots := sl } ∧ R (.ok (.ret (Value.ref l))) s) :=
  .of_wp fun prog w A R s h => by
    obtain ⟨hp, g, d, tk, os⟩ := s
    obtain ⟨hl, h⟩ := h
    have f1 := AutoSeq1.idx_int
    have c1 : (items.isEmpty || (1 : Int) == 1) = true := by simp
    wp_walk using wpAny_loadPart' hl
    exact ⟨_, rfl, h⟩
section
variable {X : Cx} {y : DXw}
theorem op_repT1 : OpR X (binaryOp .Mult) (fun x y H Q => ∃ l xs, x = .ref l ∧ y = .int 1 ∧ SqT X.K H l xs ∧ Q (.ref l) H) := by
  intro pins s σ H x y v u Q I rx ry h
  obtain ⟨l, xs, rfl, rfl, hT, q⟩ := h
  cases rx
  obtain ⟨t, rfl⟩ := ry
  obtain ⟨its, r, ⟨⟨cls, dd, data, sl⟩, ho, hc, n, hd⟩, hs⟩ := I.tuple hT
  simp only at hc hd
  subst hc hd
  refine wpAny_binaryOp_repeat_ref (T := "tuple") (U := "int") (by decide) ⟨_, ho, rfl⟩ (fun s' => typeIs_int s' 1 t) noFill_tuple_mul F.fills_int_mul F.slot_int_rmul repeat_tuple F.slot_int_index.lookup
    (call_meets F.slot_int_rmul (typeIs_int s 1 t) F.entry_int_rmul (F.args_int_rmul_2 _ _) (int_rmul_tuple 1 t l its.toArray n dd sl)
      ⟨ho, rfl, ⟨_, ho, rfl⟩, call_meets F.slot_tuple_mul ⟨_, ho, rfl⟩ F.entry_tuple_mul (F.args_tuple_mul_2 _ _) (tuple_mul1 l its.toArray n dd sl t) ⟨ho, ?_⟩⟩)
  exact ⟨.ref l, H, I, rfl, q⟩
theorem DVs.rep {K : PySem.W.Frag} {H : Hp} {ds : List D} {vs : List V} (r : DVs K H ds vs) : ∀ n : Nat, DVs K H (List.replicate n ds).flatten (List.replicate n vs).flatten
  | 0 => DVs.nil
  | n + 1 => by rw [List.replicate_succ, List.replicate_succ, List.flatten_cons, List.flatten_cons]; exact r.append (DVs.rep r n)
def dMulT : ROp
  | .tup xs, .int k, S, R => xs ≠ [] ∧ 1 ≤ k ∧ k ≤ 1000 ∧ xs.length ≤ 1000 ∧ R (.tup (List.replicate k.toNat xs).flatten) S
  | _, _, _, _ => False
theorem od_mulT : OpR X (binaryOp .Mult) (lop X.K dMulT) := by
  intro pins s σ H v w vv ww Q I rv rw' h
  obtain ⟨x, y, S, R, dx, dy, so, h, k⟩ := h
  cases x <;> cases y <;> first | exact False.elim h | skip
  case tup.int xs j =>
    obtain ⟨a, vs, rfl, q, r⟩ := dx
    cases (show w = V.int j from dy)
    obtain ⟨hne, h1, h2, hl, h⟩ := h
    by_cases hj : j = 1
    · subst hj
      refine op_repT1 pins s σ H _ _ vv ww Q I rv rw' ⟨a, vs, rfl, rfl, q.sq, k (.tup _) S _ H (Go.refl so) ⟨a, vs, rfl, q, ?_⟩ h⟩
      rw [show (List.replicate (1 : Int).toNat xs).flatten = xs by simp]
      exact r
    · refine op_repT pins s σ H _ _ vv ww Q I rv rw' ⟨a, j, vs, rfl, rfl, q.sq, fun z => hne ?_, by omega, h2, by rw [← r.length]; exact hl, fun p hp => ?_⟩
      · have := r.length
        rw [z] at this
        exact List.eq_nil_of_length_eq_zero this
      · have g := Go.new (K := X.K) (o := .tup (List.replicate j.toNat vs).flatten) so hp
        exact k (.tup _) S _ _ g ⟨p, _, rfl, .inl upd_same, DVs.rep (DVs.go g _ _ r) _⟩ h
/-! ### max of a list -/
def dMax1 : RCall := fun ds S Q => match ds with
  | [d] => ∃ ns : List Int, RdL S d (ns.map D.int) ∧ 0 < ns.length ∧ ∀ m, m ∈ ns → (∀ y, y ∈ ns → y ≤ m) → Q (.int m) S
  | _ => False
theorem cd_max1 (hc : X.calm = true) : CallR X (.builtin "max") (lcl X.K dMax1) := by
  intro pins s σ H vs us Q I rv h
  obtain ⟨ds, S, R, dv, so, h, k⟩ := h
  unfold dMax1 at h
  split at h
  · rename_i d
    obtain ⟨v, rfl, r⟩ := dvs1 dv
    obtain ⟨ns, hx, hl, hq⟩ := h
    obtain ⟨a, ws, rfl, q, rr⟩ := hx.sq so r
    cases rr.ints
    exact cr_max hc pins s σ H _ us Q I rv ⟨a, ns, rfl, q, hl, fun m hm hy => k (.int m) S _ H (Go.refl so) rfl (hq m hm hy)⟩
  · exact h.elim
/-! ### zip of two tuples, or of two lists -/
def rZipA (ta : RA) : RI := fun ρ S R => ta ρ S fun ds S1 => match ds with
  | [.tup xs, .tup zs] => R (zpD xs zs) (fun _ => True) S1
  | [d, e] => ∃ xs zs, RdL S1 d xs ∧ RdL S1 e zs ∧ R (zpD xs zs) (fun S' => RdL S' d xs ∧ RdL S' e zs) S1
  | _ => False
theorem jok_zipT {K : PySem.W.Frag} {H1 : Hp} {S1 : Sto} {a b : Addr} {xs zs : List D} {vs ws : List V} (q1 : StT K H1 a vs) (r1 : DVs K H1 xs vs) (q2 : StT K H1 b ws) (r2 : DVs K H1 zs ws) : JOk K H1 S1 (ItzT K a b) (zpD xs zs) (fun _ => True) := by
  intro i H S g _
  have q1 := (g.tup q1).sq
  have q2 := (g.tup q2).sq
  have r1 := DVs.go g _ _ r1
  have r2 := DVs.go g _ _ r2
  unfold zpD
  refine ⟨fun x hx => ?_, fun hn => ⟨vs, ws, q1, q2, ?_⟩⟩
  · rw [List.getElem?_map] at hx
    cases ez : (xs.zip zs)[i]? with
    | none => rw [ez] at hx; cases hx
    | some p =>
      rw [ez] at hx
      cases (Option.some.inj hx)
      obtain ⟨p1, p2⟩ := p
      obtain ⟨hx1, hx2⟩ := List.getElem?_zip_eq_some.mp ez
      obtain ⟨u, hu, du⟩ := r1.get hx1
      obtain ⟨t, ht, dt⟩ := r2.get hx2
      refine ⟨⟨vs, ws, u, t, q1, q2, hu, ht⟩, fun v' H' ⟨T, x1, y1, ev', hT, eH, ha, hb⟩ => ?_⟩
      have f1 := ha vs q1
      have f2 := hb ws q2
      rw [hu] at f1
      rw [ht] at f2
      cases (Option.some.inj f1)
      cases (Option.some.inj f2)
      subst ev' eH
      have g2 := Go.new (K := K) (o := .tup [u, t]) g.ok hT
      exact ⟨g2, T, _, rfl, .inl upd_same, DVs.cons (DV.go g2 _ _ du) (DVs.cons (DV.go g2 _ _ dt) DVs.nil)⟩
  · rw [List.getElem?_eq_none_iff, List.length_map, List.length_zip] at hn
    rw [← r1.length, ← r2.length]
    omega
theorem pdi_zipA {e e2 : Expr} {ta : RA} {p pos tpos : Pos} {elts : List Expr} {kk : Nat} (hm : X.mg "zip" = none) (ha : PDA X y [e, e2] ta) (hg : Gl X "zip" := by rfl)
    (hs : starEach [e, e2] X.env = (false, eval e X.env) :: starEach [e2] X.env := by rfl) (hpl : (backTo pos (starEach [e2] X.env)).any (·.1) = false := by rfl) :
    PDI X y (.Tuple elts kk tpos) (.Call (.Name "zip" p) [e, e2] [] pos) (rZipA ta) := by
  refine PDI.of (pi_zipA hg hm ha hs hpl) fun σ H R h => ?_
  obtain ⟨ρ, S, Rd, sr, so, h, k⟩ := h
  refine ⟨ρ, S, _, sr, so, h, fun ds S1 vs H1 g dvs hn h1 => ?_⟩
  unfold rZipA at h1
  split at h1
  · rename_i xs zs
    obtain ⟨v, ws, rfl, dv, v2, ws2, rfl, dv2, q⟩ := dvs
    cases (show ws2 = [] from q)
    obtain ⟨a, us, rfl, q1, r1⟩ := dv
    obtain ⟨b, ts, rfl, q2, r2⟩ := dv2
    exact ⟨a, b, us, ts, rfl, .inr ⟨q1.sq, q2.sq, k _ _ _ _ _ g (jok_zipT q1 r1 q2 r2) h1⟩⟩
  · rename_i d1 d2 hne
    obtain ⟨v, ws, rfl, dv, v2, ws2, rfl, dv2, q⟩ := dvs
    cases (show ws2 = [] from q)
    obtain ⟨xs, zs, hx, hz, h1⟩ := h1
    obtain ⟨a, us, rfl, q1, r1⟩ := hx.sq g.ok dv
    obtain ⟨b, ts, rfl, q2, r2⟩ := hz.sq g.ok dv2
    exact ⟨a, b, us, ts, rfl, .inl ⟨q1, q2, k _ _ _ _ _ g (jok_zip dv dv2 rfl rfl) h1⟩⟩
  · exact h1.elim
end
end DL
set_option Elab.async false
set_option linter.all false
set_option maxRecDepth 100000
set_option maxHeartbeats 4000000
/-! DO: == and != with an empty list or tuple, [::-1] of lists and tuples, dict displays of written int keys. -/
namespace DL
open PySem PySem.Spec PyProof.Rows L2
section
variable {X : Cx} {y : DXw} {pos p p2 p3 : Pos} {e : Expr} {te : RE}
/-! ### x == [], x == () -/
def dEmp (n : Bool) : ROp := fun x y S R => (∃ xs, x = .tup xs ∧ y = .tup [] ∧ R (.bl (if n then !xs.isEmpty else xs.isEmpty)) S) ∨ ∃ xs, RdL S x xs ∧ RdL S y [] ∧ R (.bl (if n then !xs.isEmpty else xs.isEmpty)) S
theorem isEmpty_vs {α β : Type} {xs : List α} {ys : List β} (h : xs.length = ys.length) : xs.isEmpty = ys.isEmpty := by
  cases xs <;> cases ys <;> first | rfl | (simp at h)
theorem od_eqE (hu : X.A.units + 64 < cLine) : OpR X (compareOp .Eq) (lop X.K (dEmp false)) := by
  intro pins s σ H v w vv ww Q I rv rw' h
  obtain ⟨x, y, S, R, dx, dy, so, h, k⟩ := h
  have fin : ∀ (b : Bool), R (.bl b) S → EP X pins σ Q (.bool b) s := fun b q => ⟨.bl b, H, I, rfl, k (.bl b) S _ H (Go.refl so) rfl q⟩
  rcases h with ⟨xs, rfl, rfl, h⟩ | ⟨xs, hx, hy, h⟩
  · obtain ⟨a, vs, rfl, q, r⟩ := dx
    obtain ⟨b, ws, rfl, q2, r2⟩ := dy
    cases (show ws = [] from r2)
    cases rv
    cases rw'
    obtain ⟨its, rr, ht, hz⟩ := I.tuple q.sq
    obtain ⟨its2, rr2, ht2, hz2⟩ := I.tuple q2.sq
    cases rr2
    obtain ⟨o, ho, hc, n, hd⟩ := ht
    obtain ⟨o2, ho2, hc2, n2, hd2⟩ := ht2
    refine SeqAt.RcAt.tuples (items := its.toArray) (items2 := #[]) (e := fun _ => true) ⟨o, ho, hc, n, hd⟩ ⟨o2, ho2, hc2, n2, hd2⟩ (by omega) (fun j _ h2 => absurd h2 (by simp)) X.prog X.w _ _ ?_
    have e1 : ((List.range (min its.toArray.size (#[] : Array Value).size)).all (fun _ => true) && its.toArray.size == (#[] : Array Value).size) = xs.isEmpty := by
      rw [isEmpty_vs (r.length.trans rr.length)]
      cases its <;> simp
    rw [e1]
    exact fin _ h
  · obtain ⟨a, vs, rfl, q, r⟩ := hx.sq so dx
    obtain ⟨b, ws, rfl, q2, r2⟩ := hy.sq so dy
    cases (show ws = [] from r2)
    cases rv
    cases rw'
    obtain ⟨its, rr, ht, hz⟩ := I.list q
    obtain ⟨its2, rr2, ht2, hz2⟩ := I.list q2
    cases rr2
    have hl := ht.isList
    have hl2 := ht2.isList
    have e0 : xs.isEmpty = its.isEmpty := isEmpty_vs (r.length.trans rr.length)
    cases its with
    | nil =>
      refine SeqAt.RcAt.lists (e := fun _ => true) hl hl2 rfl (by omega) (fun j h1 _ => absurd h1 (by simp)) X.prog X.w _ _ ?_
      rw [show ((List.range (([] : List Value).toArray).size).all fun _ => true) = true from rfl]
      rw [e0] at h
      exact fin _ h
    | cons z its =>
      refine SeqAt.RcAt.lists_lengths hl hl2 (by simp) (by omega) X.prog X.w _ _ ?_
      rw [e0] at h
      exact fin _ h
theorem od_neE (hu : X.A.units + 64 < cLine) : OpR X (compareOp .NotEq) (lop X.K (dEmp true)) := by
  intro pins s σ H v w vv ww Q I rv rw' h
  obtain ⟨x, y, S, R, dx, dy, so, h, k⟩ := h
  have fin : ∀ (b : Bool), R (.bl b) S → EP X pins σ Q (.bool b) s := fun b q => ⟨.bl b, H, I, rfl, k (.bl b) S _ H (Go.refl so) rfl q⟩
  rcases h with ⟨xs, rfl, rfl, h⟩ | ⟨xs, hx, hy, h⟩
  · obtain ⟨a, vs, rfl, q, r⟩ := dx
    obtain ⟨b, ws, rfl, q2, r2⟩ := dy
    cases (show ws = [] from r2)
    cases rv
    cases rw'
    obtain ⟨its, rr, ht, hz⟩ := I.tuple q.sq
    obtain ⟨its2, rr2, ht2, hz2⟩ := I.tuple q2.sq
    cases rr2
    obtain ⟨o, ho, hc, n, hd⟩ := ht
    obtain ⟨o2, ho2, hc2, n2, hd2⟩ := ht2
    refine SeqAt.RcNeAt.tuples (items := its.toArray) (items2 := #[]) (e := fun _ => true) ⟨o, ho, hc, n, hd⟩ ⟨o2, ho2, hc2, n2, hd2⟩ (by omega) (fun j _ h2 => absurd h2 (by simp)) X.prog X.w _ _ ?_
    have e1 : ((List.range (min its.toArray.size (#[] : Array Value).size)).all (fun _ => true) && its.toArray.size == (#[] : Array Value).size) = xs.isEmpty := by
      rw [isEmpty_vs (r.length.trans rr.length)]
      cases its <;> simp
    rw [e1]
    exact fin _ h
  · obtain ⟨a, vs, rfl, q, r⟩ := hx.sq so dx
    obtain ⟨b, ws, rfl, q2, r2⟩ := hy.sq so dy
    cases (show ws = [] from r2)
    cases rv
    cases rw'
    obtain ⟨its, rr, ht, hz⟩ := I.list q
    obtain ⟨its2, rr2, ht2, hz2⟩ := I.list q2
    cases rr2
    have hl := ht.isList
    have hl2 := ht2.isList
    have e0 : xs.isEmpty = its.isEmpty := isEmpty_vs (r.length.trans rr.length)
    cases its with
    | nil =>
      refine SeqAt.RcNeAt.lists (e := fun _ => true) hl hl2 rfl (by omega) (fun j h1 _ => absurd h1 (by simp)) X.prog X.w _ _ ?_
      rw [show ((List.range (([] : List Value).toArray).size).all fun _ => true) = true from rfl]
      rw [e0] at h
      exact fin _ h
    | cons z its =>
      refine SeqAt.RcNeAt.lists_lengths hl hl2 (by simp) (by omega) X.prog X.w _ _ ?_
      rw [e0] at h
      exact fin _ h
end
end DL
set_option Elab.async false
set_option linter.all false
set_option maxRecDepth 100000
set_option maxHeartbeats 4000000
/-! DP: [::-1] of lists and tuples. -/
namespace DL
open PySem PySem.Spec PyProof.Rows L2
section
variable {prog : Program} {w : World} {A : Around} {E : Value → Shared → Prop} {s : Shared}
theorem rev_pick (xs : Array Value) : ((List.range xs.size).filterMap fun (k : Nat) => xs[(((xs.size : Int) - 1) + (k : Int) * (-1)).toNat]?).toArray = xs.toList.reverse.toArray := by
  congr 1
  apply List.ext_getElem?
  intro i
  have e : (List.range xs.size).filterMap (fun (k : Nat) => xs[(((xs.size : Int) - 1) + (k : Int) * (-1)).toNat]?) = (List.range xs.size).pmap (fun k (hk : k < xs.size) => xs[xs.size - 1 - k]'(by omega)) (fun k hk => List.mem_range.mp hk) := by
    have : ∀ (l : List Nat) (hl : ∀ k ∈ l, k < xs.size), l.filterMap (fun (k : Nat) => xs[(((xs.size : Int) - 1) + (k : Int) * (-1)).toNat]?) = l.pmap (fun k (hk : k < xs.size) => xs[xs.size - 1 - k]'(by omega)) hl := by
      intro l
      induction l with
      | nil => intro _; rfl
      | cons k l ih =>
        intro hl
        have hk := hl k (by simp)
        have e2 : (((xs.size : Int) - 1) + (k : Int) * (-1)).toNat = xs.size - 1 - k := by omega
        rw [List.filterMap_cons, e2, Array.getElem?_eq_getElem (by omega), List.pmap_cons, ih fun j hj => hl j (List.mem_cons_of_mem _ hj)]
    exact this _ fun k hk => List.mem_range.mp hk
  rw [e]
  by_cases hi : i < xs.size
  · rw [List.getElem?_eq_getElem (by simpa using hi), List.getElem?_eq_getElem (by simpa using hi)]
    simp
  · rw [List.getElem?_eq_none (by simpa using hi), List.getElem?_eq_none (by simpa using hi)]
theorem rev_applied {sl : Addr} {vl vu vs : Value} {n : Nat} {Q : Int × Int × Nat → Shared → Prop} (hs : s.heap.IsSliceOf sl vl vu vs) (pl : IsPart vl none) (pu : IsPart vu none) (ps : IsPart vs (some (-1)))
    (h : Q ((n : Int) - 1, -1, n) s) : wpAny (model prog w) A (Builtin.Slice.sliceApplied (.ref sl) (pure (n : Int))) Q E s := by
  obtain ⟨os, hos, hcs, hds⟩ := id hs
  unfold Builtin.Slice.sliceApplied Builtin.Slice.sliceFields
  refine wpAny_bind (wpAny_bind (wpAny_field hos hds (x := vl) rfl (wpAny_bind (wpAny_field hos hds (x := vu) rfl (wpAny_bind (wpAny_field hos hds (x := vs) rfl (wpAny_pure ?_)))))))
  refine wpAny_bind (HT.slicePart_ ps ?_)
  show wpAny _ _ (if ((-1 : Int) == 0) = true then _ else _) _ _ s
  rw [if_neg (by decide)]
  refine wpAny_bind (HT.slicePart_ pl (wpAny_bind (HT.slicePart_ pu (wpAny_bind (wpAny_pure ?_)))))
  have e : Builtin.Slice.sliceAdjust none none (-1) (n : Int) = ((n : Int) - 1, -1) := rfl
  have e2 : Builtin.Slice.slicePlaces ((n : Int) - 1) (-1) (-1) = n := by
    unfold Builtin.Slice.slicePlaces
    have h1 : ¬ ((-1 : Int) > 0) := by omega
    simp only [h1, if_false, Int.neg_neg, Int.ediv_one]
    split <;> omega
  show wpAny _ _ (match Builtin.Slice.sliceAdjust none none (-1) (n : Int) with | (lo, hi) => pure (lo, (-1 : Int), Builtin.Slice.slicePlaces lo hi (-1))) _ _ s
  rw [e]
  show wpAny _ _ (pure ((n : Int) - 1, (-1 : Int), Builtin.Slice.slicePlaces ((n : Int) - 1) (-1) (-1))) _ _ s
  rw [e2]
  exact wpAny_pure h
theorem rev_tuple {t sl : Addr} {items : Array Value} {vl vu vs : Value} {Q : Value → Shared → Prop} (ht : IsTup s.heap t items) (hs : s.heap.IsSliceOf sl vl vu vs) (pl : IsPart vl none) (pu : IsPart vu none) (ps : IsPart vs (some (-1)))
    (h : Q (.ref s.heap.objs.size) { s with heap := s.heap.push { cls := .type "tuple", data := .seq items.toList.reverse.toArray } })
    (hsz : items.size ≤ sizeLine) : wpAny (model prog w) A (getItem (.ref t) (.ref sl)) Q E s := by
  have htake : sizeOk (.seq items.toList.reverse.toArray) := by
    show items.toList.reverse.toArray.size ≤ sizeLine
    rw [List.size_toArray, List.length_reverse, Array.length_toList]
    exact hsz
  obtain ⟨os, hos, hcs, hds⟩ := id hs
  have hTs : s.TypeIs (.ref sl) "slice" := ⟨os, hos, hcs⟩
  unfold getItem
  try with_reducible refine wpAny_holding ?_
  first | refine wpAny_bind (wpAny_pure ?_) | skip
  refine wpAny_bind (wpAny_sequenceKey ht.typeIs (by decide) ?_)
  refine wpAny_bind (wpAny_callSpecial?_slot (name := Str.ofString "__getitem__") ht.typeIs PyProof.Rows.slot_tuple_getitem
    (wpAny_call_entry PyProof.Rows.slot_tuple_getitem ht.typeIs entry_tuple_getitem ?_ (args_tuple_getitem _ _)))
  show wpAny _ _ (Builtin.Tuple.tupleItemsOf (.ref t) >>= _) _ _ s
  refine wpAny_bind (tupleItemsOf_ ht ?_)
  refine wpAny_bind (wpAny_typeOf hTs ?_)
  rw [if_pos (by decide)]
  refine wpAny_bind (rev_applied hs pl pu ps ?_)
  have hno : ¬ ((((items.size : Int) - 1) == 0 && (-1 : Int) == 1 && items.size == items.size) = true) := by simp
  show wpAny _ _ (if (((items.size : Int) - 1) == 0 && (-1 : Int) == 1 && items.size == items.size) = true then _ else _) _ _ s
  rw [if_neg hno, rev_pick]
  first
    | exact wpAny_bind (m := Builtin.Tuple.tupleExact _) (wpAny_newObj_type (wpAny_pure ⟨_, rfl, wpAny_pure h⟩) htake)
    | exact wpAny_bind (m := Builtin.Tuple.tupleExact _) (wpAny_newObj_type (wpAny_bind (wpAny_pure (wpAny_pure ⟨_, rfl, wpAny_pure h⟩))) htake)
    | exact wpAny_bind (wpAny_bind (m := Builtin.Tuple.tupleExact _) (wpAny_newObj_type (wpAny_pure (wpAny_pure ⟨_, rfl, wpAny_pure h⟩)) htake))
    | exact wpAny_bind (wpAny_bind (m := Builtin.Tuple.tupleExact _) (wpAny_newObj_type (wpAny_pure ⟨_, rfl, wpAny_pure h⟩) htake))
end
section
variable {X : Cx} {y : DXw} {pos p1 p2 p3 : Pos} {e : Expr} {te : RE} {k : Nat}
def tRev2 (K : PySem.W.Frag) (te : TE) : TE := fun σ H Q => te σ H fun x H1 => ∃ a xs, x = .ref a ∧ ((SqL K H1 a xs ∧ ∀ p, H1 p = none → Q (.ref p) (upd H1 p (.lst xs.reverse))) ∨ (SqT K H1 a xs ∧ ∀ p, H1 p = none → Q (.ref p) (upd H1 p (.tup xs.reverse))))
theorem pe_rev2 {te : TE} (he : PE X e te) : PE X (.Subscript e (.Slice none none (some (.UnaryOp .USub (.Constant (.int 1) k p1) p2)) p3) pos) (tRev2 X.K te) := by
  refine ⟨fun pins s σ H Q I h => ?_⟩
  refine Subscript_ (thn (he.run pins s σ H _ I h) fun v s1 ⟨x, H1, I1, r1, q1⟩ => ?_)
  obtain ⟨a, xs, ex, hx⟩ := q1
  subst ex
  cases r1
  have hst : PO X (some (.UnaryOp .USub (.Constant (.int 1) k p1) p2)) (tPart (tUn (rU fun i => .int (-i)) (tC (.int 1)))) := po_some (pe_un un_neg pe_int)
  refine wpAny_Slice (thn (po_none.run pins s1 σ H1 (fun o H2 => o = none ∧ H2 = H1) I1 ⟨rfl, rfl⟩) fun vl s2 ⟨l, H2, I2, pl, el, e2⟩ => ?_)
  subst el e2
  refine thn (po_none.run pins s2 σ H2 (fun o H3 => o = none ∧ H3 = H2) I2 ⟨rfl, rfl⟩) fun vu s3 ⟨u, H3, I3, pu, eu, e3⟩ => ?_
  subst eu e3
  refine thn (hst.run pins s3 σ H3 (fun o H4 => o = some (-1) ∧ H4 = H3) I3 ⟨1, rfl, -1, rfl, rfl, rfl⟩) fun vs s4 ⟨o, H4, I4, ps, eo, e4⟩ => ?_
  subst eo e4
  have I5 : Inv X pins σ H4 { s4 with heap := s4.heap.push { cls := .type "slice", data := .fields #[vl, vu, vs] } } := I4.kept (t' := s4.toks) fun b ob q => Heap.get?_push_of_some _ q
  show wpAny (model X.prog X.w) X.A (subscriptTail e (.Slice none none (some (.UnaryOp .USub (.Constant (.int 1) k p1) p2)) p3) (.ref a) (.ref s4.heap.objs.size)) (EP X pins σ Q) X.xe { s4 with heap := s4.heap.push { cls := .type "slice", data := .fields #[vl, vu, vs] } }
  rcases hx with ⟨hx, q⟩ | ⟨hx, q⟩
  · obtain ⟨its, r, ht, hz⟩ := I5.list hx
    refine tail_any (ops := [.ref a, .ref s4.heap.objs.size]) ht.isList.typeIs (PySem.slot_list_getitem.lookup) ?_ (by with_unfolding_all rfl)
    refine wpAny_getItem_list_slice ht.isList (Heap.IsSliceOf.new _ vl vu vs) pl pu ps (by decide) ?_ (by rw [List.size_toArray]; have := r.length; omega)
    rw [PySem.W.krv_pick]
    refine ⟨.ref _, _, I5.laid (t' := s4.toks) (o := .lst xs.reverse) (fun b ob q => Heap.get?_push_of_some _ q) (Nat.le_refl _) ?_, rfl, q _ (I5.hok.fresh (Nat.le_refl _))⟩
    exact ⟨by rw [List.length_reverse]; exact hz, _, 0, r.reverse, Heap.get?_push_size _ rfl⟩
  · obtain ⟨its, r, ht, hz⟩ := I5.tuple hx
    have hti : IsTup { s4 with heap := s4.heap.push { cls := .type "slice", data := .fields #[vl, vu, vs] } }.heap a its.toArray := ht
    refine tail_any (ops := [.ref a, .ref s4.heap.objs.size]) hti.typeIs (PyProof.Rows.slot_tuple_getitem.lookup) ?_ (by with_unfolding_all rfl)
    refine rev_tuple hti (Heap.IsSliceOf.new _ vl vu vs) pl pu ps ?_ (by rw [List.size_toArray]; have := r.length; omega)
    refine ⟨.ref _, _, I5.laid (t' := s4.toks) (o := .tup xs.reverse) (fun b ob q => Heap.get?_push_of_some _ q) (Nat.le_refl _) ?_, rfl, q _ (I5.hok.fresh (Nat.le_refl _))⟩
    exact ⟨by rw [List.length_reverse]; exact hz, _, r.reverse, ⟨_, Heap.get?_push_size _ rfl, rfl, _, rfl⟩⟩
def dRev (d : D) (S : Sto) (Q : D → Sto → Prop) : Prop := match d with
  | .tup xs => Q (.tup xs.reverse) S
  | d => ∃ xs, RdL S d xs ∧ ∀ p, S p = none → Q (.ref p) (sup S p (.lst xs.reverse))
def rRev (te : RE) : RE := fun ρ S Q => te ρ S fun d S1 => dRev d S1 Q
theorem DVs.reverse {K : PySem.W.Frag} {H : Hp} {xs : List D} {vs : List V} (r : DVs K H xs vs) : DVs K H xs.reverse vs.reverse := by
  induction xs generalizing vs with
  | nil => cases (show vs = [] from r); exact rfl
  | cons x xs ih =>
    obtain ⟨v, ws, rfl, h1, h2⟩ := r
    rw [List.reverse_cons, List.reverse_cons]
    exact (ih h2).append ⟨v, [], rfl, h1, rfl⟩
theorem pd_rev (he : PD X y e te) : PD X y (.Subscript e (.Slice none none (some (.UnaryOp .USub (.Constant (.int 1) k p1) p2)) p3) pos) (rRev te) := by
  refine PD.of (pe_rev2 he) fun σ H Q h => ?_
  obtain ⟨ρ, S, R, sr, so, h, kk⟩ := h
  refine ⟨ρ, S, _, sr, so, h, fun d S1 v H1 g dv hd => ?_⟩
  have lst : (∃ xs, RdL S1 d xs ∧ ∀ p, S1 p = none → R (.ref p) (sup S1 p (.lst xs.reverse))) → ∃ a xs, v = .ref a ∧ ((SqL X.K H1 a xs ∧ ∀ p, H1 p = none → Q (.ref p) (upd H1 p (.lst xs.reverse))) ∨ (SqT X.K H1 a xs ∧ ∀ p, H1 p = none → Q (.ref p) (upd H1 p (.tup xs.reverse)))) := fun ⟨xs, hx, h⟩ => by
    obtain ⟨a, vs, rfl, q, r⟩ := hx.sq g.ok dv
    exact ⟨a, vs, rfl, .inl ⟨q, fun p hp => kk (.ref p) _ _ _ (g.trans (Go.newLst g.ok hp r.reverse)) rfl (h p (g.ok.free hp))⟩⟩
  cases d with
  | tup xs =>
    obtain ⟨a, vs, rfl, q, r⟩ := dv
    have hd : R (.tup xs.reverse) S1 := hd
    refine ⟨a, vs, rfl, .inr ⟨q.sq, fun p hp => ?_⟩⟩
    have g2 := Go.new (K := X.K) (o := .tup vs.reverse) g.ok hp
    exact kk (.tup xs.reverse) S1 _ _ (g.trans g2) ⟨p, _, rfl, .inl upd_same, DVs.go g2 _ _ r.reverse⟩ hd
  | _ => exact lst hd
end
end DL
set_option Elab.async false
set_option linter.all false
set_option maxRecDepth 100000
set_option maxHeartbeats 4000000
/-! DQ: dict displays of written int keys; what is under way, and repr of lists of ints. -/
namespace DL
open PySem PySem.Spec PyProof.Rows L2
section
variable {X : Cx} {y : DXw} {pos p1 p2 p3 : Pos} {a b v e : Expr} {ta tb te : RE} {k k2 : Nat}
def rDisp1 (i : Int) (te : RE) : RE := fun ρ S Q => ∀ p, S p = none → te ρ (sup S p (.dK [])) fun d S2 => S2 p = some (.dK []) ∧ Q (.ref p) (sup S2 p (.dK [(.inl i, d)]))
theorem pd_disp1 {i : Int} (hv : PD X y v te) : PD X y (.Dict [some (.Constant (.int i) k p1)] [v] pos) (rDisp1 i te) :=
  PD.of (pe_disp (pps_cons pe_int hv pps_nil) rfl rfl (by simp) (by simp)) fun σ H Q h => by
    obtain ⟨ρ, S, R, sr, so, h, kk⟩ := h
    intro p hp
    have g0 := Go.newDK (K := X.K) so.so hp .nil
    refine ⟨ρ, sup S p (.dK []), _, sr.go g0, so.go g0, h p (so.so.free hp), fun d S2 w H2 g2 dv h2 => ?_⟩
    obtain ⟨e2, q⟩ := h2
    obtain ⟨vs, e3, r⟩ := g2.ok p _ e2
    cases r
    exact ⟨e3, [(.inl i, w)], rfl, by simp, kk (.ref p) _ _ _ ((g0.trans g2).trans (Go.setDK g2.ok e2 (DKs.cons (k := .inl i) dv .nil))) rfl q⟩
def rDisp2 (i j : Int) (ta tb : RE) : RE := fun ρ S Q => ∀ p, S p = none → ta ρ (sup S p (.dK [])) fun d S2 => tb ρ S2 fun d2 S3 => S3 p = some (.dK []) ∧ Q (.ref p) (sup S3 p (.dK [(.inl i, d), (.inl j, d2)]))
theorem pd_disp2 {i j : Int} (hij : i ≠ j) (ha : PD X y a ta) (hb : PD X y b tb) : PD X y (.Dict [some (.Constant (.int i) k p1), some (.Constant (.int j) k2 p2)] [a, b] pos) (rDisp2 i j ta tb) :=
  PD.of (pe_disp (pps_cons pe_int ha (pps_cons pe_int hb pps_nil)) rfl rfl (by simp) (by simp)) fun σ H Q h => by
    obtain ⟨ρ, S, R, sr, so, h, kk⟩ := h
    intro p hp
    have g0 := Go.newDK (K := X.K) so.so hp .nil
    refine ⟨ρ, sup S p (.dK []), _, sr.go g0, so.go g0, h p (so.so.free hp), fun d S2 w H2 g2 dv h2 => ⟨ρ, S2, _, (sr.go g0).go g2, (so.go g0).go g2, h2, fun d2 S3 w2 H3 g3 dv2 h3 => ?_⟩⟩
    obtain ⟨e2, q⟩ := h3
    obtain ⟨vs, e3, r⟩ := g3.ok p _ e2
    cases r
    have em : mergeK [] [((.inl i : Key), w), (.inl j, w2)] = [(.inl i, w), (.inl j, w2)] := by
      simp [mergeK, putK, hij]
    refine ⟨e3, [(.inl i, w), (.inl j, w2)], rfl, by simp, ?_⟩
    rw [em]
    exact kk (.ref p) _ _ _ (((g0.trans g2).trans g3).trans (Go.setDK g3.ok e2 (DKs.cons (k := .inl i) (DV.go g3 _ _ dv) (DKs.cons (k := .inl j) dv2 .nil)))) rfl q
end
/-! ### what is under way -/
def wG (X : Cx) (g : List Code) : Cx := { X with A := { X.A with guards := some g }, xe := fun _ _ => False }
theorem wpAny_G {α : Type} {M : Model} {A : Around} {t : Sem α} {Q : α → Shared → Prop} {E : Value → Shared → Prop} {s : Shared} (h : ∀ g, wpAny M { A with guards := some g } t Q E s) : wpAny M A t Q E s := fun Γ p hΓ =>
  h (Γ.code.guards ++ guardsOf Γ.below) Γ p ⟨hΓ.1, hΓ.2.1, hΓ.2.2.1, fun g hg => by cases hg; rfl, hΓ.2.2.2.2⟩
section
variable {X : Cx} {y : DXw} {pins : List (Addr × Obj)} {σ : L2.St} {H : Hp} {s : Shared} {g : List Code}
theorem inv_toG (I : Inv X pins σ H s) : Inv (wG X g) pins σ H s :=
  ⟨⟨I.ok.mod, I.ok.kind, I.ok.glob, I.ok.blt, I.ok.above, I.ok.inj, I.ok.has, I.ok.cab, I.ok.hd, I.ok.frames, I.ok.stk, I.ok.exf, I.ok.bs, I.ok.bsz, I.ok.noex, I.ok.exfs, I.ok.funs, I.ok.frf⟩, I.os, I.bare, I.base, I.loc, I.cell, I.free, I.freeC, I.pin, I.hok, I.len⟩
theorem inv_ofG (I : Inv (wG X g) pins σ H s) : Inv X pins σ H s :=
  ⟨⟨I.ok.mod, I.ok.kind, I.ok.glob, I.ok.blt, I.ok.above, I.ok.inj, I.ok.has, I.ok.cab, I.ok.hd, I.ok.frames, I.ok.stk, I.ok.exf, I.ok.bs, I.ok.bsz, I.ok.noex, I.ok.exfs, I.ok.funs, I.ok.frf⟩, I.os, I.bare, I.base, I.loc, I.cell, I.free, I.freeC, I.pin, I.hok, I.len⟩
theorem sp_ofG {D : Ends} {f : Flow} (h : SP (wG X g) pins D f s) : SP X pins D f s := by
  cases f with
  | next => obtain ⟨σ', H', I, q⟩ := h; exact ⟨σ', H', inv_ofG I, q⟩
  | brk => obtain ⟨σ', H', I, q⟩ := h; exact ⟨σ', H', inv_ofG I, q⟩
  | cont => obtain ⟨σ', H', I, q⟩ := h; exact ⟨σ', H', inv_ofG I, q⟩
  | ret u => obtain ⟨v, σ', H', I, r, q⟩ := h; exact ⟨v, σ', H', inv_ofG I, r, q⟩
theorem pdss_G {sts : List Stmt} {t : List Code → RS} (h : ∀ g, PDSs (wG X g) y0 sts (t g)) : PDSs X y sts (fun E ρ S => ∀ g, t g E ρ S) := ⟨fun pins s σ H D I q => wpAny_G fun g => by
  obtain ⟨ρ, S, E, sr, so, q, eo⟩ := q
  exact wpAny_mono ((h g).run pins s σ H D (inv_toG I) ⟨ρ, S, E, sr, ⟨so.so, fun _ _ _ _ _ _ _ _ _ _ _ _ z => z.elim⟩, q g, eo⟩) (fun f s' hf => sp_ofG hf) fun _ _ z => z.elim⟩
theorem room_G {k : Nat} {A : Around} (r : Room k A) : Room k { A with guards := some g } := ⟨r.hd, r.dp, r.un⟩
end
/-! ### repr of a list of ints -/
def runL (a : Addr) : Code × Pos → Bool := fun
  | (.builtin "list.__repr__.loop" ⟨v :: _, _⟩, _) => Builtin.List.listSameRef v (.ref a)
  | _ => false
theorem runL_off (a : Addr) (c : Code) (p : Pos) (h : c.isGuard = false) : runL a (c, p) = false := by
  unfold runL
  split
  · next v rest kw _ heq => cases heq; simp [Code.isGuard, guardIds] at h
  · rfl
theorem runL_pos (a : Addr) (c : Code) (p : Pos) : runL a (c, p) = runL a (c, default) := by
  unfold runL
  split
  · next v rest kw _ heq => cases heq; rfl
  · next h =>
    split
    · next v rest kw _ heq => cases heq; exact (h _ _ _ _ rfl).elim
    · rfl
def txI (is : List Int) : List Str := is.map fun i => (Str.ofString (toString i))
/-- repr of the list at a, where g is under way -/
def repL (g : List Code) (a : Addr) (is : List Int) : Str := if (g.any fun c => runL a (c, default)) = true then "[...]" else listText (txI is)
theorem rep_items {prog : Program} {w : World} : ∀ {is : List Int} {its : List Value}, Vals (is.map V.int) its → (∀ i ∈ is, i.natAbs.log2 < 1920) → ∀ (j : Nat) (z : Value), its[j]? = some z → ∃ t, (txI is)[j]? = some t ∧ ReprIs prog w z t
  | [], _, r, _, j, z, e => by cases r; simp at e
  | i :: is, _, r, h, 0, z, e => by
    cases r with
    | cons r1 r2 =>
      obtain ⟨t, rfl⟩ := r1
      cases (Option.some.inj e)
      exact ⟨_, rfl, ReprIs.int t (h i (by simp))⟩
  | i :: is, _, r, h, j + 1, z, e => by
    cases r with
    | cons r1 r2 => exact rep_items r2 (fun i hi => h i (List.mem_cons_of_mem _ hi)) j z e
section
variable {X : Cx} {y : DXw} {g : List Code}
theorem call_repL (hg : X.A.guards = some g) (hu : X.A.units + 64 < cLine) : CallR X (.builtin "repr") (fun xs H Q => ∃ a is, xs = [.ref a] ∧ SqL X.K H a (is.map V.int) ∧ is ≠ [] ∧ (∀ i ∈ is, i.natAbs.log2 < 1920) ∧ (listText (txI is)).length ≤ sizeLine ∧ Q (.str (repL g a is)) H) := by
  intro pins s σ H xs us Q I r h
  obtain ⟨a, is, rfl, hs, hne, hz, hsz, q⟩ := h
  obtain ⟨u, rfl, t⟩ := vals1 r
  cases t
  obtain ⟨its, rr, ht, hzz⟩ := I.list hs
  obtain ⟨o, ho, hc, ne, hd⟩ := ht.isList
  cases its with
  | nil => exact absurd (List.map_eq_nil_iff.mp (List.eq_nil_of_length_eq_zero rr.length)) hne
  | cons z its =>
    refine call_repr_slot (by omega) ⟨o, ho, hc⟩ F.slot_list_repr.toG ?_
    by_cases hb : (g.any fun c => runL a (c, default)) = true
    · have q2 : Q (.str "[...]") H := by
        unfold repL at q
        rw [if_pos hb] at q
        exact q
      refine wpAny_call (codeAny_call_builtin_own (Code.quiet_builtin _ (by decide +kernel)) F.entry_list_repr (F.slot_list_repr.check _ _ _ _ _ _ _ _ ⟨o, ho, hc⟩ (F.args_list_repr_1 _) ?_))
      show wpOwn _ _ _ (Builtin.listReprAt 0 ⟨[.ref a], []⟩) _ _ s
      intro Γ p hcc hΓ
      have hrun : Γ.below.any (runL a) = true := by
        rw [any_eq_guards (runL_off a) (runL_pos a), hΓ.2.2.2.1 g hg]
        exact hb
      unfold Builtin.listReprAt
      simp [slotArgs, Builtin.List.listItems, seqItems?, Sem.wp_load_of (h := ho), hd, stack]
      show Sem.wp _ Γ (if (Γ.below.any (runL a)) = true then _ else _) _ _ p s
      rw [if_pos hrun]
      refine wpOwn_of_wpAny ?_ Γ p hcc hΓ
      refine wpAny_bind (wpAny_rule ?_)
      refine wpAny_bind (wpAny_mkStr (wpAny_pure ?_) (by decide +kernel))
      exact ⟨⟨_, _, rfl⟩, .str "[...]", H, I.tok _, ⟨_, rfl⟩, q2⟩
    · have q2 : Q (.str (listText (txI is))) H := by
        unfold repL at q
        rw [if_neg hb] at q
        exact q
      refine call_list_repr (g := g) ⟨o, ho, hc⟩ hg (fun v rest kw hm => ?_) ho hd (by unfold txI; rw [List.length_map, List.size_toArray]; have := rr.length; rw [List.length_map] at this; exact this) (fun j z' hj => rep_items rr hz j z' (by simpa using hj)) (fun h' u tk hk => ⟨_, _, rfl, .str _, H, I.kept (h' := h') (t' := tk) hk, ⟨_, rfl⟩, q2⟩) hsz
      cases hv : Builtin.List.listSameRef v (.ref a) with
      | false => rfl
      | true => exact absurd (List.any_eq_true.mpr ⟨_, hm, hv⟩) hb
def dRepr (g : List Code) : RCall := fun ds S Q => match ds with
  | [.ref a] => ∃ is : List Int, S a = some (.lst (is.map D.int)) ∧ is ≠ [] ∧ (∀ i ∈ is, i.natAbs.log2 < 1920) ∧ (listText (txI is)).length ≤ sizeLine ∧ Q (.str (repL g a is)) S
  | _ => False
theorem cd_repr (hg : X.A.guards = some g) (hu : X.A.units + 64 < cLine) : CallR X (.builtin "repr") (lcl X.K (dRepr g)) := by
  intro pins s σ H vs us Q I rv h
  obtain ⟨ds, S, R, dv, so, h, k⟩ := h
  refine call_repL hg hu pins s σ H vs us Q I rv ?_
  unfold dRepr at h
  split at h
  · rename_i a
    obtain ⟨v, rfl, r⟩ := dvs1 dv
    cases (show v = V.ref a from r)
    obtain ⟨is, e, h1, h2, h3, h4⟩ := h
    obtain ⟨ws, e2, r2⟩ := so a _ e
    cases r2.ints
    exact ⟨a, is, rfl, SqL.of e2, h1, h2, h3, k (.str (repL g a is)) S _ H (Go.refl so) rfl h4⟩
  · exact h.elim
/-- sum of a list or a tuple of ints -/
theorem sum_tup {prog : Program} {w : World} {A : Around} {E : Value → Shared → Prop} {s : Shared} {l : Addr} {its : List Value} {ns : List Int} {Q : Value → Shared → Prop} (hh : A.handled = none) (hl : s.heap.IsTuple l its.toArray) (hi : IntsAre its ns)
    (h : ∀ h' tk t', (∀ b o, s.heap.get? b = some o → h'.get? b = some o) → Q (.int ns.sum t') { s with heap := h', toks := tk }) : wpAny (model prog w) A (call (.builtin "sum") [.ref l]) Q E s := by
  obtain ⟨xs, e⟩ := hi.allInts.items
  have hn : numsOf (intItems xs).toList = ns := by rw [← e]; exact hi.numsOf
  rw [nums_intItems] at hn
  rw [e] at hl
  refine PySem.W.ktm_sumG hh hl fun h' tk t' hk => ?_
  have := h h' tk t' hk
  rw [preSum_eq, List.take_of_length_le (by simp), hn]; exact this
def dSumA : RCall := fun ds S Q => match ds with
  | [.tup xs] => ∃ ns : List Int, xs = ns.map D.int ∧ Q (.int ns.sum) S
  | [d] => ∃ ns : List Int, RdL S d (ns.map D.int) ∧ Q (.int ns.sum) S
  | _ => False
theorem cd_sumA (hc : X.calm = true) : CallR X (.builtin "sum") (lcl X.K dSumA) := by
  intro pins s σ H vs us Q I rv h
  obtain ⟨ds, S, R, dv, so, h, k⟩ := h
  unfold dSumA at h
  split at h
  · rename_i xs
    obtain ⟨v, rfl, a, ws, rfl, q, r⟩ := dvs1 dv
    obtain ⟨ns, rfl, h⟩ := h
    cases r.ints
    obtain ⟨its, rr, ht, hz⟩ := I.tuple q.sq
    obtain ⟨o, ho, hcl, n, hd⟩ := ht
    rw [Vals.ref1 rv]
    exact sum_tup (I.ok.hd hc) ⟨o, ho, hcl, n, hd⟩ rr.ints fun h' tk t' hk => ⟨.int _, H, I.kept hk, ⟨_, rfl⟩, k (.int ns.sum) S _ H (Go.refl so) rfl h⟩
  · rename_i d _
    obtain ⟨v, rfl, r⟩ := dvs1 dv
    obtain ⟨ns, hx, h⟩ := h
    obtain ⟨a, ws, rfl, q, r⟩ := hx.sq so r
    cases r.ints
    exact cr_sum hc pins s σ H _ us Q I rv ⟨a, ns, rfl, q, k (.int ns.sum) S _ H (Go.refl so) rfl h⟩
  · exact h.elim
end
end DL
set_option Elab.async false
set_option linter.all false
set_option maxRecDepth 100000
set_option maxHeartbeats 4000000
/-! DT: sorted of a list of ints. -/
namespace DL
open PySem PySem.Spec PyProof.Rows L2
section
variable {X : Cx}
def dSorted : RCall := fun ds S Q => match ds with
  | [d] => ∃ ns : List Int, RdL S d (ns.map D.int) ∧ ∀ (ms : List Int) (p : Addr), ms.Perm ns → ms.Pairwise (· ≤ ·) → S p = none → Q (.ref p) (sup S p (.lst (ms.map D.int)))
  | _ => False
theorem cd_sorted : CallR X (.builtin "sorted") (lcl X.K dSorted) := by
  intro pins s σ H vs us Q I rv h
  obtain ⟨ds, S, R, dv, so, h, k⟩ := h
  unfold dSorted at h
  split at h
  · rename_i d
    obtain ⟨v, rfl, r⟩ := dvs1 dv
    obtain ⟨ns, hx, h⟩ := h
    obtain ⟨a, ws, rfl, q, r⟩ := hx.sq so r
    cases r.ints
    exact cr_sortedI pins s σ H _ us Q I rv ⟨a, ns, rfl, q, fun ms p hm hp hn => k (.ref p) _ _ _ (Go.newLst so hn (DVs.of_ints (ns := ms))) rfl (h ms p hm hp (so.free hn))⟩
  · exact h.elim
end
end DL
set_option Elab.async false
set_option linter.all false
set_option maxRecDepth 100000
set_option maxHeartbeats 4000000
/-! DU: defs that are entered with no repr or comparison under way (guards = some []): repr of nested values is then a function of the value alone. -/
namespace DL
open PySem PySem.Spec PyProof.Rows L2
/-- the promise of a def that is entered with nothing under way -/
structure FnOkG (P : Program) (w : World) (K : PySem.W.Frag) (mg : Str → Option Value) (base : Heap) (CX : CXT) (k : Nat) (f : Addr) (fd : FuncData) (ps : List Str) (sp : Sp) : Prop where
  size : ∀ vs H Q E, sp vs H Q E → vs.length = ps.length
  go : ∀ (A : Around) (outs : List Env) (t : Shared) (H : Hp) (given : Args) (us : List Value) (vs : List V) (Q : VK) (E : XK), A.guards = some [] → Room k A → Env0 P w K mg base A outs t H → BindsTo t fd given (ps.zip us) →
    Vals vs us → sp vs H Q E → codeAny (model P w) A (.call (.ref f) given) (CR CX outs P w H t Q E) t
section
variable {P : Program} {w : World} {K : PySem.W.Frag} {mg : Str → Option Value} {base : Heap} {CX : CXT} {k : Nat} {f : Addr} {fd : FuncData} {ps : List Str} {sp : Sp}
theorem FnOkG.imp {sp' : Sp} (F : FnOkG P w K mg base CX k f fd ps sp) (h : ∀ vs H Q E, sp' vs H Q E → sp vs H Q E) : FnOkG P w K mg base CX k f fd ps sp' :=
  ⟨fun vs H Q E q => F.size vs H Q E (h _ _ _ _ q), fun A outs t H given us vs Q E hz hr he hb hv hs => F.go A outs t H given us vs Q E hz hr he hb hv (h _ _ _ _ hs)⟩
end
section
variable {P : Program} {w : World} {K : PySem.W.Frag} {mg : Str → Option Value} {base : Heap}
theorem okXG {x qual : Str} {st : Stmt} {f : Addr} {fd : FuncData} {N ps : List Str} {k : Nat} {sp : Sp} (F : Fun K x qual st f fd) (S : FnScope N ps (defScope st)) (hlen : ∀ vs H Q E, sp vs H Q E → vs.length = ps.length)
    (body : ∀ (cdv : Value) (A : Around) (outs : List Env) (t : Shared) (H : Hp) (vs : List V) (Q : VK) (E : XK), A.guards = some [] → Room k (A.deeper (envOfC qual (defScope st) t.heap.objs.size f cdv)) → sp vs H Q E →
      ∃ r, PSs (cxOf (L2.CX P w) P w K mg base N qual (defScope st) f cdv A outs t H E) (defBody st) r ∧ r { nx := fun _ H' => Q .non H', rt := Q } (start N vs) H) :
    FnOkG P w K mg base (L2.CX P w) (k + 1) f fd ps sp := by
  obtain ⟨c1, c2, c3, c4, c5, c6, cdv, c8, c9, rfl, look, code⟩ := F.ex
  constructor
  · exact hlen
  · intro A outs t H given us vs Q E hz room env bound vals promise
    have inK := env.mod.kin.keeps fun b o e => (env.bs b o e).1
    have free := env.mod.nolimit.keeps fun b o e => (env.bs b o e).1
    have kinds : ∀ y ∈ ps.zip us, (defScope st).names.lookup y.1 = some .local ∨ ((defScope st).names.lookup y.1 = some .cell ∧ ((cellsFrom (t.heap.objs.size + 1) (defScope st).names []).lookup y.1).isSome = true) := by
      rintro ⟨nm, val⟩ hy
      have := S.par nm (List.of_mem_zip hy).1
      rcases this with z | z
      · left; exact z
      · right; exact ⟨z, PySem.W.cellsFrom_some _ _ _ (.inl z)⟩
    refine codeAny_call_function room.depth (inK _ _ look) rfl S.co S.gen rfl (PySem.W.codeRec_of inK code) (bound _ _ _ _ (wpAny_newFunctionEnv_cells S.kind kinds fun env' ee t1 ic => ?_))
    subst ee
    refine ⟨free.keeps ic.toInCall.keep, codeAny_func ?_⟩
    obtain ⟨r, hr, hq⟩ := body cdv A outs t H vs Q E hz (room.deeper _) promise
    have J := inv_start (CX := L2.CX P w) (qual := qual) (f := f) (cd := cdv) (E := E) S room.hd env (hlen _ _ _ _ promise) vals ic
    refine wpAny_mono (hr.run [] t1 (start N vs) H _ J hq) (fun fl t2 out => ?_) fun e t2 out => out
    cases fl with
    | ret u =>
      obtain ⟨v, σ2, H2, J2, rel, q2⟩ := out
      exact ⟨v, H2, J2.os, J2.bare, J2.base, J2.hok, rel, q2⟩
    | next =>
      obtain ⟨σ2, H2, J2, q2⟩ := out
      exact ⟨V.non, H2, J2.os, J2.bare, J2.base, J2.hok, rfl, q2⟩
    | brk => obtain ⟨_, _, _, z⟩ := out; exact z.elim
    | cont => obtain ⟨_, _, _, z⟩ := out; exact z.elim
theorem fnEG {x qual : Str} {st : Stmt} {f : Addr} {fd : FuncData} {N ps : List Str} {k : Nat} {sp : DSp} (F : Fun K x qual st f fd) (S : FnScope N ps (defScope st))
    (len : ∀ ds S Q E, sp ds S Q E → ds.length = ps.length)
    (hbody : ∀ (cdv : Value) (A : Around) (outer : List Env) (s : Shared) (H : Hp) (E : XK) (RX : Addr → D → Sto → Prop), A.guards = some [] → Room k (A.deeper (envOfC qual (defScope st) s.heap.objs.size f cdv)) →
      ∃ t, PDSs (cxOf (L2.CX P w) P w K mg base N qual (defScope st) f cdv A outer s H E) (yOf E RX) (defBody st) t ∧ ∀ ds S Q, sp ds S Q RX → t { nx := fun _ S' => ∃ S2, Ext S2 S' ∧ Q .non S2, rt := fun d S' => ∃ S2, Ext S2 S' ∧ Q d S2 } (startD N ds) S) :
    FnOkG P w K mg base (L2.CX P w) (k + 1) f fd ps (toSp K sp) := by
  refine okXG F S (fun vs H Q E h => ?_) (fun cdv A outer s H vs Q E hz hr h => ?_)
  · obtain ⟨ds, S, R, RX, dvs, _, h, _⟩ := h
    rw [← dvs.length]
    exact len _ _ _ _ h
  · obtain ⟨ds, S, R, RX, dvs, so, h, k1, k2⟩ := h
    obtain ⟨t, ht, hq⟩ := hbody cdv A outer s H E RX hz hr
    refine ⟨_, ht, startD N ds, S, _, start_srv dvs, ⟨so, fun C d ρ S' dx w' σ H' g _ e dv q => k2 C d S' dx w' H' g e dv q⟩, hq ds S R h, ?_⟩
    exact ⟨fun ρ S' σ H' g _ ⟨S2, e, q⟩ => k1 .non S2 .non H' (g.less e) rfl q, fun d S' v H' g dv ⟨S2, e, q⟩ => k1 d S2 v H' (g.less e) dv q, fun _ _ _ _ _ _ z => z, fun _ _ _ _ _ _ z => z⟩
end
/-! ### repr -/
section
variable {X : Cx}
def GoodP (p : PyData) : Prop := p.showable = true ∧ p.hasDict = false ∧ p.depth ≤ 30 ∧ p.shown.length ≤ sizeLine
def dShow : RCall := fun ds S Q => match ds with
  | [d] => ∃ p, PyR S d p ∧ GoodP p ∧ Q (.str p.shown) S
  | _ => False
theorem cd_show (hz : X.A.guards = some []) (hu : X.A.units + 64 < cLine) : CallR X (.builtin "repr") (lcl X.K dShow) := by
  intro pins s σ H vs us Q I rv h
  obtain ⟨ds, S, R, dv, so, h, k⟩ := h
  unfold dShow at h
  split at h
  · rename_i d
    obtain ⟨v, rfl, r⟩ := dvs1 dv
    obtain ⟨p, hp, ⟨g1, g2, g3, g4⟩, h⟩ := h
    have dp := PyR.dp so p d v hp r
    obtain ⟨u, rfl, ru⟩ := vals1 rv
    have fin : ∀ (tk : Tok) (H' : Hp) (s' : Shared), Inv X pins σ H s' → EP X pins σ Q (.str p.shown tk) s' := fun tk H' s' J => ⟨.str p.shown, H, J, ⟨tk, rfl⟩, k (.str p.shown) S _ H (Go.refl so) rfl h⟩
    obtain ⟨as, rd⟩ := Dp.reads I p v u dp ru
    cases rd with
    | none => exact PySem.P.repr_of_none (fin _ H _ (I.tok _))
    | bool b => exact PySem.P.repr_of_bool (fin _ H _ (I.tok _))
    | int i t => exact PySem.P.repr_of_int (by simpa [PyData.showable] using g1) (fin _ H _ (I.tok _))
    | str x t => exact PySem.P.repr_of_str (fin _ H _ (I.tok _)) g4
    | list a1 a2 a3 a4 => exact repr_of_reads' (.list a1 a2 a3 a4) g1 (PyData.noDict_hsm g2) hz (by omega) (fun _ _ e => e) (fun h' u tk hk => fin u H _ (I.kept (h' := h') (t' := tk) hk)) g4
    | tuple a1 a2 a3 a4 => exact repr_of_reads' (.tuple a1 a2 a3 a4) g1 (PyData.noDict_hsm g2) hz (by omega) (fun _ _ e => e) (fun h' u tk hk => fin u H _ (I.kept (h' := h') (t' := tk) hk)) g4
    | dict a1 a2 a3 a4 a5 => cases g2
  · exact h.elim
end
mutual
theorem PyR.ext {S S' : Sto} (x : Ext S S') : ∀ (p : PyData) (d : D), PyR S d p → PyR S' d p
  | .none, _, h => by cases h; exact .non
  | .bool b, _, h => by cases h; exact .bl b
  | .int i, _, h => by cases h; exact .int i
  | .str t, _, h => by cases h; exact .str t
  | .tuple ps, _, h => by cases h with | tup hs => exact .tup (PyRs.ext x ps _ hs)
  | .list ps, _, h => by
    cases h with
    | fro hs => exact .fro (PyRs.ext x ps _ hs)
    | lst e hs => exact .lst (x _ _ e) (PyRs.ext x ps _ hs)
  | .dict _, _, h => by cases h
theorem PyRs.ext {S S' : Sto} (x : Ext S S') : ∀ (ps : List PyData) (ds : List D), PyRs S ds ps → PyRs S' ds ps
  | [], _, h => by cases h; exact .nil
  | p :: ps, _, h => by cases h with | cons h1 h2 => exact .cons (PyR.ext x p _ h1) (PyRs.ext x ps _ h2)
end
end DL
namespace DL
open PySem PySem.Spec PyProof.Rows L2
/-! ### the law's own call: nothing is under way there -/
theorem top_callG {P : Program} {w : World} {K : PySem.W.Frag} {mg mb : Str → Option Value} {CX : CXT} {k : Nat} {fn a : Addr} {fd : FuncData} {x : Str} {sp : Sp} {t : Shared} {vs : List Value} {ns : List Int}
    (inK : K.In t.heap) (g1 : t.heap.Ns mainGlobals mg) (g2 : t.heap.Ns builtinsNs mb) (g3 : ∀ x : Str, x ≠ "__name__" → mb x = bootBuiltins x) (g4 : t.heap.NoLimit) (g5 : t.gens = #[])
    (obj : t.heap.get? a = some { cls := .type "list", data := .seq vs.toArray }) (areInts : IntsAre vs ns) (hshort : ns.length ≤ sizeLine) (room : Room k callerA)
    (F : ∀ base : Heap, K.In base → base.Ns mainGlobals mg → FnOkG P w K mg base CX k fn fd [x] sp) (bind : ∀ (s : Shared) (u : Value), BindsTo s fd ⟨[u], []⟩ [(x, u)])
    (promise : ∀ H : Hp, Only H → SqL K H a (ns.map V.int) → sp [.ref a] H (fun v _ => v = .bl true) fun _ _ _ => False)
    (noX : ∀ H e s', CX [] H t (fun _ _ _ => False) e s' → False) :
    codeAny (model P w) callerA (.call (.ref fn) ⟨[.ref a], []⟩) (fun r s' => r = .ok (.ret (.bool true)) ∧ OldK t.heap s'.heap ∧ s'.os = t.os ∧ AllBare s'.gens) t := by
  have vals := vals_ints areInts
  have vl := areInts.length
  suffices key : ∀ H : Hp, Only H → SqL K H a (ns.map V.int) → HOk P w H t.heap → (∀ b, H b ≠ none → b = a) → (H a ≠ none → K.lookup a = none) →
      codeAny (model P w) callerA (.call (.ref fn) ⟨[.ref a], []⟩) (fun r s' => r = .ok (.ret (.bool true)) ∧ OldK t.heap s'.heap ∧ s'.os = t.os ∧ AllBare s'.gens) t by
    cases look : K.lookup a with
    | some o =>
      have same := (inK a o look).symm.trans obj
      cases same
      exact key (fun _ => none) (fun _ => .inl rfl) (.inr ⟨_, vs.toArray, _, look, rfl, rfl, rfl, by rw [List.size_toArray, vl]; exact hshort, by simpa using vals⟩) (fun b u z => nomatch (show (none : Option HO) = some u from z)) (fun b z => absurd rfl z) (fun z => absurd rfl z)
    | none =>
      have at_a : ∀ b, b ≠ a → (if b = a then some (HO.frz { cls := .type "list", data := .seq vs.toArray } (.lst (ns.map V.int))) else none) = none := fun b z => if_neg z
      refine key (fun b => if b = a then some (.frz { cls := .type "list", data := .seq vs.toArray } (.lst (ns.map V.int))) else none) (fun b => ?_) (.inl (.inr ⟨_, if_pos rfl⟩)) (fun b u z => ?_) (fun b z => ?_) (fun _ => look)
      · rcases Classical.em (b = a) with y | y
        · exact .inr ⟨_, _, if_pos y⟩
        · exact .inl (at_a b y)
      · rcases Classical.em (b = a) with y | y
        · subst y
          cases (if_pos rfl).symm.trans z
          exact ⟨obj, by rw [List.length_map]; exact hshort, vs, _, vals, obj⟩
        · cases (at_a b y).symm.trans z
      · exact Classical.byContradiction fun y => z (at_a b y)
  intro H only sq hok onlyA freeA
  have under : ∀ {b : Addr} {o : Obj}, t.heap.get? b = some o → H b = none → (hidT t.heap H).get? b = some o := fun e n => hidT_get e n
  have noDict : ∀ {b : Addr} {o : Obj} {es : Array DictEntry} {ep : Nat}, t.heap.get? b = some o → o.data = .dict es ep → H b = none := by
    intro b o es ep e d
    refine Classical.byContradiction fun z => ?_
    have := onlyA b z
    subst this
    cases obj.symm.trans e
    cases d
  have nsU : ∀ {b : Addr} {m : Str → Option Value}, t.heap.Ns b m → (hidT t.heap H).Ns b m := by
    rintro b m ⟨o, es, ep, e, d, r⟩
    exact ⟨o, es, ep, under e (noDict e d), d, r⟩
  have inU : K.In (hidT t.heap H) := fun b o e => under (inK b o e) (Classical.byContradiction fun z => by
    have := onlyA b z
    subst this
    rw [freeA z] at e
    cases e)
  obtain ⟨mc, l1, l2⟩ := g4
  have md : Mod K mg (hidT t.heap H) := ⟨inU, nsU g1, ⟨mb, nsU g2, g3⟩, ⟨mc, nsU l1, l2⟩⟩
  have env : Env0 P w K mg (hidT t.heap H) callerA [] t H := ⟨rfl, md, fun b o e => of_hidT e, Nat.le_of_eq (hidT_size _ _), trivial, (fun b hb => absurd (List.mem_nil_iff b |>.mp hb) id), hok, .of_eq g5⟩
  refine codeAny_mono ((F _ inU (nsU g1)).go callerA [] t H ⟨[.ref a], []⟩ [.ref a] [.ref a] _ _ rfl room env (bind t (.ref a)) (.cons rfl .nil) (promise H only sq)) fun r s' out => ?_
  cases r with
  | error e => exact (noX H e s' out).elim
  | ok fl =>
    cases fl with
    | ret u =>
      obtain ⟨v, H2, os, bare, un, hok2, rel, q⟩ := out
      cases (show v = .bl true from q)
      cases (show u = Value.bool true from rel)
      refine ⟨rfl, OldK.of_keep fun b o e => ?_, os, bare⟩
      cases hb : H b with
      | none => exact un.keep b o e hb (fun z => by cases z) (by simp)
      | some c =>
        rcases only b with z | ⟨ob, xs, z⟩
        · rw [hb] at z; cases z
        · have e1 := (hok b _ z).1
          have e2 := (hok2 b _ (un.frzs b ob _ z)).1
          cases e1.symm.trans e
          exact e2
    | next => exact False.elim out
    | brk => exact False.elim out
    | cont => exact False.elim out
theorem walk_ofG {l : PySem.W.OpenLaw} {n k : Nat} {q : Program} {loose : List Str} {XP : (Str → Option Value) → Heap → Prop} {YP : World → Heap → Prop} {d : DefRec} {K : Params → PySem.W.Frag} {CX : World → CXT} {sp : World → Sp} {x : Str}
    (hn : l.most = some n) (hn2 : n ≤ sizeLine) (hdf : d.params.defaults = []) (room : Room k callerA) (hY : ∀ (w : World) (h : Heap), YP w h → (K w.params).In h)
    (F : ∀ (w : World) (mg : Str → Option Value) (fn : Addr) (h : Heap), (K w.params).In h → h.Ns mainGlobals mg → mg d.name = some (.ref fn) →
      ∃ fd : FuncData, (∀ (s : Shared) (u : Value), BindsTo s fd ⟨[u], []⟩ [(x, u)]) ∧ ∀ base : Heap, (K w.params).In base → base.Ns mainGlobals mg → FnOkG l.prog w (K w.params) mg base (CX w) k fn fd [x] (sp w))
    (promise : ∀ (w : World) (H : Hp) (a : Addr) (ns : List Int), ns.length ≤ n → Only H → SqL (K w.params) H a (ns.map V.int) → sp w [.ref a] H (fun v _ => v = .bl true) fun _ _ _ => False)
    (noX : ∀ (w : World) (H : Hp) (s : Shared) (e : Value) (s' : Shared), CX w [] H s (fun _ _ _ => False) e s' → False) :
    PySem.W.WalkO q loose XP YP l.row.toRowW d [] (fun f vs => PySem.call f vs) :=
  Att.attach_call hn hdf fun w _ t mg mb fn _ _ _ _ a vs ns G Y _ _ _ named obj areInts hshort gens => by
    have inK := hY w _ Y
    obtain ⟨fd, b, FF⟩ := F w mg fn _ inK G.T.g named
    exact top_callG inK G.T.g G.T.b G.T.builtins G.T.nolimit gens obj areInts (Nat.le_trans hshort hn2) room FF b (fun H only sq => promise w H a ns hshort only sq) fun H e s' => noX w H t e s'
end DL
set_option Elab.async false
set_option linter.all false
set_option maxRecDepth 100000
set_option maxHeartbeats 4000000
namespace DL
open PySem PySem.Spec PyProof.Rows L2

/-! ### held exceptions -/
theorem xo_ok {P : Program} {w : World} {H : Hp} {h : Heap} {a C dx : Addr} {oe : Obj} {vs : Array Value} (e : h.get? a = some oe) (z : Zc (.ref C) (some dx) oe) (d : oe.data = .fields vs) : ObjOk P w H h a (XO a C dx) :=
  ⟨⟨oe, vs, e, z, d⟩, ⟨oe, e⟩, fun _ _ ⟨o, v, q, r⟩ k => ⟨o, v, k o q, r⟩⟩
theorem xo_at {P : Program} {w : World} {H : Hp} {h : Heap} {a C dx : Addr} (hok : HOk P w H h) (he : H a = some (XO a C dx)) : ∃ oe vs, h.get? a = some oe ∧ Zc (.ref C) (some dx) oe ∧ oe.data = .fields vs := by
  have x : ObjOk P w H h a (.ext fun h => ∃ oe vs, h.get? a = some oe ∧ Zc (.ref C) (some dx) oe ∧ oe.data = .fields vs) := hok a _ he
  exact x.1
section
variable {X : Cx} {pins : List (Addr × Obj)} {σ : L2.St} {H : Hp} {s : Shared}
/-- an exception object that lies beside what is tracked is tracked from now on -/
theorem inv_track {a C dx : Addr} {oe : Obj} {vs : Array Value} (I : Inv X pins σ H s) (h0 : X.s_0.heap.get? a = none) (hn : H a = none) (he : s.heap.get? a = some oe) (hz : Zc (.ref C) (some dx) oe) (hd : oe.data = .fields vs)
    (nL : a ≠ X.env.locals) (nP : ∀ p ∈ X.pn ++ pins, p.1 ≠ a) : Inv X pins σ (upd H a (XO a C dx)) s := by
  refine ⟨I.ok, I.os, I.bare, ⟨I.base.keep, I.base.slot, fun b o e n hx => ?_, I.base.there, fun b xs e => ?_, fun b o u e => ?_, fun b ps e => ?_⟩, I.loc, I.cell, ?_, fun x c e => ?_, fun p hp => ?_, fun b u e => ?_, I.len⟩
  · rw [upd_ne (fun z => by rw [z, h0] at e; cases e)]
    exact I.base.free b o e n hx
  · have q := I.base.tups b xs e
    rw [upd_ne (ne_of_none q hn)]
    exact q
  · have q := I.base.frzs b o u e
    rw [upd_ne (ne_of_none q hn)]
    exact q
  · obtain ⟨m, q⟩ := I.base.tbls b ps e
    exact ⟨m, by rw [upd_ne (ne_of_none q hn)]; exact q⟩
  · rw [upd_ne nL.symm]
    exact I.free
  · have nc : c ≠ a := fun z => by
      obtain ⟨v, o, ho, hd'⟩ := I.cell x c e
      rw [z, he] at ho
      cases ho
      rw [hd] at hd'
      cases hd'
    rw [upd_ne nc]
    exact I.freeC x c e
  · obtain ⟨e, n, ne, nf, d⟩ := I.pin p hp
    exact ⟨e, by rw [upd_ne (nP p hp)]; exact n, ne, nf, d⟩
  · by_cases hb : b = a
    · subst hb
      rw [upd_same] at e
      cases e
      exact xo_ok he hz hd
    · rw [upd_ne hb] at e
      exact (I.hok b u e).stay (fun c v _ q => q) (fun c q => by rw [upd_ne (ne_of_none q hn)]; exact q) fun c xs q => by rw [upd_ne (ne_of_none q hn)]; exact q
theorem inv_suiteT (I : Inv X pins σ H s) (a : Addr) : Inv (X.suite a (X.pn ++ pins)) [] σ H s :=
  ⟨I.ok.suite _ _, I.os, I.bare, I.base, I.loc, I.cell, I.free, I.freeC, fun p hp => I.pin p (by rw [List.append_nil] at hp; exact hp), I.hok, I.len⟩
theorem inv_unsuiteT {a : Addr} {pn' : List (Addr × Obj)} (I : Inv (X.suite a (X.pn ++ pins)) pn' σ H s) (ok : X.Ok) : Inv X pins σ H s :=
  ⟨ok, I.os, I.bare, I.base, I.loc, I.cell, I.free, I.freeC, fun p hp => I.pin p (List.mem_append_left _ hp), I.hok, I.len⟩
end

/-- what the clause 'except x as n' wishes of an exception of the body, when the exception is held from then on -/
def wAsT (K : PySem.W.Frag) (c : Value) (i : Nat) (ts : TS) (Wout : WX) (D : Ends) : WX := fun cls d σ H =>
  ∃ b, PySem.W.exmOne K cls c = some b ∧ (b = true → ∃ C dx, cls = .ref C ∧ d = some dx ∧ ∀ a, H a = none → ts { nx := fun σ' H' => D.nx (σ'.set i none) H', rt := D.rt, bk := fun σ' H' => D.bk (σ'.set i none) H', ct := fun σ' H' => D.ct (σ'.set i none) H' } (σ.set i (some (.ref a))) (upd H a (XO a C dx))) ∧
    (b = false → Wout cls d σ H)
section
variable {X : Cx} {pins : List (Addr × Obj)} {σ : L2.St} {H : Hp} {s : Shared}
variable {x n : Str} {c : Value} {i : Nat} {body suite : List Stmt} {b₀ : Stmt} {np pos pos' : Pos} {tb : WX → TS} {ts : TS} {Wout : WX}
theorem ps_try_asT (hs : X.stack = X.env :: X.outer) (hf : X.env.frame = some X.env.locals) (hex : X.ex = []) (hN : X.N.Nodup) (hi : X.N[i]? = some n) (hln : X.env.kindOf n = some .local) (hc : Names X x c) (tk : Takes X Wout)
    (hb : ∀ (W : WX) (pn : List (Addr × Obj)) (xe : Value → Shared → Prop), Takes (X.tr pn xe) W → PassesOwn (model X.prog X.w) X.A X.env xe → PSs (X.tr pn xe) body (tb W))
    (hsu : ∀ (a : Addr) (pn : List (Addr × Obj)), PSs (X.suite a pn) (b₀ :: suite) ts) :
    PS X (.Try body [.ExceptHandler (some (.Name x np)) (some n) (b₀ :: suite) pos'] [] [] pos) (fun D σ H => tb (wAsT X.K c i ts Wout D) D σ H) := by
  refine ⟨fun pins s σ H D I h => ?_⟩
  have ok := I.ok
  have hfr : X.A.frames = some (X.env :: X.outer) := by rw [ok.frames, hs]
  have hloc : Loc X.env.scope n := .inl hln
  refine wpAny_Try_except ?_
  refine wpAny_mono ((hb (wAsT X.K c i ts Wout D) (X.pn ++ pins) (fun e s₁ => wpAny (model X.prog X.w) X.A (noteFrame e X.env) (fun _ s₂ => wpAny (model X.prog X.w) X.A (setFlight e none) (fun _ s₃ =>
    wpAny (model X.prog X.w) X.A (handleBy e X.env [.ExceptHandler (some (.Name x np)) (some n) (b₀ :: suite) pos']) (SP X pins D) X.xe s₃) X.xe s₂) X.xe s₁) (fun u s' xx => ?_) PassesOwn.looking).run [] s σ H D (I.toTry _) h) (fun f s1 hsp => ?_) (fun e s1 he => he)
  · -- the catch
    obtain ⟨a, B, sI, pins', σ', H', cls, d, rfl, J', nb, up, sky, na, os, ag, b, hb1, hyes, hno⟩ := xx
    have J : Inv X pins σ' H' sI := J'.ofTry ok
    have sky' : Sky B (X.env :: X.outer) a (Zc cls d) X.env.locals s'.heap := by rw [← hs]; exact sky
    show wpAny (model X.prog X.w) X.A (noteFrame (.ref a) X.env) _ _ _
    refine Sky.land Zc.steady hfr hf sky' fun h3 fl3 up3 => ?_
    have J3 : Inv X pins σ' H' { s' with heap := h3 } := J.landed nb fl3.1 (up.trans up3) os ag
    obtain ⟨oe3, vs3, he3, hz3, hd3⟩ := fl3.there
    have notFr : ∀ {h : Heap} {o : Obj} {vs : Array Value}, h.FunFrames B (X.env :: X.outer) → h.get? a = some o → o.data = .fields vs → a ∉ frs (X.env :: X.outer) := fun {h o vs} ff e dd hm => by
      obtain ⟨_, o', e', hnf⟩ := ff.mem hm
      rw [e] at e'; cases e'
      exact hnf _ dd
    have nfr := notFr fl3.2.2.1 he3 hd3
    have nL : a ≠ X.env.locals := fun z => nfr (List.mem_filterMap.mpr ⟨X.env, List.mem_cons_self, by rw [hf, z]⟩)
    have nF : a ∉ X.fs := fun hm => by
      obtain ⟨e, he, q⟩ := List.mem_filterMap.mp hm
      exact nfr (List.mem_filterMap.mpr ⟨e, List.mem_cons_of_mem _ he, q⟩)
    have nI : sI.heap.get? a = none := by
      cases e : sI.heap.get? a with
      | none => rfl
      | some o =>
        have q := nb a o e (by rw [hs]; exact nfr)
        rw [fl3.2.1] at q
        cases q
    have n0 : X.s_0.heap.get? a = none := by
      cases e : X.s_0.heap.get? a with
      | none => rfl
      | some o =>
        obtain ⟨o', q⟩ := J.base.there a o e (by rw [hex]; exact fun z => nomatch z)
        rw [nI] at q
        cases q
    have nP : ∀ p ∈ X.pn ++ pins, p.1 ≠ a := fun p hp z => by
      have q := (J.pin p hp).1
      rw [z, nI] at q
      cases q
    have S3 := J3.suite he3 hd3 na nL nF
    refine wpAny_handleBy_cons (codeAny_handlers_test ?_) (by intro q; cases q)
    have LT : PySem.W.Looks (model X.prog X.w) h3 (typeOf (.ref a)) cls := fun A Q E s k q => wpAny_typeOf_ref (k _ _ he3) (by rw [hz3.1]; exact q)
    have LM := PySem.W.exm_one (M := model X.prog X.w) (J3.kIn) LT hb1
    have test : ∀ {Q : Value → Shared → Prop} {E : Value → Shared → Prop}, Q c { s' with heap := h3 } → wpAny (model X.prog X.w) (X.A.mark (some (.ref a))) (eval (.Name x np) X.env) Q E { s' with heap := h3 } := fun {Q E} q => by
      obtain ⟨hg, hdbg, hm | ⟨hm, hv, hnn⟩⟩ := hc
      · exact ld_glob (X := X.suite a ((a, oe3) :: (X.pn ++ pins))) S3 hg hm q hdbg
      · exact ld_blt (X := X.suite a ((a, oe3) :: (X.pn ++ pins))) S3 hg hm hv q hnn hdbg
    refine test (LM.here ?_)
    cases b with
    | true =>
      refine codeAny_handlers_suite_as ?_
      refine HandSPX.lands_againZ fl3 fun h4 fl4 up4 => ?_
      have J4 : Inv X pins σ' H' { s' with heap := h4 } := J.landed nb fl4.1 ((up.trans up3).trans up4) os ag
      obtain ⟨oe4, vs4, he4, hz4, hd4⟩ := fl4.there
      obtain ⟨C, dx, rfl, rfl, hts⟩ := hyes rfl
      have S4 := inv_suiteT (inv_track J4 n0 na he4 hz4 hd4 nL nP) a
      refine store_ok (X := X.suite a (X.pn ++ pins)) (v := .ref a) S4 hN hi hloc rfl (fun s5 S5 => ?_) (.inr hln)
      refine wpAny_mono ((hsu a (X.pn ++ pins)).run [] s5 _ _ _ S5 (hts a na)) (fun f s6 hsp => ?_) (fun _ _ z => False.elim z)
      have end_ : ∀ {σ6 : L2.St} {H6 : Hp} {Q : Shared → Prop}, Inv (X.suite a (X.pn ++ pins)) [] σ6 H6 s6 → (∀ s7, Inv X pins (σ6.set i none) H6 s7 → Q s7) →
          wpAny (model X.prog X.w) X.A (do bindName X.env n .none; unbindBehindTheSuite X.env n pos') (fun _ s7 => Q s7) X.xe s6 := fun {σ6 H6 Q} S6 hq => gone_ok (inv_unsuiteT S6 ok) hN hi hln hq
      cases f with
      | next =>
        obtain ⟨σ6, H6, S6, q6⟩ := hsp
        exact end_ S6 fun s7 J7 => ⟨_, _, J7, q6⟩
      | brk =>
        obtain ⟨σ6, H6, S6, q6⟩ := hsp
        exact end_ S6 fun s7 J7 => ⟨_, _, J7, q6⟩
      | cont =>
        obtain ⟨σ6, H6, S6, q6⟩ := hsp
        exact end_ S6 fun s7 J7 => ⟨_, _, J7, q6⟩
      | ret u =>
        obtain ⟨v6, σ6, H6, S6, r6, q6⟩ := hsp
        exact end_ S6 fun s7 J7 => ⟨_, _, _, J7, r6, q6⟩
    | false =>
      show wpAny _ X.A (handleBy (.ref a) X.env []) _ _ _
      refine wpAny_handleBy_nil ?_
      obtain ⟨k1, k2, k3, oe, vs, T, oT, ts', he, hz, hd, h1, hr⟩ := id fl3
      unfold PySem.passOn
      refine wpAny_bind (wpAny_field he hd h1 ?_)
      rw [if_neg (show ¬ ((Value.ref T == Value.none) = true) from by simp)]
      have fin : wpAny (model X.prog X.w) X.A (setFlight (.ref a) X.env.frame) (fun _ s4 => wpAny (model X.prog X.w) X.A (throw (.ref a) : Sem Flow) (SP X pins D) X.xe s4) X.xe { s' with heap := h3 } := by
        rw [hf]
        refine HandSPX.setFlight_upZ fl3 fun h4 hh4 up4 => wpAny_throw (tk _ _ ?_)
        exact ⟨a, B, sI, pins, σ', H', cls, d, rfl, J, nb, (up.trans up3).trans up4, .inr (.inr (by rw [hs]; exact hh4)), na, os, ag, hno rfl⟩
      first
        | exact wpAny_bind (wpAny_pure (wpAny_bind fin))
        | exact wpAny_bind fin
  · cases f with
    | next =>
      obtain ⟨σ', H', J', q⟩ := hsp
      exact wpAny_execs_nil ⟨σ', H', J'.ofTry ok, q⟩
    | brk =>
      obtain ⟨σ', H', J', q⟩ := hsp
      exact ⟨σ', H', J'.ofTry ok, q⟩
    | cont =>
      obtain ⟨σ', H', J', q⟩ := hsp
      exact ⟨σ', H', J'.ofTry ok, q⟩
    | ret u =>
      obtain ⟨v, σ', H', J', r, q⟩ := hsp
      exact ⟨v, σ', H', J'.ofTry ok, r, q⟩
end

/-! ### try, over plain values -/
theorem dv_exc {K : PySem.W.Frag} {H : Hp} {C a dx : Addr} {w : V} {d : D} (h1 : H a = some (XO a C dx)) (h2 : H dx = some (.xd [(("value" : Str), w)])) (h3 : DV K H d w) : DV K H (.exc C d) (.ref a) := ⟨a, dx, w, rfl, h1, h2, h3⟩
theorem SRv.gone {K : PySem.W.Frag} {σ : L2.St} {H : Hp} {ρ : List (Option D)} (r : SRv K σ H ρ) (i : Nat) : SRv K (σ.set i none) H (ρ.set i none) := by
  refine ⟨by rw [List.length_set, List.length_set]; exact r.1, fun j e h => ?_⟩
  by_cases hj : i = j
  · subst hj
    have hl : i < ρ.length := by
      have := (List.getElem?_eq_some_iff.mp h).1
      rwa [List.length_set] at this
    rw [List.getElem?_set_self hl] at h
    cases h
  · rw [List.getElem?_set_ne hj] at h
    obtain ⟨u, e1, q1⟩ := r.2 j e h
    exact ⟨u, by rw [List.getElem?_set_ne hj]; exact e1, q1⟩
def goneE (i : Nat) (E : DEnds) : DEnds := { nx := fun ρ' S' => E.nx (ρ'.set i none) S', rt := E.rt, bk := fun ρ' S' => E.bk (ρ'.set i none) S', ct := fun ρ' S' => E.ct (ρ'.set i none) S' }
def dAs (K : PySem.W.Frag) (c : Value) (i : Nat) (ts : RS) (yo : DWX) (E : DEnds) : DWX := fun C d ρ S => ∃ b, PySem.W.exmOne K (.ref C) c = some b ∧ IFB b (ts (goneE i E) (ρ.set i (some (.exc C d))) S) (yo C d ρ S)
def rTry (K : PySem.W.Frag) (c : Value) (i : Nat) (yo : DWX) (tb : WX → DWX → RS) (ts : RS) : RS := fun E ρ S => ∀ W, tb W (dAs K c i ts yo E) E ρ S
section
variable {X : Cx} {y : DXw} {x n : Str} {c : Value} {i : Nat} {body suite : List Stmt} {b₀ : Stmt} {np pos pos' : Pos} {tb : WX → DWX → RS} {ts : RS}
theorem pd_try (i : Nat) (hs : X.stack = X.env :: X.outer) (hf : X.env.frame = some X.env.locals) (hex : X.ex = []) (hN : X.N.Nodup) (hi : X.N[i]? = some n) (hln : X.env.kindOf n = some .local) (hc : Names X x c) (tk : Takes X y.W)
    (hb : ∀ (W : WX) (d : DWX) (pn : List (Addr × Obj)) (xe : Value → Shared → Prop), Takes (X.tr pn xe) W → PDSs (X.tr pn xe) ⟨W, d⟩ body (tb W d))
    (hsu : ∀ (a : Addr) (pn : List (Addr × Obj)), PDSs (X.suite a pn) y0 (b₀ :: suite) ts) :
    PDS X y (.Try body [.ExceptHandler (some (.Name x np)) (some n) (b₀ :: suite) pos'] [] [] pos) (rTry X.K c i y.d tb ts) := by
  refine PDS.of (ps_try_asT (tb := fun W D σ H => ∃ d, lS X.K ⟨W, d⟩ (tb W d) D σ H) (ts := lS X.K y0 ts) hs hf hex hN hi hln hc tk (fun W pn xe tk' _ => ⟨fun pins s σ H D I ⟨d, q⟩ => (hb W d pn xe tk').run pins s σ H D I q⟩) hsu) fun D σ H h => ?_
  obtain ⟨ρ, S, E, sr, so, h, eo⟩ := h
  refine ⟨dAs X.K c i ts y.d E, ρ, S, E, sr, ⟨so.so, fun C d ρ' S' dx w σ' H' g sr' e dv hd => ?_⟩, h _, eo⟩
  obtain ⟨b, hb1, hi1⟩ := hd
  obtain ⟨h1, h2⟩ := hi1.of
  refine ⟨b, hb1, fun z => ⟨C, dx, rfl, rfl, fun a ha => ?_⟩, fun z => so.xo C d ρ' S' dx w σ' H' g sr' e dv (h2 z)⟩
  have gN := Go.new (K := X.K) (o := XO a C dx) g.ok ha
  refine ⟨ρ'.set i (some (.exc C d)), S', goneE i E, (sr'.go gN).set (dv_exc upd_same (by rw [upd_ne (ne_of_none e ha)]; exact e) (DV.go gN _ _ dv)) i, sx0 gN.ok, h1 z, ?_⟩
  have gA := g.trans gN
  exact ⟨fun ρ2 S2 σ2 H2 g2 sr2 q => eo.nx _ _ _ _ (gA.trans g2) (sr2.gone i) q, fun d2 S2 v2 H2 g2 dv2 q => eo.rt _ _ _ _ (gA.trans g2) dv2 q, fun ρ2 S2 σ2 H2 g2 sr2 q => eo.bk _ _ _ _ (gA.trans g2) (sr2.gone i) q, fun ρ2 S2 σ2 H2 g2 sr2 q => eo.ct _ _ _ _ (gA.trans g2) (sr2.gone i) q⟩
end
end DL
set_option Elab.async false
set_option linter.all false
set_option maxRecDepth 100000
set_option maxHeartbeats 4000000
namespace PySem
namespace HandSPX
open PySem.W PySem.Calls PyProof.Rows
section
variable {M : Model} {A : Around} {E : Value → Shared → Prop} {h : Heap} {g : Array GenState} {d : Drawn} {t : Nat} {os : OsState}
variable {nm q : Str} {C N : Addr} {bs bm bmB : List Value} {hdct : Bool} {sn : List Str} {sub : List Value} {ab : Bool} {col : Option Bool} {dd : Option Addr} {k0 k1 k2 k3 k5 : Option Value} {B newId initId : String}
theorem check_new_kw (F : ExcBaseFacts B newId initId bmB) (hT : ∀ X : String, bm.contains (.type X) = bmB.contains (.type X)) {rest : List Value} {kn : Str} {kv : Value} {Q : Unit → Shared → Prop}
    (hC : h.get? C = some (excClassObj nm q C N bs bm hdct sn sub ab col dd k0 k1 k2 k3 k5 newId)) (hq : Q () ⟨h, g, d, t, os⟩) : wpAny M A (checkBuiltinCall newId ⟨.ref C :: rest, [(kn, kv)]⟩) Q E ⟨h, g, d, t, os⟩ := by
  have hcont : (Value.ref C :: bm).contains (.type B) = true := by rw [List.contains_cons, hT, F.hasB, Bool.or_true]
  have hstar := F.noStar
  simp only [checkBuiltinCall, F.newKind, F.newSplit, F.newRow]
  repeat (first | refine wpAny_loadPart_at hC ?_ | (refine wpAny_isSubtype_exc hC ?_; rw [hcont]) | refine wpAny_staticBase_exc hC ?_ | refine wpAny_madeBy_exc hC ?_ | simp only [bne_self_eq_false, Bool.false_eq_true, if_false] | wp_step)
  exact hq
end
section
variable {prog : Program} {w : World} {A : Around} {E : Value → Shared → Prop} {R : Result → Shared → Prop} {h : Heap} {g : Array GenState} {d : Drawn} {t : Nat} {os : OsState}
variable {nm q : Str} {C N : Addr} {bs bm bmB : List Value} {hdct : Bool} {sn : List Str} {sub : List Value} {ab : Bool} {col : Option Bool} {dd : Option Addr} {k0 k1 k2 k3 k5 : Option Value} {B newId initId : String} {kn : Str} {kv : Value}
theorem new_kw (F : ExcBaseFacts B newId initId bmB) (hT : ∀ X : String, bm.contains (.type X) = bmB.contains (.type X)) {rest : List Value}
    (hC : h.get? C = some (excClassObj nm q C N bs bm hdct sn sub ab col dd k0 k1 k2 k3 k5 newId))
    (hq : R (.ok (.ret (.ref (h.objs.size + 1)))) ⟨(h.push { cls := .type "tuple", data := .seq rest.toArray }).push
      { cls := .ref C, data := .fields #[.ref h.objs.size, .none, .none, .none, .bool false, .none] }, g, d, t, os⟩) (hrest : rest.length ≤ sizeLine) :
    codeAny (model prog w) A (.builtin newId ⟨.ref C :: rest, [(kn, kv)]⟩) R ⟨h, g, d, t, os⟩ := by
  have hends := F.ends
  have hcB : (Value.ref C :: bm).contains (.type B) = true := by rw [List.contains_cons, hT, F.hasB, Bool.or_true]
  have hcA : (Value.ref C :: bm).contains (.type "AttributeError") = false := by rw [List.contains_cons, hT, F.noAttr]; rfl
  have hcN : (Value.ref C :: bm).contains (.type "NameError") = false := by rw [List.contains_cons, hT, F.noName]; rfl
  refine codeAny_builtinAt F.entry ?_
  unfold Builtin.«BaseException.__new__»
  refine wpAt_bind ?_
  show wpAt _ _ _ (stack >>= _) _ _ _
  refine wpAt_bind (wpAt_stack fun p below => wpAt_of_wpAny ?_)
  wp_walk
  refine wpAt_of_wpAny ?_
  rw [F.owner]
  repeat (first | with_reducible refine wpAny_madeHere_exc F.canon hC ?_ | with_reducible refine wpAny_loadPart_at hC ?_ | (with_reducible refine wpAny_isSubtype_exc hC ?_; first | rw [hcB] | rw [hcA] | rw [hcN]) | wp_step)
  show R _ _
  rw [Heap.size_push]
  exact hq
theorem type_call_kw (F : ExcBaseFacts B newId initId bmB) (hT : ∀ X : String, bm.contains (.type X) = bmB.contains (.type X)) {rest : List Value} {fI : Addr} {Q : Fin → Shared → Prop}
    (hC : h.get? C = some (excClassObj nm q C N bs bm hdct sn sub ab col dd k0 k1 k2 k3 k5 newId))
    (hi : W.Looks (model prog w) h (typeLookup (.ref C) "__init__") (some (.ref fI))) (hb : ∀ self, W.Looks (model prog w) h (bindSpecial (.ref fI) self) (.ref fI, [self])) (hrest : rest.length ≤ sizeLine)
    (hq : codeAny (model prog w) A (.call (.ref fI) ⟨.ref (h.objs.size + 1) :: rest, [(kn, kv)]⟩)
      (fun r s' => match r with | .ok (.ret v) => v = .none ∧ Q (.done (.ret (.ref (h.objs.size + 1)))) s' | .ok _ => False | .error e => E e s')
      ⟨(h.push (W.kdv_tup rest)).push (excO C h.objs.size), g, d, t, os⟩) :
    wpAny (model prog w) A (Builtin.«type.__call__» ⟨.ref C :: rest, [(kn, kv)]⟩) Q E ⟨h, g, d, t, os⟩ := by
  repeat (first | with_reducible refine wpAny_loadPart_at hC ?_ | with_reducible refine wpAny_madeBy_exc hC ?_ | wp_step)
  refine codeAny_call_builtin_code (Code.quiet_builtin _ F.quiet) (check_new_kw F hT hC ?_)
  refine new_kw F hT hC ?_ hrest
  show wpAny _ _ _ _ _ _
  have k : ∀ b o, h.get? b = some o → ((h.push (W.kdv_tup rest)).push (excO C h.objs.size)).get? b = some o := fun b o e => Heap.get?_push_of_some _ (Heap.get?_push_of_some _ e)
  have hC₁ := k _ _ hC
  have hget : ((h.push (W.kdv_tup rest)).push (excO C h.objs.size)).get? (h.objs.size + 1) = some (excO C h.objs.size) := by heap_get
  have hcC : (Value.ref C :: bm).contains (.ref C) = true := by simp
  have i1 := hi.keeps k
  have b1 := (hb (.ref (h.objs.size + 1))).keeps k
  unfold isInstance
  repeat (first | with_reducible refine wpAny_loadPart_at hget ?_ | (with_reducible refine wpAny_isSubtype_exc hC₁ ?_; rw [hcC]) | wp_step)
  show wpAny _ _ (typeLookup (.ref C) _) _ _ _
  refine i1.at ?_
  refine wpAny_holding (wpAny_bind (b1.at ?_))
  refine wpAny_bind (wpAny_call (codeAny_mono hq fun r s' z => ?_))
  rcases r with e | (v | _ | _ | _) <;> first | exact z | exact z.elim | skip
  obtain ⟨rfl, z⟩ := z
  first
    | exact wpAny_pure (wpAny_pure z)
    | (wp_walk; exact z)
theorem check_type_call_kw {M : Model} {rest : List Value} {Q : Unit → Shared → Prop} (hC : h.get? C = some (excClassObj nm q C N bs bm hdct sn sub ab col dd k0 k1 k2 k3 k5 newId))
    (hq : Q () ⟨h, g, d, t, os⟩) : wpAny M A (checkBuiltinCall "type.__call__" ⟨.ref C :: rest, [(kn, kv)]⟩) Q E ⟨h, g, d, t, os⟩ := by
  have f3 := tc_sub
  have hT : (⟨h, g, d, t, os⟩ : Shared).TypeIs (.ref C) "type" := ⟨_, hC, rfl⟩
  simp only [checkBuiltinCall, tc_kind, tc_split]
  repeat (any_goals (first | assumption | with_reducible refine wpAny_loadPart_at hC ?_ | with_reducible refine wpAny_onRaise ?_ | with_reducible refine wpAny_map ?_ | wp_step))
theorem call_own_kw (F : ExcBaseFacts B newId initId bmB) (hT : ∀ X : String, bm.contains (.type X) = bmB.contains (.type X)) {rest : List Value} {fI : Addr}
    (hC : h.get? C = some (excClassObj nm q C N bs bm hdct sn sub ab col dd k0 k1 k2 k3 k5 newId))
    (hi : W.Looks (model prog w) h (typeLookup (.ref C) "__init__") (some (.ref fI))) (hb : ∀ self, W.Looks (model prog w) h (bindSpecial (.ref fI) self) (.ref fI, [self])) (hrest : rest.length ≤ sizeLine)
    (hq : codeAny (model prog w) (A.under (.builtin "type.__call__" ⟨.ref C :: rest, [(kn, kv)]⟩)) (.call (.ref fI) ⟨.ref (h.objs.size + 1) :: rest, [(kn, kv)]⟩) (W.InitBack (h.objs.size + 1) R)
      ⟨(h.push (W.kdv_tup rest)).push (excO C h.objs.size), g, d, t, os⟩) :
    codeAny (model prog w) A (.call (.ref C) ⟨rest, [(kn, kv)]⟩) R ⟨h, g, d, t, os⟩ := by
  have f1 := tc_lookup
  have f2 := tc_bind (.ref C)
  have hTy : (⟨h, g, d, t, os⟩ : Shared).TypeIs (.ref C) "type" := ⟨_, hC, rfl⟩
  refine codeAny_of_tree ?_
  show wpAny _ _ (callAny (.ref C) _) _ _ _
  repeat (any_goals (first | assumption | with_reducible refine wpAny_loadPart_at hC ?_ | wp_step))
  refine ⟨rfl, ?_⟩
  refine codeAny_call_builtin_at (Code.quiet_builtin _ (by decide +kernel)) entry_typeCall (check_type_call_kw hC (type_call_kw F hT hC hi hb hrest ?_))
  refine codeAny_mono hq fun r s' z => ?_
  rcases r with e | (v | _ | _ | _) <;> exact z
end
end HandSPX
end PySem
set_option Elab.async false
set_option linter.all false
set_option maxRecDepth 100000
set_option maxHeartbeats 4000000
namespace DL
open PySem PySem.Spec PyProof.Rows L2
/-! ### an own class over TossError: made, raised -/
/-- the __init__ that stores its one argument as value -/
def spI (K : PySem.W.Frag) : Sp := fun vs H Q _ => ∃ a C v, vs = [.ref a, v] ∧ OexC K C ∧ PySem.W.findIn K (.ref C) "value" = some none ∧ H a = some (exo a C none) ∧ ∀ dx, H dx = none → dx ≠ a → Q .non (upd (upd H dx (exd dx [(("value" : Str), v)])) a (exo a C (some dx)))
/-- what the written part says of such a class -/
structure Own (K : PySem.W.Frag) (C fI : Addr) : Prop where
  ox : OexC K C
  ii : PySem.W.findIn K (.ref C) "__init__" = some (some (.ref fI))
  nv : PySem.W.findIn K (.ref C) "value" = some none
def rRaise (C : Addr) (yo : DWX) (te : RE) : RS := fun E ρ S => te ρ S fun d S1 => yo C d ρ S1
theorem made_eq {H : Hp} {a C dx : Addr} {v : V} (ha : H a = none) (hd : dx ≠ a) : upd (L2.del (upd (upd H dx (exd dx [(("value" : Str), v)])) a (exo a C (some dx))) a) dx (.xd [(("value" : Str), v)]) = upd H dx (.xd [(("value" : Str), v)]) := by
  funext b
  by_cases h1 : b = dx
  · rw [h1, upd_same, upd_same]
  · rw [upd_ne h1, upd_ne h1]
    by_cases h2 : b = a
    · rw [h2, L2.del_same, ha]
    · rw [L2.del_ne h2, upd_ne h2, upd_ne h1]
section
variable {X : Cx} {y : DXw} {x : Str} {C fI : Addr} {k : Nat} {fd : FuncData} {e : Expr} {te : RE} {p pos pos2 : Pos}
theorem passes_false (tk : Takes X y.W) : Passes (L2.CX X.prog X.w) X (fun _ _ _ => False) := fun pins σ H s e s' I c => tk e s' (XE.of_call I (fun _ _ _ (h : False) => h.elim) c)
theorem pd_raise (hc : X.calm = true) (tk : Takes X y.W) (O : Own X.K C fI) (tI : PySem.W.typeIn X.K (.ref fI) = some (.type "function")) (F1 : FnOk X.prog X.w X.K X.mg X.base (L2.CX X.prog X.w) k fI fd ["self", "value"] (spI X.K)) (hr : Room (k + 1) X.A)
    (hb : Binds X.K fd ["self", "value"] []) (hm : X.mg x = some (.ref C)) (he : PD X y e te) (hg : Gl X x := by rfl) (hdb : (x == ("__debug__" : Str)) = false := by decide) (hs : starEach [e] X.env = (false, eval e X.env) :: starEach [] X.env := by rfl) :
    PDS X y (.Raise (some (.Call (.Name x p) [e] [] pos)) none pos2) (rRaise C y.d te) := by
  refine PDS.of (ps_raise hc tk (pmk_oex O.ox O.ii tI F1 hr hb .nil (passes_false tk) hg hm (pa_cons he pa_nil (hs := hs)) hdb (he := hs))) fun D σ H h => ?_
  obtain ⟨ρ, S, E, sr, so, h, eo⟩ := h
  refine ⟨ρ, S, _, sr, so, h, fun d S1 v H1 g1 dv h1 => ?_⟩
  refine ⟨by show 1 ≤ 1000; decide, fun a ha => ⟨a, C, v, rfl, O.ox, O.nv, upd_same, fun dx hdx ne => ⟨rfl, dx, _, upd_same, by rw [upd_ne ne]; exact upd_same, ?_, ?_⟩⟩⟩
  · rw [upd_ne ne] at hdx
    exact hdx
  · rw [upd_ne ne] at hdx
    have eH : upd (upd (upd H1 a (exo a C none)) dx (exd dx [(("value" : Str), v)])) a (exo a C (some dx)) = upd (upd H1 dx (exd dx [(("value" : Str), v)])) a (exo a C (some dx)) := by
      funext b
      by_cases h1 : b = a
      · rw [h1, upd_same, upd_same]
      · rw [upd_ne h1, upd_ne h1]
        by_cases h2 : b = dx
        · rw [h2, upd_same, upd_same]
        · rw [upd_ne h2, upd_ne h2, upd_ne h1]
    rw [eH, made_eq ha ne]
    have g2 := Go.new (K := X.K) (o := .xd [(("value" : Str), v)]) g1.ok hdx
    exact so.xo C d ρ S1 dx v σ _ (g1.trans g2) ((sr.go g1).go g2) upd_same (DV.go g2 _ _ dv) h1
def oneV (f : V → Prop) : List V → Prop
  | [v] => f v
  | _ => False
theorem pmk_oexK {CX : CXT} {kn : Str} {kpos : Pos} {g : List Value → List Value → List Value} {gD : List D → List D → List D} {te : TE} {sp : Sp} (T : OexC X.K C) (iC : PySem.W.findIn X.K (.ref C) "__init__" = some (some (.ref fI))) (tI : PySem.W.typeIn X.K (.ref fI) = some (.type "function"))
    (F1 : FnOk X.prog X.w X.K X.mg X.base CX k fI fd ["self", "value"] sp) (hr : Room (k + 1) X.A) (hb : KBD X.K fd ["self", "value"] [kn] g gD) (hx : Passes CX X (fun _ _ _ => False)) (hg : Gl X x) (hm : X.mg x = some (.ref C)) (he : PE X e te)
    (hall : (backToKw pos (keywordEach [⟨some kn, e, kpos⟩] X.env)).all (·.1.isSome) = true := by rfl) (hks : (backToKw pos (keywordEach [⟨some kn, e, kpos⟩] X.env)).filterMap (·.1) = [kn] := by rfl)
    (hpl : ((backTo pos (starEach [] X.env)).any (·.1) || (backToKw pos (keywordEach [⟨some kn, e, kpos⟩] X.env)).any (·.1.isNone)) = false := by rfl)
    (hdb : (x == ("__debug__" : Str)) = false := by decide) (hgk : ∀ a b : Value, g [a] [b] = [a, b] := by intro _ _; rfl) :
    PMk X (.Call (.Name x p) [] [⟨some kn, e, kpos⟩] pos) (fun σ H Q => te σ H fun v H1 => ∀ a, H1 a = none → sp [.ref a, v] (upd H1 a (exo a C none))
  (fun v H2 => v = .non ∧ ∃ (d : Addr) (fs : List (Str × V)), H2 a = some (exo a C (some d)) ∧ H2 d = some (exd d fs) ∧ H1 d = none ∧ Q (.ref C) (some d) (upd (L2.del H2 a) d (.xd fs))) (fun _ _ _ => False)) := by
  intro pins s σ H Q I h
  obtain ⟨nm, q, N, bs, bm, sn, sub, ab, col, dd, k0, k1, k2, k3, k5, hC, hbm⟩ := T.cls
  refine wpAny_Call_Name_kw (ld_glob I hg hm ?_ hdb)
  refine PySem.W.callWith_KW0 (h₀ := X.base) I.ok.mod.kin T.kC hall ?_ hpl
  have hkr := (pk_cons (nm := some kn) (kpos := kpos) he pk_nil).run pos pins s σ H (fun vs H1 => oneV (fun v => ∀ a, H1 a = none → sp [.ref a, v] (upd H1 a (exo a C none))
    (fun v H2 => v = .non ∧ ∃ (d : Addr) (fs : List (Str × V)), H2 a = some (exo a C (some d)) ∧ H2 d = some (exd d fs) ∧ H1 d = none ∧ Q (.ref C) (some d) (upd (L2.del H2 a) d (.xd fs))) (fun _ _ _ => False)) vs) I h
  refine thn hkr fun ws s1 ⟨vs, H1, I1, r1, q1⟩ => ⟨I1.kIn, ?_⟩
  rw [hks]
  have hv : ∃ v, vs = [v] := by
    cases vs with
    | nil => exact False.elim q1
    | cons v r =>
      cases r with
      | nil => exact ⟨v, rfl⟩
      | cons _ _ => exact False.elim q1
  obtain ⟨v, rfl⟩ := hv
  replace q1 : ∀ a, H1 a = none → _ := q1
  cases r1 with
  | @cons _ u _ ur ru rr =>
  cases rr
  show wpAny _ _ (call (.ref C) [] [(kn, u)]) _ _ _
  obtain ⟨hp, gg, dr, tk, os⟩ := s1
  have hsz : hp.objs.size ≤ hp.objs.size + 1 := Nat.le_succ _
  have hn : H1 (hp.objs.size + 1) = none := I1.hok.fresh hsz
  have hq := q1 (hp.objs.size + 1) hn
  have kk : ∀ b o, hp.get? b = some o → ((hp.push (PySem.W.kdv_tup [])).push (PySem.HandSPX.excO C hp.objs.size)).get? b = some o := fun b o e => Heap.get?_push_of_some _ (Heap.get?_push_of_some _ e)
  have hget : ((hp.push (PySem.W.kdv_tup [])).push (PySem.HandSPX.excO C hp.objs.size)).get? (hp.objs.size + 1) = some (PySem.HandSPX.excO C hp.objs.size) := by heap_get
  have I2 : Inv X pins σ (upd H1 (hp.objs.size + 1) (exo (hp.objs.size + 1) C none)) ⟨(hp.push (PySem.W.kdv_tup [])).push (PySem.HandSPX.excO C hp.objs.size), gg, dr, tk, os⟩ :=
    I1.laid (t' := tk) (a := hp.objs.size + 1) (o := exo (hp.objs.size + 1) C none) (h' := (hp.push (PySem.W.kdv_tup [])).push (PySem.HandSPX.excO C hp.objs.size)) kk hsz (exo_ok hget)
  have r2 : Vals [V.ref (hp.objs.size + 1), v] [Value.ref (hp.objs.size + 1), u] := .cons rfl (.cons ru .nil)
  have hbt := hb.to ⟨(hp.push (PySem.W.kdv_tup [])).push (PySem.HandSPX.excO C hp.objs.size), gg, dr, tk, os⟩ [Value.ref (hp.objs.size + 1)] [u] I2.kIn (by rw [hgk]; rfl)
  rw [hgk] at hbt
  refine wpAny_call (PySem.HandSPX.call_own_kw F.excBase_ValueError (fun Y => PySem.HandSPX.refsVE_contains Y bm hbm) (I1.kIn _ _ hC) (PySem.W.looks_findIn I1.kIn iC) (fun self => PySem.W.bind_fn I1.kIn self tI) (Nat.zero_le _)
    (codeAny_mono (F1.run _ X.stack _ _ ⟨[Value.ref (hp.objs.size + 1)], [(kn, u)]⟩ [Value.ref (hp.objs.size + 1), u] _ _ (fun _ _ _ => False) (hr.make C [] [(kn, u)]) (I2.env0.make C [] [(kn, u)]) hbt r2 hq) fun r s' hq' => ?_))
  cases r with
  | error er => exact hx pins σ _ _ er s' I2 hq'
  | ok fl =>
    cases fl with
    | ret u =>
      obtain ⟨v, H2, os2, bare2, un2, hok2, rv, ev, d, fs, ea, ed, hd1, q2⟩ := hq'
      subst ev
      obtain ⟨h2, g2, d2, t2, os'⟩ := s'
      exact ⟨rv, mk_end (raises_own T.exC T.tyC) I1 hsz kk un2 hok2 os2 bare2 ea ed hd1 q2⟩
    | next => exact False.elim hq'
    | brk => exact False.elim hq'
    | cont => exact False.elim hq'
end
end DL
namespace DL
open PySem PySem.Spec PyProof.Rows L2
section
variable {X : Cx} {y : DXw} {x : Str} {C fI : Addr} {k : Nat} {fd : FuncData} {e : Expr} {te : RE} {p pos pos2 : Pos}
theorem pd_raiseK {kn : Str} {kpos : Pos} {g : List Value → List Value → List Value} {gD : List D → List D → List D} (hc : X.calm = true) (tk : Takes X y.W) (O : Own X.K C fI) (tI : PySem.W.typeIn X.K (.ref fI) = some (.type "function")) (F1 : FnOk X.prog X.w X.K X.mg X.base (L2.CX X.prog X.w) k fI fd ["self", "value"] (spI X.K)) (hr : Room (k + 1) X.A)
    (hb : KBD X.K fd ["self", "value"] [kn] g gD) (hm : X.mg x = some (.ref C)) (he : PD X y e te) (hg : Gl X x := by rfl) (hdb : (x == ("__debug__" : Str)) = false := by decide)
    (hall : (backToKw pos (keywordEach [⟨some kn, e, kpos⟩] X.env)).all (·.1.isSome) = true := by rfl) (hks : (backToKw pos (keywordEach [⟨some kn, e, kpos⟩] X.env)).filterMap (·.1) = [kn] := by rfl)
    (hpl : ((backTo pos (starEach [] X.env)).any (·.1) || (backToKw pos (keywordEach [⟨some kn, e, kpos⟩] X.env)).any (·.1.isNone)) = false := by rfl)
    (hgk : ∀ a b : Value, g [a] [b] = [a, b] := by intro _ _; rfl) :
    PDS X y (.Raise (some (.Call (.Name x p) [] [⟨some kn, e, kpos⟩] pos)) none pos2) (rRaise C y.d te) := by
  refine PDS.of (ps_raise hc tk (pmk_oexK O.ox O.ii tI F1 hr hb (passes_false tk) hg hm he hall hks hpl hdb hgk)) fun D σ H h => ?_
  obtain ⟨ρ, S, E, sr, so, h, eo⟩ := h
  refine ⟨ρ, S, _, sr, so, h, fun d S1 v H1 g1 dv h1 => ?_⟩
  refine fun a ha => ⟨a, C, v, rfl, O.ox, O.nv, upd_same, fun dx hdx ne => ⟨rfl, dx, _, upd_same, by rw [upd_ne ne]; exact upd_same, ?_, ?_⟩⟩
  · rw [upd_ne ne] at hdx
    exact hdx
  · rw [upd_ne ne] at hdx
    have eH : upd (upd (upd H1 a (exo a C none)) dx (exd dx [(("value" : Str), v)])) a (exo a C (some dx)) = upd (upd H1 dx (exd dx [(("value" : Str), v)])) a (exo a C (some dx)) := by
      funext b
      by_cases h1 : b = a
      · rw [h1, upd_same, upd_same]
      · rw [upd_ne h1, upd_ne h1]
        by_cases h2 : b = dx
        · rw [h2, upd_same, upd_same]
        · rw [upd_ne h2, upd_ne h2, upd_ne h1]
    rw [eH, made_eq ha ne]
    have g2 := Go.new (K := X.K) (o := .xd [(("value" : Str), v)]) g1.ok hdx
    exact so.xo C d ρ S1 dx v σ _ (g1.trans g2) ((sr.go g1).go g2) upd_same (DV.go g2 _ _ dv) h1

end
end DL
namespace PySem.W
open PySem PySem.Spec PySem.Calls PyProof.Rows
section
variable {prog : Program} {w : World} {A : Around} {E : Value → Shared → Prop} {s : Shared} {K : Frag} {x D : Addr} {ox : Obj} {od : Option Obj}
theorem findObj_dataD {C : Addr} {name : Str} {a g : Value} (hc : (clsIn K C).isSome = true) (ha : findIn K (.ref C) name = some (some a)) (hg : specialIn K a "__get__" = some (some g)) (ht : takesIn K a = some true) : findObj K C od name = some (.bind g a) := by
  obtain ⟨cd, hc⟩ := Option.isSome_iff_exists.mp hc
  unfold findObj
  rw [hc, Option.bind_some, ha, Option.bind_some]
  simp [hg, ht]
theorem kin_classD {Q : Option Value → Shared → Prop} (hga : findIn K (.ref D) "__getattribute__" = some (some (.builtin "BaseException.__getattribute__"))) (hgt : findIn K (.ref D) "__getattr__" = some none) (hsub : subIn K (.ref D) (.type "BaseException") = some true)
    (hdct : hasDictIn K D = true) (ha : findIn K (.ref D) "__class__" = some (some (.builtin "object.__class__")))
    (hn : specialIn K (.builtin "object.__class__") "__get__" = some (some (.builtin "getset_descriptor.__get__"))) (htk : takesIn K (.builtin "object.__class__") = some true) (hm : mroIn K D (.type "object") = some true)
    (X : K.In s.heap) (I : InstAt s.heap x ox D od) (h : Q (some (.ref D)) { s with toks := s.toks + 1 }) : wpAny (model prog w) A (getAttr? (.ref x) "__class__") Q E s := by
  have hf : findObj K D od "__class__" = some (.bind (.builtin "getset_descriptor.__get__") (.builtin "object.__class__")) := findObj_dataD (by obtain ⟨cd, hc, _⟩ := any_some hdct; rw [hc]; rfl) ha hn htk
  obtain ⟨hp, g, d, t, os⟩ := s
  have L0 := I.type (M := model prog w)
  have L1 := looks_findIn (M := model prog w) X hga
  have L2 := looks_findIn (M := model prog w) X hgt
  have L3 := looks_find (M := model prog w) X I hf
  have sub : Looks (model prog w) hp (isInstance (.ref x) (.type "BaseException")) true := L0.andThen (looks_subIn X hsub)
  have hx0 : (false && onTheHeap (Value.builtin "BaseException.__getattribute__")) = false := rfl
  have hx2 : (Value.builtin "BaseException.__getattribute__" == Value.builtin "object.__getattribute__") = false := by decide +kernel
  have hx1 : (onTheHeap (Value.ref D) && Value.builtin "BaseException.__getattribute__" == Value.builtin "object.__getattribute__") = false := by rw [hx2]; rfl
  unfold getAttr? getAttrBy? getAttrBy
  refine wpAny_bind (wpAny_mkText (wpAny_bind (wpAny_attempt (wpAny_holding (wpAny_bind (L0.at (wpAny_bind (L1.at ?_))))))))
  show wpAny _ _ (if (onTheHeap (Value.ref D) && Value.builtin "BaseException.__getattribute__" == Value.builtin "object.__getattribute__") = true then _ else _) _ _ _
  rw [hx1, if_neg Bool.false_ne_true]
  unfold getAttrByItsOwn hookBefore
  refine wpAny_bind ?_
  rw [if_pos (show onTheHeap (Value.ref D) = true from rfl)]
  refine L2.at ?_
  refine wpAny_bind (wpAny_attempt (wpAny_holding ?_))
  unfold callGetattribute
  rw [hx0, if_neg Bool.false_ne_true]
  unfold boundAndCalled
  rw [PySem.F.excAttr_ValueError.ga.bind (.ref x)]
  refine wpAny_bind (wpAny_pure ?_)
  show wpAny _ _ (call (.builtin "BaseException.__getattribute__") [.ref x, .str "__class__" t]) _ _ _
  refine wpAny_call (codeAny_call_builtin PySem.F.excAttr_ValueError.ga.plain PySem.F.entry_bexc_ga ?_)
  refine @check_slot (model prog w) _ _ ⟨hp, g, d, t + 1, os⟩ "BaseException.__getattribute__" "BaseException" "__getattribute__" (.ref x) [.str "__class__" t] [] _ (by decide +kernel) (by decide +kernel) sub (PySem.F.args_bexc_ga (.ref x) (.str "__class__" t)) ?_
  unfold Builtin.«object.__getattribute__»
  refine wpAny_bind (wpAny_of_eq (a := ((Value.ref x : Value), [Value.str "__class__" t])) (by first | rfl | (simp only [slotArgs]; rfl)) ?_)
  refine wpAny_bind (wpAny_pure (wpAny_bind (L0.at (wpAny_bind (L3.at ?_)))))
  show wpAny _ _ (holding [Value.builtin "object.__class__"] (call (.builtin "getset_descriptor.__get__") [.builtin "object.__class__", .ref x, .ref D]) >>= ret) _ _ _
  refine wpAny_bind (wpAny_holding (wpAny_call (class_get (s := ⟨hp, g, d, t + 1, os⟩) (ox := ox) (od := od) X I hm ?_)))
  refine wpAny_pure ?_
  show wpAny _ _ (handedOut (.ref D)) _ _ _
  rw [handedOut_of (v := .ref D) rfl]
  first
    | exact wpAny_pure (wpAny_pure h)
    | exact wpAny_pure h
    | exact wpAny_pure (wpAny_bind (wpAny_pure (wpAny_pure h)))
theorem kitx_excD (C : L2.ExcC K D) : KitX K (.ref x) (.ref D) (fun h => InstAt h x ox D od) where
  ty := fun _ _ _ I => I.type
  it := fun _ _ X _ => by
    obtain ⟨cdD, hcD, _⟩ := any_some C.hd
    unfold clsIn at hcD
    split at hcD
    · rename_i c' d' cd' sl' ho
      intro A' Q' E' s' k q
      unfold isType loadHead
      exact wpAny_bind (wpAny_loadPart (k _ _ (X _ _ ho)) (wpAny_pure q))
    · cases hcD
  ne := fun h tp dd its n sl X htp => by
    obtain ⟨cdD, hcD, _⟩ := any_some C.hd
    refine Bool.eq_false_iff.mpr fun q => ?_
    have e : D = tp := Value.ref.inj (beq_iff_eq.mp q)
    subst e
    unfold clsIn at hcD
    split at hcD
    · rename_i c' d' cd' sl' ho
      have z := (X _ _ ho).symm.trans htp
      cases z
    · cases hcD
  ca := fun X I k => kin_classD C.hg C.hk C.hs C.hd C.ha C.hn C.ht C.hm X I k
end
end PySem.W
namespace DL
open PySem PySem.Spec PyProof.Rows L2
/-- what a held exception's class says, for isinstance and its value -/
structure Exn (K : PySem.W.Frag) (C : Addr) : Prop where
  ec : ExcC K C
  nv : PySem.W.findIn K (.ref C) "value" = some none
theorem exc_inst {P : Program} {w : World} {H : Hp} {h : Heap} {a C dx : Addr} {wv : V} (hok : HOk P w H h) (ha : H a = some (XO a C dx)) (hdx : H dx = some (.xd [(("value" : Str), wv)])) :
    ∃ oe od u, PySem.W.InstAt h a oe C (some od) ∧ PySem.W.lookIn "value" od = some (some u) ∧ RelV wv u := by
  obtain ⟨oe, vs, ho, hz, hd⟩ := xo_at hok ha
  have hx : ObjOk P w H h dx (.xd [(("value" : Str), wv)]) := hok dx _ hdx
  obtain ⟨mA, hns, hr⟩ := hx
  obtain ⟨od, hod, hl⟩ := lookIn_ns hns
  obtain ⟨u, hu, ru⟩ := RelO.some_of (v := wv) (o := mA "value") (by rw [show some wv = List.lookup ("value" : Str) [(("value" : Str), wv)] by rfl]; exact hr "value")
  exact ⟨oe, od, u, ⟨ho, hz.1, by unfold PySem.W.notCls; rw [hd] <;> rfl, by rw [hz.2]; exact hod⟩, by rw [hl, hu], ru⟩
section
variable {X : Cx} {y : DXw} {x : Str} {e : Expr} {te : RE} {p pos pos2 : Pos}
/-! ### a held exception's value -/
def rVal (K : PySem.W.Frag) (te : RE) : RE := fun ρ S Q => te ρ S fun d S1 => match d with
  | .exc C w => Exn K C ∧ Q w S1
  | _ => False
theorem pd_value (he : PD X y e te) (hb : attributeBase e "value" X.env (eval e X.env) = eval e X.env := by rfl) : PD X y (.Attribute e "value" pos) (rVal X.K te) := by
  refine ⟨fun pins s σ H Q I h => ?_⟩
  obtain ⟨ρ, S, R, sr, so, h, k⟩ := h
  refine attr_of hb (thn (he.run pins s σ H (fun v H1 => ∃ d S1, Go X.K H S H1 S1 ∧ DV X.K H1 d v ∧ (match d with | .exc C w => Exn X.K C ∧ R w S1 | _ => False)) I ⟨ρ, S, _, sr, so, h, fun d S1 v H1 g dv q => ⟨d, S1, g, dv, q⟩⟩) fun u s1 hh => ?_)
  obtain ⟨v, H1, I1, rx, d, S1, g1, dv, q⟩ := hh
  cases d with
  | exc C w =>
    obtain ⟨T, q⟩ := q
    obtain ⟨a, dx, wv, rfl, ha, hdx, dw⟩ := dv
    obtain rfl : u = Value.ref a := rx
    obtain ⟨oe, od, u, J, hl, ru⟩ := exc_inst I1.hok ha hdx
    exact HandSPX.exc_get I1.kIn J T.ec.hg T.ec.hk T.ec.hs (PySem.W.findObj_own T.ec.hd T.nv rfl hl) (handed_of ru) ⟨wv, H1, I1.tok _, ru, k _ S1 _ H1 g1 dw q⟩
  | _ => exact False.elim q
/-! ### isinstance of a held exception -/
def kitX (K : PySem.W.Frag) (C : Addr) (c : D) (k : Bool → Prop) : Prop := match c with
  | .ref D => ∃ b, PySem.W.kitOne K (.ref C) (.ref D) = some b ∧ k b
  | .ty n => ∃ b, PySem.W.kitOne K (.ref C) (.type n) = some b ∧ k b
  | _ => False
def dIsX (K : PySem.W.Frag) : RCall := fun ds S Q => match ds with
  | [.exc C _, c] => Exn K C ∧ kitX K C c fun b => Q (.bl b) S
  | _ => False
theorem call_isX {a C dx : Addr} {cv : Value} {wv : V} {pins : List (Addr × Obj)} {s : Shared} {σ : L2.St} {H : Hp} {Q : Value → Shared → Prop} {b : Bool} (I : Inv X pins σ H s) (ha : H a = some (XO a C dx)) (hdx : H dx = some (.xd [(("value" : Str), wv)])) (T : Exn X.K C)
    (e : PySem.W.kitOne X.K (.ref C) cv = some b) (h : ∀ tk, Q (.bool b) { s with toks := tk }) : wpAny (model X.prog X.w) X.A (call (.builtin "isinstance") [.ref a, cv]) Q X.xe s := by
  obtain ⟨oe, od, u, J, _⟩ := exc_inst I.hok ha hdx
  exact PySem.W.kia_one (PySem.W.kitx_excD T.ec) I.kIn J e (fun z => nomatch z) h
theorem cd_isX : CallR X (.builtin "isinstance") (lcl X.K (dIsX X.K)) := by
  intro pins s σ H vs us Q I rv h
  obtain ⟨ds, S, R, dv, so, h, k⟩ := h
  unfold dIsX at h
  split at h
  · rename_i C w c
    obtain ⟨v, v2, rfl, r1, r2⟩ := dvs2 dv
    obtain ⟨a, dx, wv, rfl, ha, hdx, dw⟩ := r1
    obtain ⟨u, u', rfl, ru, ru'⟩ := vals2 rv
    obtain rfl : u = Value.ref a := ru
    obtain ⟨T, h⟩ := h
    unfold kitX at h
    split at h
    · rename_i D
      cases (show v2 = V.ref D from r2)
      obtain rfl : u' = Value.ref D := ru'
      obtain ⟨b, e, q⟩ := h
      exact call_isX I ha hdx T e fun tk => ⟨.bl b, H, I.kept (t' := tk) fun _ _ z => z, rfl, k (.bl b) S _ H (Go.refl so) rfl q⟩
    · rename_i n
      cases (show v2 = V.ty n from r2)
      obtain rfl : u' = Value.type n := ru'
      obtain ⟨b, e, q⟩ := h
      exact call_isX I ha hdx T e fun tk => ⟨.bl b, H, I.kept (t' := tk) fun _ _ z => z, rfl, k (.bl b) S _ H (Go.refl so) rfl q⟩
    · exact h.elim
  · exact h.elim
theorem pd_tyN {n : String} (hm : X.mg x = none) (hv : bootBuiltins x = some (.type n)) (hg : Gl X x := by rfl) (hn : x ≠ "__name__" := by decide) (hd : (x == ("__debug__" : Str)) = false := by decide) : PD X y (.Name x pos) (rC (.ty n)) :=
  pd_c (pe_bltn (v := .ty n) hg hm hv rfl hn hd) fun _ => rfl
end
end DL
set_option Elab.async false
set_option linter.all false
set_option maxRecDepth 100000
set_option maxHeartbeats 4000000
namespace DL
open PySem PySem.Spec PyProof.Rows L2
section
variable {X : Cx} {y : DXw} {x : Str} {e o i : Expr} {te to ti : RE} {p pos pos2 tpos : Pos}
/-! ### op= -/
def rAugI (i : Nat) (f : Int → Int → Int) (te : RE) : RS := fun E ρ S => match ρ[i]? with
  | some (some (.int a)) => te ρ S fun d S1 => match d with
    | .int b => E.nx (ρ.set i (some (.int (f a b)))) S1
    | _ => False
  | _ => False
theorem pd_aug (i : Nat) {op : Operator} {f : Int → Int → Int} (hN : X.N.Nodup) (ho : PIp X op (ipI f)) (he : PD X y e te) (hi : X.N[i]? = some x := by rfl) (hx : Loc X.env.scope x := by first | exact Or.inl rfl | exact Or.inr rfl)
    (hf : X.fn x = true ∨ X.env.scope.names.lookup x = some .local := by first | exact .inl rfl | exact .inr rfl) : PDS X y (.AugAssign (.Name x p) op e pos) (rAugI i f te) := PDS.of (ps_aug hN hi hx he ho hf) fun D σ H h => by
  obtain ⟨ρ, S, E, sr, so, h, eo⟩ := h
  unfold rAugI at h
  split at h
  · rename_i a ea
    obtain ⟨v, e1, q⟩ := sr.2 i _ ea
    cases (show v = V.int a from q)
    refine ⟨.int a, e1, ρ, S, _, sr, so, h, fun d S1 w H1 g dv hd => ?_⟩
    cases d with
    | int b =>
      cases (show w = V.int b from dv)
      exact ⟨a, b, rfl, rfl, eo.nx _ S1 _ H1 g ((sr.go g).set (show DV X.K H1 (.int (f a b)) (.int (f a b)) from rfl) i) hd⟩
    | _ => exact False.elim hd
  · exact h.elim
theorem get_list : PGet X (fun x k H Q => ∃ p xs i v, x = .ref p ∧ k = .int i ∧ 0 ≤ i ∧ SqL X.K H p xs ∧ atI xs i = some v ∧ Q v H) := by
  intro pins s σ H x k v u Q I rx ry h
  obtain ⟨p, xs, i, z, rfl, rfl, h0, hq, he, q⟩ := h
  cases rx
  obtain ⟨t, rfl⟩ := ry
  obtain ⟨its, r, pl, hz⟩ := I.list hq
  obtain ⟨j, h1, h2, h3, h4, h5⟩ := atI_get he
  obtain ⟨w, ew, rw'⟩ := r.get h2
  have hl := r.length
  have hn := line63
  have fin : EP X pins σ Q w s := ⟨z, H, I, rw', q⟩
  have hj : i.toNat = j := by
    rw [seqIndex_of h0 h5] at h1
    exact Option.some.inj h1
  exact wpAny_getItem_list pl.isList h0 (by omega) (by rw [hj]; simpa using ew) fin
def rAugS (f : Int → Int → Int) (to ti te : RE) : RS := fun E ρ S => to ρ S fun o S1 => ti ρ S1 fun i S2 => match o, i with
  | .ref a, .int k => ∃ xs v, 0 ≤ k ∧ S2 a = some (.lst xs) ∧ atI xs k = some (.int v) ∧ te ρ S2 fun d S3 => match d with
    | .int b => ∃ xs3 j, S3 a = some (.lst xs3) ∧ ixN xs3.length k = some j ∧ E.nx ρ (sup S3 a (.lst (xs3.set j (.int (f v b)))))
    | _ => False
  | _, _ => False
theorem pd_augS {op : Operator} {f : Int → Int → Int} (hop : PIp X op (ipI f)) (ho : PD X y o to) (hi : PD X y i ti) (he : PD X y e te)
    (ha : ∀ ov iv new, augStore i ov iv new = (do holding [new, ov, iv] (setItem ov iv new); release [new, ov, iv] []; pure .next) := by intros; rfl) : PDS X y (.AugAssign (.Subscript o i tpos) op e pos) (rAugS f to ti te) :=
  PDS.of (ps_augS (tset := lset X.K dSet) ho hi get_list he hop sd_list ha) fun D σ H h => by
    obtain ⟨ρ, S, E, sr, so, h, eo⟩ := h
    refine ⟨ρ, S, _, sr, so, h, fun d1 S1 v1 H1 g1 dv1 q1 => ⟨ρ, S1, _, sr.go g1, so.go g1, q1, fun d2 S2 v2 H2 g2 dv2 q2 => ?_⟩⟩
    split at q2
    · rename_i a k
      cases (show v1 = V.ref a from dv1)
      cases (show v2 = V.int k from dv2)
      obtain ⟨xs, v, h0, e1, e2, q2⟩ := q2
      obtain ⟨vs, e3, r3⟩ := g2.ok a _ e1
      obtain ⟨vv, e4, r4⟩ := atI_dv r3 e2
      cases (show vv = V.int v from r4)
      have g12 := g1.trans g2
      refine ⟨a, vs, k, .int v, rfl, rfl, h0, SqL.of e3, e4, ρ, S2, _, sr.go g12, so.go g12, q2, fun d3 S3 v3 H3 g3 dv3 q3 => ?_⟩
      cases d3 with
      | int b =>
        cases (show v3 = V.int b from dv3)
        obtain ⟨xs3, j, e5, e6, q⟩ := q3
        refine ⟨v, b, rfl, rfl, .ref a, .int k, .int (f v b), S3, fun S' => E.nx ρ S', rfl, rfl, rfl, g3.ok, ⟨xs3, j, e5, e6, q⟩, fun S4 H4 g4 q4 => ?_⟩
        have gA := (g12.trans g3).trans g4
        exact eo.nx ρ S4 σ H4 gA (sr.go gA) q4
      | _ => exact False.elim q3
    · exact q2.elim
end
end DL
set_option Elab.async false
set_option linter.all false
set_option maxRecDepth 100000
set_option maxHeartbeats 4000000
namespace DL
open PySem PySem.Spec PyProof.Rows L2
/-! ### what the written part says of own exception classes -/
/-- C is a class whose bases are told by bm -/
def ClsO (K : PySem.W.Frag) (C : Addr) (bm : List Value) : Prop := ∃ nm qn N bs sn sub ab col dd k0 k1 k2 k3 k5, K.lookup C = some (excClassObj nm qn C N bs bm true sn sub ab col dd k0 k1 k2 k3 k5 "ValueError.__new__")
abbrev veT : List Value := [.type "ValueError", .type "Exception", .type "BaseException", .type "object"]
/-- a class that can be raised -/
structure ClsX (K : PySem.W.Frag) (C fI : Addr) : Prop where
  ii : PySem.W.findIn K (.ref C) "__init__" = some (some (.ref fI))
  sa : PySem.W.findIn K (.ref C) "__setattr__" = some (some (.builtin "object.__setattr__"))
  nv : PySem.W.findIn K (.ref C) "value" = some none
  hg : PySem.W.findIn K (.ref C) "__getattribute__" = some (some (.builtin "BaseException.__getattribute__"))
  hk : PySem.W.findIn K (.ref C) "__getattr__" = some none
  ha : PySem.W.findIn K (.ref C) "__class__" = some (some (.builtin "object.__class__"))
  kp : PySem.W.keepIn K (.ref C) = true
section
variable {K : PySem.W.Frag} {C D T fI : Addr} {bm bm' : List Value}
theorem ClsO.cls (h : ClsO K C bm) : ∃ cd, PySem.W.clsIn K C = some cd ∧ cd.mro = .ref C :: bm ∧ cd.hasDict = true := by
  obtain ⟨nm, qn, N, bs, sn, sub, ab, col, dd, k0, k1, k2, k3, k5, e⟩ := h
  exact ⟨{ name := nm, bases := bs, mro := .ref C :: bm, ns := N, qualname := qn, hasDict := true, slotNames := sn, subclasses := sub, abstract := ab, collection := col, hasDel := false }, by unfold PySem.W.clsIn; rw [e] <;> rfl, rfl, rfl⟩
theorem ClsO.ty (h : ClsO K C bm) : PySem.W.typeIn K (.ref C) = some (.type "type") := by
  obtain ⟨nm, qn, N, bs, sn, sub, ab, col, dd, k0, k1, k2, k3, k5, e⟩ := h
  show (K.lookup C).map (·.cls) = _
  rw [e]
  rfl
theorem ClsO.sub (h : ClsO K C bm) (v : Value) : PySem.W.subIn K (.ref C) v = some ((Value.ref C :: bm).contains v) := by
  obtain ⟨cd, e, m, _⟩ := h.cls
  show ((PySem.W.clsIn K C).bind fun cd => if cd.mro.isEmpty then none else some (cd.mro.contains v)) = _
  rw [e, Option.bind_some, m]
  rfl
theorem ClsO.dict (h : ClsO K C bm) : PySem.W.hasDictIn K C = true := by
  obtain ⟨cd, e, _, d⟩ := h.cls
  unfold PySem.W.hasDictIn
  rw [e]
  exact d
theorem ve_in (Y : String) (h : HandSPX.refsVE bm = true) : (Value.ref C :: bm).contains (.type Y) = HandSPX.veTail.contains (.type Y) := by
  rw [List.contains_cons, HandSPX.refsVE_contains Y bm h]
  rfl
theorem bm_T : HandSPX.refsVE (.ref T :: veT) = true := rfl
theorem bm_0 : HandSPX.refsVE veT = true := rfl
theorem own_of (h : ClsO K C bm) (hb : HandSPX.refsVE bm = true) (x : ClsX K C fI) : Own K C fI where
  ox := ⟨by
    obtain ⟨nm, qn, N, bs, sn, sub, ab, col, dd, k0, k1, k2, k3, k5, e⟩ := h
    exact ⟨nm, qn, N, bs, bm, sn, sub, ab, col, dd, k0, k1, k2, k3, k5, e, hb⟩, x.sa, by rw [h.sub, ve_in _ hb]; decide +kernel, h.ty, x.kp⟩
  ii := x.ii
  nv := x.nv
theorem exn_of (h : ClsO K C bm) (hb : HandSPX.refsVE bm = true) (x : ClsX K C fI) : Exn K C where
  ec := ⟨x.hg, x.hk, by rw [h.sub, ve_in _ hb]; decide +kernel, h.dict, x.ha, by kernel_rfl, by kernel_rfl, by
    obtain ⟨cd, e, m, _⟩ := h.cls
    unfold PySem.W.mroIn
    rw [e, Option.bind_some, m]
    show some ((Value.ref C :: bm).contains (.type "object")) = some true
    rw [ve_in _ hb]
    decide +kernel⟩
  nv := x.nv
theorem kit_ref (hc : ClsO K C bm) (hd : ClsO K D bm') (h : D ≠ C) : PySem.W.kitOne K (.ref C) (.ref D) = some (bm.contains (.ref D)) := by
  show (if (Value.ref C == Value.ref D) = true then some true else if ((PySem.W.clsIn K D).isSome && PySem.W.typeIn K (.ref D) == some (.type "type")) = true then PySem.W.subIn K (.ref C) (.ref D) else none) = _
  have h1 : (Value.ref C == Value.ref D) = false := Bool.eq_false_iff.mpr fun q => h (Value.ref.inj (beq_iff_eq.mp q)).symm
  have h2 : (Value.ref D == Value.ref C) = false := Bool.eq_false_iff.mpr fun q => h (Value.ref.inj (beq_iff_eq.mp q))
  rw [h1, if_neg Bool.false_ne_true]
  obtain ⟨cd, e, _⟩ := hd.cls
  rw [hd.ty, e, if_pos (by rfl), hc.sub, List.contains_cons, h2, Bool.false_or]
theorem kit_self : PySem.W.kitOne K (.ref C) (.ref C) = some true := by
  unfold PySem.W.kitOne
  rw [if_pos (beq_self_eq_true _)]
theorem kit_other (hc : ClsO K C (.ref T :: veT)) (hd : ClsO K D bm') (h : D ≠ C) (h2 : D ≠ T) : PySem.W.kitOne K (.ref C) (.ref D) = some false := by
  rw [kit_ref hc hd h, List.contains_cons]
  have h3 : (Value.ref D == Value.ref T) = false := Bool.eq_false_iff.mpr fun q => h2 (Value.ref.inj (beq_iff_eq.mp q))
  rw [h3]
  rfl
theorem kit_base (hc : ClsO K C (.ref T :: veT)) (hd : ClsO K T bm') : PySem.W.kitOne K (.ref C) (.ref T) = some true := by
  by_cases h : T = C
  · subst h; exact kit_self
  · rw [kit_ref hc hd h, List.contains_cons, beq_self_eq_true]; rfl
theorem kit_ve (hc : ClsO K C bm) (hb : HandSPX.refsVE bm = true) : PySem.W.kitOne K (.ref C) (.type "ValueError") = some true := by
  show (if (Value.ref C == Value.type "ValueError") = true then some true else if PySem.W.kitMeta "ValueError" = true then PySem.W.subIn K (.ref C) (.type "ValueError") else none) = _
  have h1 : (Value.ref C == Value.type "ValueError") = false := rfl
  rw [h1, if_neg Bool.false_ne_true, if_pos (by decide +kernel), hc.sub, ve_in _ hb]
  decide +kernel
theorem exm_base (hc : ClsO K C (.ref T :: veT)) (hd : ClsO K T veT) : PySem.W.exmOne K (.ref C) (.ref T) = some true :=
  PySem.W.exm_ref (by rw [hd.sub, ve_in _ bm_0]; decide +kernel) hd.dict hd.ty (by
    rw [hc.sub, List.contains_cons, List.contains_cons, beq_self_eq_true, Bool.true_or, Bool.or_true])
theorem init_ve : PySem.W.findCls K (.type "ValueError") (.type "type") "__init__" = some (.val (.builtin "ValueError.__init__")) := by kernel_rfl
end
end DL
namespace DL
open PySem
/-- a def within a class */ -/
def inCls (st : Stmt) (i : Nat) : Stmt := match st with
  | .ClassDef (body := b) .. => b.getD i (.Pass ⟨0, 0, 0, 0⟩)
  | s => s
end DL
set_option Elab.async false
set_option linter.all false
set_option maxRecDepth 100000
set_option maxHeartbeats 4000000
namespace DL
open PySem PySem.Spec PyProof.Rows L2
section
variable {X : Cx} {y : DXw} {x : Str} {C fI : Addr} {k : Nat} {fd : FuncData} {e : Expr} {te : RE} {p pos : Pos}
/-- an exception that is made and held, not raised -/
theorem mk_held {pins : List (Addr × Obj)} {σ : L2.St} {Q : XK} {u : Value} {s' : Shared} (m : MkP X pins σ Q u s') :
    ∃ a cls d H', u = .ref a ∧ H' a = none ∧ Q cls d H' ∧ ∀ C dx, cls = .ref C → d = some dx → Inv X pins σ (upd H' a (XO a C dx)) s' := by
  obtain ⟨a, oe, vs, sI, H', cls, d, rfl, J, k, hne, ha, hz, hd, h1, na, os, ag, r, q⟩ := m
  refine ⟨a, cls, d, H', rfl, na, q, fun C dx e1 e2 => ?_⟩
  subst e1 e2
  have J1 := J.laidN (t' := s'.toks) (h' := s'.heap) (o := XO a C dx) k hne na (xo_ok ha hz hd)
  exact ⟨J1.ok, os.trans J1.os, ag, J1.base, J1.loc, J1.cell, J1.free, J1.freeC, J1.pin, J1.hok, J1.len⟩
def rMkX (C : Addr) (te : RE) : RE := fun ρ S Q => te ρ S fun d S1 => Q (.exc C d) S1
theorem pd_mkX (tk : Takes X y.W) (O : Own X.K C fI) (tI : PySem.W.typeIn X.K (.ref fI) = some (.type "function")) (F1 : FnOk X.prog X.w X.K X.mg X.base (L2.CX X.prog X.w) k fI fd ["self", "value"] (spI X.K)) (hr : Room (k + 1) X.A)
    (hb : Binds X.K fd ["self", "value"] []) (hm : X.mg x = some (.ref C)) (he : PD X y e te) (hg : Gl X x := by rfl) (hdb : (x == ("__debug__" : Str)) = false := by decide) (hs : starEach [e] X.env = (false, eval e X.env) :: starEach [] X.env := by rfl) :
    PD X y (.Call (.Name x p) [e] [] pos) (rMkX C te) := by
  refine ⟨fun pins s σ H Q I h => ?_⟩
  obtain ⟨ρ, S, R, sr, so, h, kk⟩ := h
  have hp := pmk_oex (x := x) (p := p) (pos := pos) O.ox O.ii tI F1 hr hb .nil (passes_false tk) hg hm (pa_cons he pa_nil (hs := hs)) hdb (he := hs)
  refine wpAny_mono (hp pins s σ H (fun cls d H' => cls = .ref C ∧ ∃ dx w d1 S1, d = some dx ∧ H' dx = some (.xd [(("value" : Str), w)]) ∧ DV X.K H' d1 w ∧ Go X.K H S H' S1 ∧ R (.exc C d1) S1) I ⟨ρ, S, _, sr, so, h, fun d S1 v H1 g1 dv h1 => ?_⟩) (fun u s1 hu => ?_) fun _ _ x => x
  · refine ⟨by show 1 ≤ 1000; decide, fun a ha => ⟨a, C, v, rfl, O.ox, O.nv, upd_same, fun dx hdx ne => ⟨rfl, dx, _, upd_same, by rw [upd_ne ne]; exact upd_same, ?_, ?_⟩⟩⟩
    · rw [upd_ne ne] at hdx
      exact hdx
    · rw [upd_ne ne] at hdx
      have eH : upd (upd (upd H1 a (exo a C none)) dx (exd dx [(("value" : Str), v)])) a (exo a C (some dx)) = upd (upd H1 dx (exd dx [(("value" : Str), v)])) a (exo a C (some dx)) := by
        funext b
        by_cases h1 : b = a
        · rw [h1, upd_same, upd_same]
        · rw [upd_ne h1, upd_ne h1]
          by_cases h2 : b = dx
          · rw [h2, upd_same, upd_same]
          · rw [upd_ne h2, upd_ne h2, upd_ne h1]
      rw [eH, made_eq ha ne]
      have g2 := Go.new (K := X.K) (o := .xd [(("value" : Str), v)]) g1.ok hdx
      exact ⟨rfl, dx, v, d, S1, rfl, upd_same, DV.go g2 _ _ dv, g1.trans g2, h1⟩
  · obtain ⟨a, cls, d, H', rfl, na, ⟨rfl, dx, w, d1, S1, rfl, e1, dw, g, q⟩, hi⟩ := mk_held hu
    have gN := Go.new (K := X.K) (o := XO a C dx) g.ok na
    exact ⟨.ref a, _, hi C dx rfl rfl, rfl, kk (.exc C d1) S1 _ _ (g.trans gN) (dv_exc upd_same (by rw [upd_ne (ne_of_none e1 na)]; exact e1) (DV.go gN _ _ dw)) q⟩
end
end DL
namespace DL
open PySem PySem.Spec PyProof.Rows L2
theorem exm_self {K : PySem.W.Frag} {T : Addr} (hd : ClsO K T veT) : PySem.W.exmOne K (.ref T) (.ref T) = some true :=
  PySem.W.exm_ref (by rw [hd.sub, ve_in _ bm_0]; decide +kernel) hd.dict hd.ty (by
    rw [hd.sub, List.contains_cons, beq_self_eq_true, Bool.true_or])
theorem kit_top {K : PySem.W.Frag} {T D : Addr} {bm' : List Value} (hc : ClsO K T veT) (hd : ClsO K D bm') (h : D ≠ T) : PySem.W.kitOne K (.ref T) (.ref D) = some false := by
  rw [kit_ref hc hd h]
  rfl
end DL
set_option Elab.async false
set_option linter.all false
set_option maxRecDepth 100000
set_option maxHeartbeats 4000000
/-! DX2: a < b < c. -/
namespace DL
open PySem PySem.Spec PyProof.Rows L2
section
variable {X : Cx} {y : DXw} {pos : Pos} {a b c : Expr} {ta tb tc : RE}
def rChain (p p' : ROp) (ta tb tc : RE) : RE := fun ρ S Q => ta ρ S fun u S1 => tb ρ S1 fun v S2 => p u v S2 fun d S3 => dBl d fun k => IFB k (tc ρ S3 fun w S4 => p' v w S4 Q) (Q (.bl false) S3)
theorem chain_of {p p' : ROp} {σ : L2.St} {H : Hp} {Q : VK} (h : lE X.K y (rChain p p' ta tb tc) σ H Q) : tChain (lop X.K p) (lop X.K p') (lE X.K y ta) (lE X.K y tb) (lE X.K y tc) σ H Q := by
  obtain ⟨ρ, S, R, sr, so, h, kk⟩ := h
  refine ⟨ρ, S, _, sr, so, h, fun u S1 v1 H1 g1 dv1 h1 => ⟨ρ, S1, _, sr.go g1, so.go g1, h1, fun v S2 v2 H2 g2 dv2 h2 => ?_⟩⟩
  refine ⟨u, v, S2, _, DV.go g2 _ _ dv1, dv2, g2.ok, h2, fun d S3 z H3 g3 dz h3 => ?_⟩
  cases d with
  | bl k =>
    refine ⟨k, dz, ite_of_IFB h3 (fun h4 => ?_) fun h4 => kk (.bl false) S3 _ H3 (g1.trans (g2.trans g3)) rfl h4⟩
    refine ⟨ρ, S3, _, ((sr.go g1).go g2).go g3, ((so.go g1).go g2).go g3, h4, fun w S4 v4 H4 g4 dv4 h5 => ?_⟩
    exact ⟨v, w, S4, R, DV.go (g3.trans g4) _ _ dv2, dv4, g4.ok, h5, fun d S' z H' g dz hz => kk d S' z H' (g1.trans (g2.trans (g3.trans (g4.trans g)))) dz hz⟩
  | _ => exact False.elim h3
theorem pd_chain {op op' : CmpOp} {p p' : ROp} (ho : OpR X (compareOp op) (lop X.K p)) (ho' : OpR X (compareOp op') (lop X.K p')) (ha : PD X y a ta) (hb : PD X y b tb) (hc : PD X y c tc)
    (hm : lastMarks [op, op'] [b, c] = false := by with_unfolding_all rfl) : PD X y (.Compare a [op, op'] [b, c] pos) (rChain p p' ta tb tc) :=
  PD.of (pe_chain ho ho' ha hb hc hm) fun _ _ _ h => chain_of h
theorem pdt_chain {op op' : CmpOp} {p p' : ROp} (ho : OpR X (compareOp op) (lop X.K p)) (ho' : OpR X (compareOp op') (lop X.K p')) (ha : PD X y a ta) (hb : PD X y b tb) (hc : PD X y c tc)
    (hm : lastMarks [op, op'] [b, c] = false := by with_unfolding_all rfl) : PDT X y (.Compare a [op, op'] [b, c] pos) (rTst (rChain p p' ta tb tc)) :=
  PDT.of (pt_chain ho ho' ha hb hc hm) fun _ _ _ h => tst_of (fun _ _ _ h => chain_of h) h
theorem pd_valueK {K' : PySem.W.Frag} {e : Expr} {te : RE} (hK : X.K = K') (he : PD X y e te) (hb : attributeBase e "value" X.env (eval e X.env) = eval e X.env := by rfl) : PD X y (.Attribute e "value" pos) (rVal K' te) := by
  subst hK
  exact pd_value he hb
end
end DL
set_option Elab.async false
set_option linter.all false
set_option maxRecDepth 100000
set_option maxHeartbeats 4000000
/-! DK: dicts whose keys are nested tuples of ints: {}, in, not in, d[k], d[k] = v. -/
namespace DL
open PySem PySem.Spec PyProof.Rows L2

mutual
theorem nest_is {X : Cx} {pins : List (Addr × Obj)} {σ : L2.St} {H : Hp} {s : Shared} (I : Inv X pins σ H s) : ∀ (k : NestedKey) (v : V) (u : Value), DV X.K H (ofN k) v → RelV v u → NestedIs s.heap k u
  | .none, v, u, h, r => by
    cases (show v = .non from h)
    cases (show u = Value.none from r)
    exact .none
  | .num i, v, u, h, r => by
    cases (show v = .int i from h)
    obtain ⟨t, rfl⟩ := (show ∃ t, u = Value.int i t from r)
    exact .int i t
  | .text x, v, u, h, r => by
    cases (show v = .str x from h)
    obtain ⟨t, rfl⟩ := (show ∃ t, u = Value.str x t from r)
    exact .text x t
  | .tup ks, v, u, h, r => by
    obtain ⟨a, vs, rfl, st, hs⟩ := (show ∃ a vs, v = V.ref a ∧ StT X.K H a vs ∧ DVs X.K H (ofNs ks) vs from h)
    cases (show u = Value.ref a from r)
    obtain ⟨its, rv, ⟨o, ho, hc, n, hd⟩, _⟩ := I.tuple st.sq
    exact .tup ho hc hd (by simpa using nest_all I ks vs its hs rv)
theorem nest_all {X : Cx} {pins : List (Addr × Obj)} {σ : L2.St} {H : Hp} {s : Shared} (I : Inv X pins σ H s) : ∀ (ks : List NestedKey) (vs : List V) (us : List Value), DVs X.K H (ofNs ks) vs → Vals vs us → NestedAll s.heap ks us
  | [], vs, us, h, r => by
    cases (show vs = [] from h)
    cases r
    exact .nil
  | k :: ks, vs, us, h, r => by
    obtain ⟨v, ws, rfl, h1, h2⟩ := (show ∃ v ws, vs = v :: ws ∧ DV X.K H (ofN k) v ∧ DVs X.K H (ofNs ks) ws from h)
    cases r with
    | cons r1 r2 => exact .cons (nest_is I k v _ h1 r1) (nest_all I ks ws _ h2 r2)
end
mutual
theorem hash_plain (w w' : World) : ∀ k : NestedKey, plainK k = true → k.hash w = k.hash w'
  | .none, _ => rfl
  | .num _, _ => rfl
  | .text _, h => by cases h
  | .tup ks, h => by
    show reduceHash (Builtin.Tuple.tupleHashOf (NestedKey.hashes w ks)) = reduceHash (Builtin.Tuple.tupleHashOf (NestedKey.hashes w' ks))
    rw [hashes_plain w w' ks h]
theorem hashes_plain (w w' : World) : ∀ ks : List NestedKey, plainKs ks = true → NestedKey.hashes w ks = NestedKey.hashes w' ks
  | [], _ => rfl
  | k :: ks, h => by
    have h' : (plainK k && plainKs ks) = true := h
    rw [Bool.and_eq_true] at h'
    show k.hash w :: NestedKey.hashes w ks = k.hash w' :: NestedKey.hashes w' ks
    rw [hash_plain w w' k h'.1, hashes_plain w w' ks h'.2]
end
abbrev PX : List (NestedKey × Addr × V) → List (NestedKey × Addr × Value) → Prop := Paired fun p q => p.1 = q.1 ∧ p.2.1 = q.2.1 ∧ RelV p.2.2 q.2.2
theorem DKN.mem {K : PySem.W.Frag} {H : Hp} {ds : List (NestedKey × D)} {xs : List (NestedKey × Addr × V)} (h : DKN K H ds xs) : ∀ p ∈ xs, KeyOk p.1 ∧ DV K H (ofN p.1) (.ref p.2.1) := by
  induction h with
  | nil => intro p hp; cases hp
  | cons k q r _ ih =>
    intro p hp
    rcases List.mem_cons.mp hp with rfl | hp
    · exact ⟨k, q⟩
    · exact ih p hp
theorem PX.mem {xs : List (NestedKey × Addr × V)} {us : List (NestedKey × Addr × Value)} (h : PX xs us) : ∀ u ∈ us, ∃ x ∈ xs, x.1 = u.1 ∧ x.2.1 = u.2.1 := by
  induction h with
  | nil => intro p hp; cases hp
  | cons q _ ih =>
    intro p hp
    rcases List.mem_cons.mp hp with rfl | hp
    · exact ⟨_, List.mem_cons_self, q.1, q.2.1⟩
    · obtain ⟨x, hx, e⟩ := ih p hp
      exact ⟨x, List.mem_cons_of_mem _ hx, e⟩
theorem tn_stab {a : Addr} {xs : List (NestedKey × Addr × V)} {P : Program} {w : World} {H : Hp} {h : Heap} {us : List (NestedKey × Addr × Value)} {P' : Program} {w' : World} {o : Obj} {es : Array DictEntry} {ep : Nat} (e1 : h.get? a = some o) (e2 : o.ExactDict)
    (e3 : o.data = .dict es ep) (e4 : es.toList = us.map (entryOfKey (nestedKind P' w'))) (e5 : (us.map (·.1)).Nodup) (e6 : PX xs us) (e7 : (a == sysModules) = false) (e8 : xs.length ≤ sizeLine) : ObjOk P w H h a (TN a xs) :=
  ⟨⟨us, P', w', o, es, ep, e1, e2, e3, e4, e5, e6, e7, e8⟩, ⟨o, e1⟩, fun h1 h2 p st => by
    obtain ⟨us, P', w', o, es, ep, e1, r⟩ := p
    exact ⟨us, P', w', o, es, ep, st o e1, r⟩⟩
theorem nx_of {a : Addr} {xs : List (NestedKey × Addr × V)} {P : Program} {w : World} {H : Hp} {h : Heap} (ok : ObjOk P w H h a (TN a xs)) : NX a xs := fun C dx q => by
  obtain ⟨us, P', w', o, es, ep, e1, e2, e3, _⟩ := (show _ ∧ _ from ok).1
  have ok2 : ObjOk P w H h a (XO a C dx) := q ▸ ok
  obtain ⟨oe, vs, e4, _, e5⟩ := (show _ ∧ _ from ok2).1
  rw [e1] at e4
  cases e4
  rw [e3] at e5
  cases e5
section
variable {X : Cx} {pins : List (Addr × Obj)} {σ : L2.St} {H : Hp} {s : Shared} {a : Addr}
theorem tn_open {xs : List (NestedKey × Addr × V)} {kvs : List (NestedKey × D)} (I : Inv X pins σ H s) (e : H a = some (TN a xs)) (dk : DKN X.K H kvs xs) : ∃ us, s.heap.DictOfH (nestedKind X.prog X.w) a us ∧ PX xs us ∧ (a == sysModules) = false ∧ xs.length ≤ sizeLine := by
  obtain ⟨us, P', w', o, es, ep, e1, e2, e3, e4, e5, e6, e7, e8⟩ := (show _ ∧ _ from I.hok a _ e).1
  refine ⟨us, ⟨o, es, ep, e1, e2, e3, ?_, fun u hu => ?_, e5⟩, e6, e7, e8⟩
  · rw [e4]
    apply List.map_congr_left
    intro u hu
    obtain ⟨x, hx, k1, _⟩ := PX.mem e6 u hu
    have := (dk.mem x hx).1.plain
    rw [k1] at this
    show (⟨u.1.hash w', _, _⟩ : DictEntry) = ⟨u.1.hash X.w, _, _⟩
    rw [hash_plain w' X.w u.1 this]
  · obtain ⟨x, hx, k1, k2⟩ := PX.mem e6 u hu
    obtain ⟨k3, k4⟩ := dk.mem x hx
    rw [k1, k2] at k4
    rw [k1] at k3
    exact ⟨nest_is I u.1 _ _ k4 rfl, k3.dep⟩
end
/-! ### tables -/
def nval (kvs : List (NestedKey × D)) (k : NestedKey) : Option D := (kvs.find? fun kv => decide (kv.1 = k)).map (·.2)
def nput (kvs : List (NestedKey × D)) (k : NestedKey) (v : D) : List (NestedKey × D) := if kvs.any (fun kv => decide (kv.1 = k)) then kvs.map (fun kv => if kv.1 = k then (kv.1, v) else kv) else kvs ++ [(k, v)]
def xval (xs : List (NestedKey × Addr × V)) (k : NestedKey) : Option V := (xs.find? fun x => decide (x.1 = k)).map (·.2.2)
def xput (xs : List (NestedKey × Addr × V)) (k : NestedKey) (b : Addr) (v : V) : List (NestedKey × Addr × V) := if xs.any (fun x => decide (x.1 = k)) then xs.map (fun x => if x.1 = k then (x.1, x.2.1, v) else x) else xs ++ [(k, b, v)]
theorem DKN.val {K : PySem.W.Frag} {H : Hp} {ds : List (NestedKey × D)} {xs : List (NestedKey × Addr × V)} (h : DKN K H ds xs) (k : NestedKey) : (nval ds k).isSome = (xval xs k).isSome ∧ ∀ d, nval ds k = some d → ∃ v, xval xs k = some v ∧ DV K H d v := by
  induction h with
  | nil => exact ⟨rfl, fun _ e => by cases e⟩
  | @cons k' d b v ds vs _ _ r _ ih =>
    by_cases e : k' = k
    · subst e
      refine ⟨by simp [nval, xval, List.find?_cons], fun d' h => ⟨v, by simp [xval, List.find?_cons], ?_⟩⟩
      have : d = d' := by simpa [nval, List.find?_cons] using h
      rw [← this]; exact r
    · have e1 : nval ((k', d) :: ds) k = nval ds k := by simp [nval, List.find?_cons, e]
      have e2 : xval ((k', b, v) :: vs) k = xval vs k := by simp [xval, List.find?_cons, e]
      rw [e1, e2]
      exact ih
theorem PX.val {xs : List (NestedKey × Addr × V)} {us : List (NestedKey × Addr × Value)} (h : PX xs us) (k : NestedKey) : (xval xs k).isSome = (atKey us k).isSome ∧ ∀ v, xval xs k = some v → ∃ p, atKey us k = some p ∧ RelV v p.2 := by
  induction h with
  | nil => exact ⟨rfl, fun _ e => by cases e⟩
  | @cons x u xs us q _ ih =>
    obtain ⟨q1, q2, q3⟩ := q
    by_cases e : x.1 = k
    · have e' : u.1 = k := q1.symm.trans e
      refine ⟨by simp [xval, atKey, List.find?_cons, e, e'], fun v h => ⟨u.2, by simp [atKey, List.find?_cons, e'], ?_⟩⟩
      have : x.2.2 = v := by simpa [xval, List.find?_cons, e] using h
      rw [← this]; exact q3
    · have e' : ¬ u.1 = k := fun z => e (q1.trans z)
      have e1 : xval (x :: xs) k = xval xs k := by simp [xval, List.find?_cons, e]
      have e2 : atKey (u :: us) k = atKey us k := by simp [atKey, List.find?_cons, e']
      rw [e1, e2]
      exact ih
theorem xval_any (xs : List (NestedKey × Addr × V)) (k : NestedKey) : (xs.any fun x => decide (x.1 = k)) = (xval xs k).isSome := by
  induction xs with
  | nil => rfl
  | cons x xs ih =>
    rw [List.any_cons, ih]
    by_cases e : x.1 = k <;> simp [xval, List.find?_cons, e]
theorem nval_any (xs : List (NestedKey × D)) (k : NestedKey) : (xs.any fun x => decide (x.1 = k)) = (nval xs k).isSome := by
  induction xs with
  | nil => rfl
  | cons x xs ih =>
    rw [List.any_cons, ih]
    by_cases e : x.1 = k <;> simp [nval, List.find?_cons, e]
theorem PX.put {xs : List (NestedKey × Addr × V)} {us : List (NestedKey × Addr × Value)} (h : PX xs us) (k : NestedKey) (b : Addr) {v : V} {r : Value} (rv : RelV v r) : PX (xput xs k b v) (storedH us k b r) := by
  have m : PX (xs.map fun x => if x.1 = k then (x.1, x.2.1, v) else x) (us.map (putAt k r)) := by
    induction h with
    | nil => exact .nil
    | @cons x u xs us q _ ih =>
      rw [List.map_cons, List.map_cons]
      refine .cons ?_ ih
      obtain ⟨q1, q2, q3⟩ := q
      unfold putAt
      by_cases e : x.1 = k
      · rw [if_pos e, if_pos (q1.symm.trans e)]; exact ⟨q1, q2, rv⟩
      · rw [if_neg e, if_neg (fun z => e (q1.trans z))]; exact ⟨q1, q2, q3⟩
  unfold xput storedH
  rw [xval_any, (h.val k).1]
  by_cases q : (atKey us k).isSome = true
  · rw [if_pos q, if_pos q]; exact m
  · rw [if_neg q, if_neg q]; exact Paired.snoc h ⟨rfl, rfl, rv⟩
theorem DKN.put {K : PySem.W.Frag} {H : Hp} {ds : List (NestedKey × D)} {xs : List (NestedKey × Addr × V)} (h : DKN K H ds xs) {k : NestedKey} {b : Addr} {d : D} {v : V} (hk : KeyOk k) (hb : DV K H (ofN k) (.ref b)) (r : DV K H d v) : DKN K H (nput ds k d) (xput xs k b v) := by
  have m : DKN K H (ds.map fun kv => if kv.1 = k then (kv.1, d) else kv) (xs.map fun x => if x.1 = k then (x.1, x.2.1, v) else x) := by
    induction h with
    | nil => exact .nil
    | @cons k' d' b' v' ds vs k1 q1 r1 _ ih =>
      rw [List.map_cons, List.map_cons]
      by_cases e : k' = k
      · rw [if_pos e, if_pos e]; exact .cons k1 q1 r ih
      · rw [if_neg e, if_neg e]; exact .cons k1 q1 r1 ih
  have ap : DKN K H (ds ++ [(k, d)]) (xs ++ [(k, b, v)]) := by
    clear m
    induction h with
    | nil => exact .cons hk hb r .nil
    | cons k1 q1 r1 _ ih => exact .cons k1 q1 r1 ih
  unfold nput xput
  rw [nval_any, xval_any, (h.val k).1]
  split
  · exact m
  · exact ap
theorem xput_len (xs : List (NestedKey × Addr × V)) (k : NestedKey) (b : Addr) (v : V) : (xput xs k b v).length ≤ xs.length + 1 := by
  unfold xput
  split
  · rw [List.length_map]; omega
  · rw [List.length_append]; show xs.length + 1 ≤ _; omega
theorem DKN.length {K : PySem.W.Frag} {H : Hp} {ds : List (NestedKey × D)} {xs : List (NestedKey × Addr × V)} (h : DKN K H ds xs) : ds.length = xs.length := by
  induction h with
  | nil => rfl
  | cons _ _ _ _ ih => rw [List.length_cons, List.length_cons, ih]
/-! ### readings over the hand layer -/
def KeyAt (K : PySem.W.Frag) (H : Hp) (x y : V) (f : Addr → Addr → List (NestedKey × Addr × V) → NestedKey → Prop) : Prop :=
  ∃ a b xs kvs k, x = .ref a ∧ y = .ref b ∧ H a = some (TN a xs) ∧ DKN K H kvs xs ∧ KeyOk k ∧ DV K H (ofN k) (.ref b) ∧ f a b xs k
def tNGet (K : PySem.W.Frag) (td ty : TE) : TE := fun σ H Q => td σ H fun x H1 => ty σ H1 fun y H2 => KeyAt K H2 x y fun _ _ xs k => ∃ v, xval xs k = some v ∧ Q v H2
def tNIn (K : PySem.W.Frag) (n : Bool) (ty td : TE) : TE := fun σ H Q => ty σ H fun y H1 => td σ H1 fun x H2 => KeyAt K H2 x y fun _ _ xs k => Q (.bl (if n then !(xval xs k).isSome else (xval xs k).isSome)) H2
def tDNewN : TE := fun _ H Q => ∀ p, H p = none → NX p [] → Q (.ref p) (upd H p (TN p []))
def sNPut (K : PySem.W.Frag) (td ty tv : TE) : TS := fun D σ H => tv σ H fun v H1 => td σ H1 fun x H2 => ty σ H2 fun y H3 => KeyAt K H3 x y fun a b xs k => xs.length < sizeLine ∧ (NX a (xput xs k b v) → D.nx σ (upd H3 a (TN a (xput xs k b v))))
section
variable {X : Cx} {o i value : Expr} {pos pos' : Pos} {td ty tv : TE}
theorem room_nest {A : Around} {P : Program} {w : World} (hu : A.units + 64 < cLine) : (nestedKind P w).room A.in1 := by
  show A.units + 1 + 8 < cLine
  omega
theorem pe_dnewN : PE X (.Dict [] [] pos) tDNewN := ⟨fun pins s σ H Q I h => by
  have ok : ∀ H', ObjOk X.prog X.w H' (s.heap.push { cls := .type "dict", data := .dict #[] }) s.heap.objs.size (TN s.heap.objs.size []) := fun H' =>
    tn_stab (us := []) (P' := X.prog) (w' := X.w) (Heap.get?_push_size _ rfl) ⟨rfl, rfl, rfl⟩ rfl rfl List.nodup_nil .nil (beq_eq_false_iff_ne.mpr (Ne.symm (Nat.ne_of_lt I.big))) (Nat.zero_le _)
  exact wpAny_Dict_empty ⟨.ref s.heap.objs.size, _, I.laid (a := s.heap.objs.size) (o := TN s.heap.objs.size []) (t' := s.toks) (fun _ _ q => Heap.get?_push_of_some _ q) (Nat.le_refl _) (ok _), rfl, h _ (I.hok.fresh (Nat.le_refl _)) (nx_of (ok H))⟩⟩
theorem pe_nget (hu : X.A.units + 64 < cLine) (ho : PE X o td) (hi : PE X i ty) (hs : NoSl i) : PE X (.Subscript o i pos) (tNGet X.K td ty) := by
  refine ⟨fun pins s σ H Q I h => ?_⟩
  refine subD_of PySem.F.slot_dict_getitem.lookup hs (thn (ho.run pins s σ H _ I h) fun u s1 ⟨x, H1, I1, rx, q1⟩ => thn (hi.run pins s1 σ H1 _ I1 q1) fun iv s2 ⟨y, H2, I2, ry, a, b, xs, kvs, k, ex, ey, e, dk, ko, kb, v, hv, q2⟩ => ?_)
  subst ex ey
  cases (show u = Value.ref a from rx)
  cases (show iv = Value.ref b from ry)
  obtain ⟨us, dd, px, hd, hl⟩ := tn_open I2 e dk
  obtain ⟨p, hp, rp⟩ := (PX.val px k).2 v hv
  exact ⟨dd.typeIs, wpAny_getItem_heap (room_nest hu) ⟨nest_is I2 k _ _ kb rfl, ko.dep⟩ dd hp ⟨v, H2, I2.tok _, rp, q2⟩⟩
theorem pc_nin (hu : X.A.units + 64 < cLine) (hi : PE X i ty) (ho : PE X o td) : PC X .In i o (tNIn X.K false ty td) := by
  refine ⟨fun pins s σ H Q I h => ?_⟩
  refine thn (hi.run pins s σ H _ I h) fun iv s1 ⟨y, H1, I1, ry, q1⟩ => thn (ho.run pins s1 σ H1 _ I1 q1) fun u s2 ⟨x, H2, I2, rx, a, b, xs, kvs, k, ex, ey, e, dk, ko, kb, q2⟩ => ?_
  subst ex ey
  cases (show u = Value.ref a from rx)
  cases (show iv = Value.ref b from ry)
  obtain ⟨us, dd, px, hd, hl⟩ := tn_open I2 e dk
  refine wpAny_in_heap (room_nest hu) ⟨nest_is I2 k _ _ kb rfl, ko.dep⟩ hd dd ?_
  rw [← (PX.val px k).1]
  exact ⟨.bl (xval xs k).isSome, H2, I2.tok _, rfl, q2⟩
theorem pc_nnotin (hu : X.A.units + 64 < cLine) (hi : PE X i ty) (ho : PE X o td) : PC X .NotIn i o (tNIn X.K true ty td) := by
  refine ⟨fun pins s σ H Q I h => ?_⟩
  refine thn (hi.run pins s σ H _ I h) fun iv s1 ⟨y, H1, I1, ry, q1⟩ => thn (ho.run pins s1 σ H1 _ I1 q1) fun u s2 ⟨x, H2, I2, rx, a, b, xs, kvs, k, ex, ey, e, dk, ko, kb, q2⟩ => ?_
  subst ex ey
  cases (show u = Value.ref a from rx)
  cases (show iv = Value.ref b from ry)
  obtain ⟨us, dd, px, hd, hl⟩ := tn_open I2 e dk
  refine wpAny_notIn_heap (room_nest hu) ⟨nest_is I2 k _ _ kb rfl, ko.dep⟩ hd dd ?_
  rw [← (PX.val px k).1]
  exact ⟨.bl (!(xval xs k).isSome), H2, I2.tok _, rfl, q2⟩
theorem ps_nput (hu : X.A.units + 64 < cLine) (ho : PE X o td) (hi : PE X i ty) (hv : PE X value tv) (hs : swapsWith value (some (.Subscript o i pos')) pos.line X.env = pure false) :
    PS X (.Assign [.Subscript o i pos'] value pos) (sNPut X.K td ty tv) := by
  refine ⟨fun pins s σ H D I h => ?_⟩
  refine wpAny_Assign_Subscript (thn (hv.run pins s σ H _ I h) fun r s1 ⟨v, H1, I1, rv, q1⟩ => thn (ho.run pins s1 σ H1 _ I1 q1) fun u s2 ⟨x, H2, I2, rx, q2⟩ => thn (hi.run pins s2 σ H2 _ I2 q2) fun iv s3 ⟨y, H3, I3, ry, a, b, xs, kvs, k, ex, ey, e, dk, ko, kb, hl2, q3⟩ => ?_) hs
  subst ex ey
  cases (show u = Value.ref a from rx)
  cases (show iv = Value.ref b from ry)
  obtain ⟨us, dd, px, hd, hl⟩ := tn_open I3 e dk
  refine wpAny_setItem_heap (hsz := by rw [← Paired.length px]; exact hl) (room_nest hu) ⟨nest_is I3 k _ _ kb rfl, ko.dep⟩ dd fun h' dd' hs' => ?_
  obtain ⟨q, es, ep, hq, h2, h3, h4, _, h5⟩ := dd'
  have ok : ∀ H', ObjOk X.prog X.w H' h' a (TN a (xput xs k b v)) := fun H' => tn_stab (us := storedH us k b r) (P' := X.prog) (w' := X.w) hq h2 h3 h4 h5 (PX.put px k b rv) hd (Nat.le_trans (xput_len xs k b v) hl2)
  exact ⟨σ, _, d_write I3 (by rw [e]; exact True.intro) hs' ⟨q, hq⟩ (ok _), q3 (nx_of (ok H))⟩
end
/-! ### rules -/
section
variable {X : Cx} {y : DXw} {o i value : Expr} {pos pos' : Pos} {td ti tv : RE}
def rDNewN : RE := fun _ S Q => ∀ p, S p = none → Q (.ref p) (sup S p (.dN []))
theorem pd_dnewN : PD X y (.Dict [] [] pos) rDNewN := by
  refine PD.of pe_dnewN fun σ H Q h => ?_
  obtain ⟨ρ, S, R, sr, so, h, k⟩ := h
  intro p hp nx
  exact k (.ref p) _ _ _ (Go.newDN so.so hp nx .nil) rfl (h p (so.so.free hp))
def isN (S : Sto) (o k : D) (f : Addr → List (NestedKey × D) → NestedKey → Prop) : Prop := match o with
  | .ref a => ∃ kvs key, S a = some (.dN kvs) ∧ k = ofN key ∧ KeyOk key ∧ f a kvs key
  | _ => False
def rNGet (td ti : RE) : RE := fun ρ S Q => td ρ S fun o S1 => ti ρ S1 fun k S2 => isN S2 o k fun _ kvs key => ∃ d, nval kvs key = some d ∧ Q d S2
def rNIn (n : Bool) (ti td : RE) : RE := fun ρ S Q => ti ρ S fun k S1 => td ρ S1 fun o S2 => isN S2 o k fun _ kvs key => Q (.bl (if n then !(nval kvs key).isSome else (nval kvs key).isSome)) S2
def rNPut (td ti tv : RE) : RS := fun E ρ S => tv ρ S fun d S1 => td ρ S1 fun o S2 => ti ρ S2 fun k S3 => isN S3 o k fun a kvs key => kvs.length < sizeLine ∧ E.nx ρ (sup S3 a (.dN (nput kvs key d)))
theorem isN_of {K : PySem.W.Frag} {S : Sto} {H : Hp} {o k : D} {v w : V} {f : Addr → List (NestedKey × D) → NestedKey → Prop} (so : SOk K H S) (dv : DV K H o v) (dw : DV K H k w) (h : isN S o k f) :
    ∃ a b kvs xs key, v = .ref a ∧ w = .ref b ∧ S a = some (.dN kvs) ∧ H a = some (TN a xs) ∧ DKN K H kvs xs ∧ KeyOk key ∧ DV K H (ofN key) (.ref b) ∧ f a kvs key := by
  cases o with
  | ref a =>
    obtain ⟨kvs, key, e, rfl, ko, h⟩ := h
    obtain ⟨xs, e1, nx, r⟩ := so a _ e
    obtain ⟨ks, rfl⟩ := ko.tup
    obtain ⟨b, vs, rfl, _⟩ := id (show ∃ b vs, w = V.ref b ∧ StT K H b vs ∧ DVs K H (ofNs ks) vs from dw)
    exact ⟨a, b, kvs, xs, _, dv, rfl, e, e1, r, ko, dw, h⟩
  | _ => exact False.elim h
theorem pd_nget (hu : X.A.units + 64 < cLine) (ho : PD X y o td) (hi : PD X y i ti) (hs : NoSl i := by exact fun _ _ => rfl) : PD X y (.Subscript o i pos) (rNGet td ti) := by
  refine PD.of (pe_nget hu ho hi hs) fun σ H Q h => ?_
  obtain ⟨ρ, S, R, sr, so, h, k⟩ := h
  refine ⟨ρ, S, _, sr, so, h, fun x S1 v H1 g1 dv h1 => ⟨ρ, S1, _, sr.go g1, so.go g1, h1, fun z S2 w H2 g2 dw h2 => ?_⟩⟩
  obtain ⟨a, b, kvs, xs, key, rfl, rfl, _, e1, r, ko, kb, d, hd, h3⟩ := isN_of g2.ok (DV.go g2 _ _ dv) dw h2
  obtain ⟨u, hu, ru⟩ := (r.val key).2 d hd
  exact ⟨a, b, xs, kvs, key, rfl, rfl, e1, r, ko, kb, u, hu, k d S2 u H2 (g1.trans g2) ru h3⟩
theorem nin_read {n : Bool} {σ : L2.St} {H : Hp} {Q : VK} (h : lE X.K y (rNIn n ti td) σ H Q) : tNIn X.K n (lE X.K y ti) (lE X.K y td) σ H Q := by
  obtain ⟨ρ, S, R, sr, so, h, k⟩ := h
  refine ⟨ρ, S, _, sr, so, h, fun z S1 w H1 g1 dw h1 => ⟨ρ, S1, _, sr.go g1, so.go g1, h1, fun x S2 v H2 g2 dv h2 => ?_⟩⟩
  obtain ⟨a, b, kvs, xs, key, rfl, rfl, _, e1, r, ko, kb, h3⟩ := isN_of g2.ok dv (DV.go g2 _ _ dw) h2
  refine ⟨a, b, xs, kvs, key, rfl, rfl, e1, r, ko, kb, ?_⟩
  show Q (.bl (if n then !(xval xs key).isSome else (xval xs key).isSome)) H2
  rw [← (r.val key).1]
  exact k (.bl (if n then !(nval kvs key).isSome else (nval kvs key).isSome)) S2 _ H2 (g1.trans g2) rfl h3
theorem pd_nin (hu : X.A.units + 64 < cLine) (hi : PD X y i ti) (ho : PD X y o td) (hb : behindInMarks .In o = false := by rfl) : PD X y (.Compare i [.In] [o] pos) (rNIn false ti td) := PD.of (pe_cmp (pc_nin hu hi ho) hb) fun _ _ _ h => nin_read (n := false) h
theorem pd_nnotin (hu : X.A.units + 64 < cLine) (hi : PD X y i ti) (ho : PD X y o td) (hb : behindInMarks .NotIn o = false := by rfl) : PD X y (.Compare i [.NotIn] [o] pos) (rNIn true ti td) := PD.of (pe_cmp (pc_nnotin hu hi ho) hb) fun _ _ _ h => nin_read (n := true) h
theorem pdt_nin (hu : X.A.units + 64 < cLine) (hi : PD X y i ti) (ho : PD X y o td) (hb : behindInMarks .In o = false := by rfl) : PDT X y (.Compare i [.In] [o] pos) (rTst (rNIn false ti td)) := PDT.of (pt_cmp (pc_nin hu hi ho) hb) fun _ _ _ h => tst_of (fun _ _ _ h => nin_read (n := false) h) h
theorem pdt_nnotin (hu : X.A.units + 64 < cLine) (hi : PD X y i ti) (ho : PD X y o td) (hb : behindInMarks .NotIn o = false := by rfl) : PDT X y (.Compare i [.NotIn] [o] pos) (rTst (rNIn true ti td)) := PDT.of (pt_cmp (pc_nnotin hu hi ho) hb) fun _ _ _ h => tst_of (fun _ _ _ h => nin_read (n := true) h) h
theorem pd_nput (hu : X.A.units + 64 < cLine) (ho : PD X y o td) (hi : PD X y i ti) (hv : PD X y value tv) (hs : swapsWith value (some (.Subscript o i pos')) pos.line X.env = pure false := by rfl) : PDS X y (.Assign [.Subscript o i pos'] value pos) (rNPut td ti tv) := by
  refine PDS.of (ps_nput hu ho hi hv hs) fun D σ H h => ?_
  obtain ⟨ρ, S, E, sr, so, h, eo⟩ := h
  refine ⟨ρ, S, _, sr, so, h, fun d S1 u H1 g1 du h1 => ⟨ρ, S1, _, sr.go g1, so.go g1, h1, fun x S2 v H2 g2 dv h2 => ⟨ρ, S2, _, (sr.go g1).go g2, (so.go g1).go g2, h2, fun z S3 w H3 g3 dw h3 => ?_⟩⟩⟩
  obtain ⟨a, b, kvs, xs, key, rfl, rfl, e0, e1, r, ko, kb, hl, h4⟩ := isN_of g3.ok (DV.go g3 _ _ dv) dw h3
  have gA := g1.trans (g2.trans g3)
  have du3 := DV.go (g2.trans g3) _ _ du
  refine ⟨a, b, xs, kvs, key, rfl, rfl, e1, r, ko, kb, by rw [← r.length]; exact hl, fun nx => ?_⟩
  have g4 := Go.setDN g3.ok e0 nx (r.put ko kb du3)
  exact eo.nx ρ _ σ _ (gA.trans g4) ((sr.go gA).go g4) h4
end
end DL
set_option Elab.async false
set_option linter.all false
set_option maxRecDepth 100000
set_option maxHeartbeats 4000000
/-! DJ: displays of dicts by written texts, list.index of ints, list.reverse, try/except without a name. -/
namespace DL
open PySem PySem.Spec PyProof.Rows L2
section
variable {X : Cx} {y : DXw}
def dIndexI : RMt := fun o ds S R => match o, ds with
  | .ref a, [.int i] => ∃ (ns : List Int) (j : Nat), S a = some (.lst (ns.map D.int)) ∧ ns[j]? = some i ∧ (∀ m, m < j → ns[m]? ≠ some i) ∧ R (.int (j : Int)) S
  | _, _ => False
theorem md_indexI : MtR X "list.index" (lmt X.K dIndexI) := by
  intro pins s σ H v vs vv us Q I rv rs h
  obtain ⟨o, ds, S, R, dv, dvs, so, h, k⟩ := h
  refine mt_index pins s σ H v vs vv us Q I rv rs ?_
  unfold dIndexI at h
  split at h
  · rename_i a i
    cases (show v = V.ref a from dv)
    obtain ⟨w, rfl, dw⟩ := dvs1 dvs
    cases (show w = V.int i from dw)
    obtain ⟨ns, j, e, hj, hno, h⟩ := h
    obtain ⟨ws, e1, r⟩ := so a _ e
    cases r.ints
    refine ⟨a, _, .int i, j, .int i, rfl, rfl, SqL.of e1, rfl, by rw [List.all_map, List.all_eq_true]; intro _ _; rfl, by rw [List.getElem?_map, hj]; rfl, by show (i == i) = true; simp, fun m z hm hz => ?_, k (.int (j : Int)) S _ H (Go.refl so) rfl h⟩
    rw [List.getElem?_map] at hz
    cases q : ns[m]? with
    | none => rw [q] at hz; cases hz
    | some n =>
      rw [q] at hz
      cases (Option.some.inj hz)
      show (n == i) = false
      have : n ≠ i := fun z => hno m hm (by rw [q, z])
      simp [this]
  · exact h.elim
def dReverse : RMt := fun o ds S R => match o, ds with
  | .ref a, [] => ∃ xs, S a = some (.lst xs) ∧ R .non (sup S a (.lst xs.reverse))
  | _, _ => False
theorem md_reverse : MtR X "list.reverse" (lmt X.K dReverse) := by
  intro pins s σ H v vs vv us Q I rv rs h
  obtain ⟨o, ds, S, R, dv, dvs, so, h, k⟩ := h
  refine mt_reverse pins s σ H v vs vv us Q I rv rs ?_
  unfold dReverse at h
  split at h
  · rename_i a
    cases (show v = V.ref a from dv)
    cases dvs
    obtain ⟨xs, e, h⟩ := h
    obtain ⟨ws, e1, r⟩ := so a _ e
    exact ⟨a, ws, rfl, rfl, e1, k .non _ _ _ (Go.setLst so e r.rev) rfl h⟩
  · exact h.elim
end
/-! ### displays by written texts -/
section
variable {X : Cx} {y : DXw} {pos : Pos}
def lP (K : PySem.W.Frag) (y : DXw) (ks : List Str) (t : RA) : L2.St → Hp → (List (V × V) → Hp → Prop) → Prop := fun σ H Q => ∃ ρ S R, SRv K σ H ρ ∧ SX K y H S ∧ t ρ S R ∧ ∀ ds S' vs H', Go K H S H' S' → DVs K H' ds vs → ds.length = ks.length → R ds S' → Q ((ks.map V.str).zip vs) H'
structure PDP (X : Cx) (y : DXw) (pos : Pos) (keys : List (Option Expr)) (values : List Expr) (ks : List Str) (t : RA) : Prop where
  of : ∃ trs, PPs X pos keys values trs ∧ ∀ σ H Q, lP X.K y ks t σ H Q → tPairs trs σ H Q
  all : keys.all (·.isSome) = true
  len : keys.length = values.length
  lenk : keys.length = ks.length
theorem pdp_nil : PDP X y pos [] [] [] rNil := ⟨⟨[], pps_nil, fun σ H Q h => by
  obtain ⟨ρ, S, R, sr, so, h, k⟩ := h
  exact k [] S [] H (Go.refl so.so) DVs.nil rfl h⟩, rfl, rfl, rfl⟩
theorem pdp_cons {x : Str} {j : Nat} {p1 : Pos} {e : Expr} {keys : List (Option Expr)} {values : List Expr} {ks : List Str} {t : RE} {u : RA} (he : PD X y e t) (hr : PDP X y pos keys values ks u) :
    PDP X y pos (some (.Constant (.str x) j p1) :: keys) (e :: values) (x :: ks) (rCons t u) := by
  obtain ⟨⟨trs, hp, hw⟩, h1, h2, h3⟩ := hr
  refine ⟨⟨_, pps_cons pe_str he hp, fun σ H Q h => ?_⟩, by rw [List.all_cons, h1]; rfl, by rw [List.length_cons, List.length_cons, h2], by rw [List.length_cons, List.length_cons, h3]⟩
  obtain ⟨ρ, S, R, sr, so, h, k⟩ := h
  refine ⟨ρ, S, _, sr, so, h, fun d S1 v H1 g1 dv h1 => ?_⟩
  refine hw σ H1 _ ⟨ρ, S1, _, sr.go g1, so.go g1, h1, fun ds S2 vs H2 g2 dvs hn h2 => ?_⟩
  exact k _ S2 _ H2 (g1.trans g2) (DVs.cons (DV.go g2 _ _ dv) dvs) (by rw [List.length_cons, List.length_cons, hn]) h2
/-- the table of a display -/
def strK (ks : List Str) (ds : List D) : List (Key × D) := (ks.zip ds).map fun p => (.inr p.1, p.2)
def rDispS (ks : List Str) (t : RA) : RE := fun ρ S Q => ∀ p, S p = none → t ρ (sup S p (.dK [])) fun ds S2 => S2 p = some (.dK []) ∧ Q (.ref p) (sup S2 p (.dK (strK ks ds)))
theorem DKs.zip {K : PySem.W.Frag} {H : Hp} : ∀ {ks : List Str} {ds : List D} {vs : List V}, DVs K H ds vs → DKs K H (strK ks ds) ((ks.zip vs).map fun p => ((.inr p.1 : Key), p.2))
  | [], _, _, _ => .nil
  | k :: ks, [], vs, h => by
    cases (show vs = [] from h)
    exact .nil
  | k :: ks, d :: ds, vs, h => by
    obtain ⟨v, ws, rfl, r, q⟩ := h
    exact .cons r (DKs.zip q)
theorem merge_new : ∀ {more kvs : List (Key × V)}, (more.map (·.1)).Nodup → (∀ k ∈ more.map (·.1), k ∉ kvs.map (·.1)) → mergeK kvs more = kvs ++ more
  | [], kvs, _, _ => by rw [List.append_nil]; rfl
  | (k, v) :: more, kvs, hn, hk => by
    have hp : putK kvs k v = kvs ++ [(k, v)] := by
      refine putK_new v ?_
      cases q : valV kvs k with
      | none => rfl
      | some z =>
        exfalso
        refine hk k (by simp) ?_
        have := valV_any k kvs
        rw [q] at this
        obtain ⟨x, hx, e⟩ := List.any_eq_true.mp this
        exact List.mem_map.mpr ⟨x, hx, of_decide_eq_true e⟩
    show mergeK (putK kvs k v) more = _
    rw [List.map_cons, List.nodup_cons] at hn
    rw [hp, merge_new hn.2, List.append_assoc]
    · rfl
    · intro j hj hm
      rw [List.map_append, List.mem_append] at hm
      rcases hm with hm | hm
      · exact hk j (List.mem_cons_of_mem _ hj) hm
      · cases List.mem_singleton.mp hm
        exact hn.1 hj
theorem zip_keys : ∀ {ks : List Str} {vs : List V}, ks.length = vs.length → ((ks.zip vs).map fun p => ((.inr p.1 : Key), p.2)).map (·.1) = ks.map Sum.inr
  | [], _, _ => rfl
  | k :: ks, [], h => by cases h
  | k :: ks, v :: vs, h => by
    have := zip_keys (ks := ks) (vs := vs) (by simpa using h)
    rw [List.zip_cons_cons, List.map_cons, List.map_cons, this]
    rfl
theorem pd_dispS {keys : List (Option Expr)} {values : List Expr} {ks : List Str} {t : RA} (h : PDP X y pos keys values ks t) (hn : ks.Nodup := by decide) (h0 : keys ≠ [] := by simp) (h15 : keys.length ≤ 15 := by decide) : PD X y (.Dict keys values pos) (rDispS ks t) := by
  obtain ⟨⟨trs, hp, hw⟩, ha, hl, hlk⟩ := h
  refine PD.of (pe_disp hp ha hl h0 h15) fun σ H Q h => ?_
  obtain ⟨ρ, S, R, sr, so, h, kk⟩ := h
  intro p hp
  have g0 := Go.newDK (K := X.K) so.so hp .nil
  refine hw σ _ _ ⟨ρ, sup S p (.dK []), _, sr.go g0, so.go g0, h p (so.so.free hp), fun ds S2 vs H2 g2 dvs hd h2 => ?_⟩
  obtain ⟨e2, q⟩ := h2
  obtain ⟨zs, e3, r⟩ := g2.ok p _ e2
  cases r
  have hlen : ks.length = vs.length := by rw [← dvs.length, hd]
  refine ⟨e3, (ks.zip vs).map fun p => ((.inr p.1 : Key), p.2), ?_, ?_, ?_⟩
  · rw [List.map_map, List.zip_map_left]
    rfl
  · rw [List.length_map, List.length_zip, ← hlen, Nat.min_self, ← hlk]
    exact h15
  · rw [merge_new (by rw [zip_keys hlen]; exact List.Pairwise.map _ (fun a b h z => h (by injection z)) hn) (fun _ _ z => by cases z), List.nil_append]
    exact kk (.ref p) _ _ _ ((g0.trans g2).trans (Go.setDK g2.ok e2 (DKs.zip dvs))) rfl q
end
/-! ### try/except without a name -/
def dOnly (K : PySem.W.Frag) (c : Value) (ts : RS) (yo : DWX) (E : DEnds) : DWX := fun C d ρ S => ∃ b, PySem.W.exmOne K (.ref C) c = some b ∧ IFB b (ts E ρ S) (yo C d ρ S)
def rTryO (K : PySem.W.Frag) (c : Value) (yo : DWX) (tb : WX → DWX → RS) (ts : RS) : RS := fun E ρ S => ∀ W, tb W (dOnly K c ts yo E) E ρ S
section
variable {X : Cx} {y : DXw} {x : Str} {c : Value} {body suite : List Stmt} {b₀ : Stmt} {np pos pos' : Pos} {tb : WX → DWX → RS} {ts : RS}
theorem pd_tryO (hs : X.stack = X.env :: X.outer) (hf : X.env.frame = some X.env.locals) (hc : Names X x c) (tk : Takes X y.W)
    (hb : ∀ (W : WX) (d : DWX) (pn : List (Addr × Obj)) (xe : Value → Shared → Prop), Takes (X.tr pn xe) W → PDSs (X.tr pn xe) ⟨W, d⟩ body (tb W d))
    (hsu : ∀ (a : Addr) (pn : List (Addr × Obj)), PDSs (X.suite a pn) y0 (b₀ :: suite) ts) :
    PDS X y (.Try body [.ExceptHandler (some (.Name x np)) none (b₀ :: suite) pos'] [] [] pos) (rTryO X.K c y.d tb ts) := by
  refine PDS.of (ps_try_only (tb := fun W D σ H => ∃ d, lS X.K ⟨W, d⟩ (tb W d) D σ H) (ts := fun _ _ _ => lS X.K y0 ts) hs hf hc tk (fun W pn xe tk' _ => ⟨fun pins s σ H D I ⟨d, q⟩ => (hb W d pn xe tk').run pins s σ H D I q⟩) (fun a oe cls d pn _ _ => hsu a _)) fun D σ H h => ?_
  obtain ⟨ρ, S, E, sr, so, h, eo⟩ := h
  refine ⟨dOnly X.K c ts y.d E, ρ, S, E, sr, ⟨so.so, fun C d ρ' S' dx w σ' H' g sr' e dv hd => ?_⟩, h _, eo⟩
  obtain ⟨b, hb1, hi1⟩ := hd
  obtain ⟨h1, h2⟩ := hi1.of
  refine ⟨b, hb1, fun z a ha => ?_, fun z => so.xo C d ρ' S' dx w σ' H' g sr' e dv (h2 z)⟩
  refine ⟨ρ', S', E, sr', sx0 g.ok, h1 z, ?_⟩
  exact ⟨fun ρ2 S2 σ2 H2 g2 sr2 q => eo.nx _ _ _ _ (g.trans g2) sr2 q, fun d2 S2 v2 H2 g2 dv2 q => eo.rt _ _ _ _ (g.trans g2) dv2 q, fun ρ2 S2 σ2 H2 g2 sr2 q => eo.bk _ _ _ _ (g.trans g2) sr2 q, fun ρ2 S2 σ2 H2 g2 sr2 q => eo.ct _ _ _ _ (g.trans g2) sr2 q⟩
end
end DL
set_option Elab.async false
set_option linter.all false
set_option maxRecDepth 100000
set_option maxHeartbeats 4000000
/-! DM: repr of nested values with dicts by ints and texts in them. -/
namespace DL
open PySem PySem.Spec PyProof.Rows L2
/-- the table of modules stands in the part that stays -/
def HasM (base : Heap) : Prop := ∃ o, base.get? sysModules = some o
def keyP : Key → PyData
  | .inl i => .int i
  | .inr x => .str x
mutual
inductive PyQ (S : Sto) : D → PyData → Prop
  | non : PyQ S .non .none
  | bl (b : Bool) : PyQ S (.bl b) (.bool b)
  | int (i : Int) : PyQ S (.int i) (.int i)
  | str (x : Str) : PyQ S (.str x) (.str x)
  | tup {xs : List D} {ps : List PyData} : PyQs S xs ps → PyQ S (.tup xs) (.tuple ps)
  | lst {a : Addr} {xs : List D} {ps : List PyData} : S a = some (.lst xs) → PyQs S xs ps → PyQ S (.ref a) (.list ps)
  | dct {a : Addr} {kvs : List (Key × D)} {kps : List (PyData × PyData)} : S a = some (.dK kvs) → PyKv S kvs kps → PyQ S (.ref a) (.dict kps)
inductive PyQs (S : Sto) : List D → List PyData → Prop
  | nil : PyQs S [] []
  | cons {x : D} {xs : List D} {p : PyData} {ps : List PyData} : PyQ S x p → PyQs S xs ps → PyQs S (x :: xs) (p :: ps)
inductive PyKv (S : Sto) : List (Key × D) → List (PyData × PyData) → Prop
  | nil : PyKv S [] []
  | cons {k : Key} {d : D} {p : PyData} {kvs : List (Key × D)} {kps : List (PyData × PyData)} : PyQ S d p → PyKv S kvs kps → PyKv S ((k, d) :: kvs) ((keyP k, p) :: kps)
end
mutual
theorem PyQ.ext {S S' : Sto} (x : Ext S S') : ∀ {d : D} {p : PyData}, PyQ S d p → PyQ S' d p
  | _, _, .non => .non
  | _, _, .bl b => .bl b
  | _, _, .int i => .int i
  | _, _, .str t => .str t
  | _, _, .tup hs => .tup (PyQs.ext x hs)
  | _, _, .lst e hs => .lst (x _ _ e) (PyQs.ext x hs)
  | _, _, .dct e hs => .dct (x _ _ e) (PyKv.ext x hs)
theorem PyQs.ext {S S' : Sto} (x : Ext S S') : ∀ {ds : List D} {ps : List PyData}, PyQs S ds ps → PyQs S' ds ps
  | _, _, .nil => .nil
  | _, _, .cons h1 h2 => .cons (PyQ.ext x h1) (PyQs.ext x h2)
theorem PyKv.ext {S S' : Sto} (x : Ext S S') : ∀ {ds : List (Key × D)} {ps : List (PyData × PyData)}, PyKv S ds ps → PyKv S' ds ps
  | _, _, .nil => .nil
  | _, _, .cons h1 h2 => .cons (PyQ.ext x h1) (PyKv.ext x h2)
end
section
variable {X : Cx} {pins : List (Addr × Obj)} {σ : L2.St} {H : Hp} {s : Shared} {S : Sto}
theorem not_mods (I : Inv X pins σ H s) (hm : HasM X.base) {a : Addr} {u : HO} (e : H a = some u) : a ≠ sysModules := fun z => by
  obtain ⟨o, ho⟩ := hm
  have := (I.bs _ _ ho).2
  rw [z, this] at e
  cases e
mutual
theorem PyQ.reads (I : Inv X pins σ H s) (so : SOk X.K H S) (hm : HasM X.base) : ∀ {d : D} {p : PyData}, PyQ S d p → ∀ (v : V) (u : Value), DV X.K H d v → RelV v u → ∃ as, Reads s.heap u p as ∧ sysModules ∉ as
  | _, _, .non, v, u, h, r => by
    cases (show v = .non from h)
    cases (show u = Value.none from r)
    exact ⟨_, .none, fun z => by cases z⟩
  | _, _, .bl b, v, u, h, r => by
    cases (show v = .bl b from h)
    cases (show u = Value.bool b from r)
    exact ⟨_, .bool b, fun z => by cases z⟩
  | _, _, .int i, v, u, h, r => by
    cases (show v = .int i from h)
    obtain ⟨t, rfl⟩ := (show ∃ t, u = Value.int i t from r)
    exact ⟨_, .int i t, fun z => by cases z⟩
  | _, _, .str x, v, u, h, r => by
    cases (show v = .str x from h)
    obtain ⟨t, rfl⟩ := (show ∃ t, u = Value.str x t from r)
    exact ⟨_, .str x t, fun z => by cases z⟩
  | _, _, .tup hs, v, u, h, r => by
    obtain ⟨a, vs, rfl, st, hv⟩ := (show ∃ a vs, v = V.ref a ∧ StT X.K H a vs ∧ DVs X.K H _ vs from h)
    cases (show u = Value.ref a from r)
    obtain ⟨its, rv, ⟨o, ho, hc, n, hd⟩, _⟩ := I.tuple st.sq
    obtain ⟨as, ha, hn⟩ := PyQs.reads I so hm hs vs its hv rv
    exact ⟨as, .tuple ho hc hd (by simpa using ha), hn⟩
  | _, _, .lst (a := a) e hs, v, u, h, r => by
    cases (show v = .ref a from h)
    cases (show u = Value.ref a from r)
    obtain ⟨vs, e1, hv⟩ := so a _ e
    obtain ⟨_, its, n, rv, ho⟩ := (show ObjOk X.prog X.w H s.heap a (.lst vs) from I.hok a _ e1)
    obtain ⟨as, ha, hn⟩ := PyQs.reads I so hm hs vs its hv rv
    exact ⟨_, .list ho rfl rfl (by simpa using ha), fun z => (List.mem_cons.mp z).elim (fun z => not_mods I hm e1 z.symm) hn⟩
  | _, _, .dct (a := a) e hs, v, u, h, r => by
    cases (show v = .ref a from h)
    cases (show u = Value.ref a from r)
    obtain ⟨vs, e1, hv⟩ := so a _ e
    obtain ⟨_, hd, us, kv, o, es, ep, ho, hc, hdat, _, hp, _⟩ := dk_of I.hok e1
    obtain ⟨bs, h1, h2, hn⟩ := PyKv.reads I so hm hs vs us es.toList hv kv hp
    refine ⟨_, .dict ho hc.1 hdat h1 h2, fun z => ?_⟩
    rcases List.mem_cons.mp z with z | z
    · exact not_mods I hm e1 z.symm
    · exact hn (by simpa using z)
theorem PyQs.reads (I : Inv X pins σ H s) (so : SOk X.K H S) (hm : HasM X.base) : ∀ {ds : List D} {ps : List PyData}, PyQs S ds ps → ∀ (vs : List V) (us : List Value), DVs X.K H ds vs → Vals vs us → ∃ as, ReadsAll s.heap us ps as ∧ sysModules ∉ as
  | _, _, .nil, vs, us, h, r => by
    cases (show vs = [] from h)
    cases r
    exact ⟨_, .nil, fun z => by cases z⟩
  | _, _, .cons h1 h2, vs, us, h, r => by
    obtain ⟨v, ws, rfl, q1, q2⟩ := (show ∃ v ws, vs = v :: ws ∧ DV X.K H _ v ∧ DVs X.K H _ ws from h)
    cases r with
    | cons r1 r2 =>
      obtain ⟨as, ha, hn⟩ := PyQ.reads I so hm h1 v _ q1 r1
      obtain ⟨bs, hb, hn2⟩ := PyQs.reads I so hm h2 ws _ q2 r2
      exact ⟨_, .cons ha hb, fun z => (List.mem_append.mp z).elim hn hn2⟩
theorem PyKv.reads (I : Inv X pins σ H s) (so : SOk X.K H S) (hm : HasM X.base) : ∀ {ds : List (Key × D)} {ps : List (PyData × PyData)}, PyKv S ds ps → ∀ (vs : List (Key × V)) (us : List (Key × Value)) (es : List DictEntry), DKs X.K H ds vs → KV vs us → Pairs (mixKind X.prog X.w) es us →
    ∃ bs, ReadsAll s.heap (es.map (·.key)) (ps.map (·.1)) [] ∧ ReadsAll s.heap (es.map (·.val)) (ps.map (·.2)) bs ∧ sysModules ∉ bs
  | _, _, .nil, vs, us, es, h, r, q => by
    cases h
    cases r
    cases q
    exact ⟨_, .nil, .nil, fun z => by cases z⟩
  | _, _, .cons h1 h2, vs, us, es, h, r, q => by
    cases h with
    | cons d1 d2 =>
      cases r with
      | cons r1 r2 =>
        cases q with
        | cons q1 q2 q3 =>
          obtain ⟨k1, k2⟩ := r1
          obtain ⟨as, ha, hn⟩ := PyQ.reads I so hm h1 _ _ d1 k2
          obtain ⟨bs, hb1, hb2, hn2⟩ := PyKv.reads I so hm h2 _ _ _ d2 r2 q3
          refine ⟨as ++ bs, ?_, ?_, fun z => (List.mem_append.mp z).elim hn hn2⟩
          · rw [List.map_cons, List.map_cons]
            rw [← k1] at q1
            rcases keyIs_shape q1 with ⟨i, t, e1, e2⟩ | ⟨x, t, e1, e2⟩
            · dsimp only at e1
              rw [e2, e1]
              exact ReadsAll.cons (as := []) (.int i t) hb1
            · dsimp only at e1
              rw [e2, e1]
              exact ReadsAll.cons (as := []) (.str x t) hb1
          · rw [List.map_cons, List.map_cons, q2]
            exact .cons ha hb2
end
end
section
variable {X : Cx}
def GoodM (p : PyData) : Prop := p.showable = true ∧ p.depth ≤ 30 ∧ p.shown.length ≤ sizeLine
def dShowM : RCall := fun ds S Q => match ds with
  | [d] => ∃ p, PyQ S d p ∧ GoodM p ∧ Q (.str p.shown) S
  | _ => False
theorem cd_showM (hz : X.A.guards = some []) (hm : HasM X.base) (hu : X.A.units + 64 < cLine) : CallR X (.builtin "repr") (lcl X.K dShowM) := by
  intro pins s σ H vs us Q I rv h
  obtain ⟨ds, S, R, dv, so, h, k⟩ := h
  unfold dShowM at h
  split at h
  · rename_i d
    obtain ⟨v, rfl, r⟩ := dvs1 dv
    obtain ⟨p, hp, ⟨g1, g3, g4⟩, h⟩ := h
    obtain ⟨u, rfl, ru⟩ := vals1 rv
    have fin : ∀ (tk : Tok) (H' : Hp) (s' : Shared), Inv X pins σ H s' → EP X pins σ Q (.str p.shown tk) s' := fun tk H' s' J => ⟨.str p.shown, H, J, ⟨tk, rfl⟩, k (.str p.shown) S _ H (Go.refl so) rfl h⟩
    obtain ⟨as, rd, hn⟩ := PyQ.reads I so hm hp v u r ru
    cases rd with
    | none => exact PySem.P.repr_of_none (fin _ H _ (I.tok _))
    | bool b => exact PySem.P.repr_of_bool (fin _ H _ (I.tok _))
    | int i t => exact PySem.P.repr_of_int (by simpa [PyData.showable] using g1) (fin _ H _ (I.tok _))
    | str x t => exact PySem.P.repr_of_str (fin _ H _ (I.tok _)) g4
    | list a1 a2 a3 a4 => exact repr_of_reads' (.list a1 a2 a3 a4) g1 (fun _ => hn) hz (by omega) (fun _ _ e => e) (fun h' u tk hk => fin u H _ (I.kept (h' := h') (t' := tk) hk)) g4
    | tuple a1 a2 a3 a4 => exact repr_of_reads' (.tuple a1 a2 a3 a4) g1 (fun _ => hn) hz (by omega) (fun _ _ e => e) (fun h' u tk hk => fin u H _ (I.kept (h' := h') (t' := tk) hk)) g4
    | dict a1 a2 a3 a4 a5 => exact repr_of_reads' (.dict a1 a2 a3 a4 a5) g1 (fun _ => hn) hz (by omega) (fun _ _ e => e) (fun h' u tk hk => fin u H _ (I.kept (h' := h') (t' := tk) hk)) g4
  · exact h.elim
end
/-! ### the law's own call -/
theorem top_callM {P : Program} {w : World} {K : PySem.W.Frag} {mg mb : Str → Option Value} {CX : CXT} {k : Nat} {fn a : Addr} {fd : FuncData} {x : Str} {sp : Sp} {t : Shared} {vs : List Value} {ns : List Int}
    (inK : K.In t.heap) (g1 : t.heap.Ns mainGlobals mg) (g2 : t.heap.Ns builtinsNs mb) (g3 : ∀ x : Str, x ≠ "__name__" → mb x = bootBuiltins x) (g4 : t.heap.NoLimit) (g5 : t.gens = #[])
    (obj : t.heap.get? a = some { cls := .type "list", data := .seq vs.toArray }) (areInts : IntsAre vs ns) (hshort : ns.length ≤ sizeLine) (room : Room k callerA)
    (hmod : ∃ mm, t.heap.Ns sysModules mm) (F : ∀ base : Heap, K.In base → base.Ns mainGlobals mg → HasM base → FnOkG P w K mg base CX k fn fd [x] sp) (bind : ∀ (s : Shared) (u : Value), BindsTo s fd ⟨[u], []⟩ [(x, u)])
    (promise : ∀ H : Hp, Only H → SqL K H a (ns.map V.int) → sp [.ref a] H (fun v _ => v = .bl true) fun _ _ _ => False)
    (noX : ∀ H e s', CX [] H t (fun _ _ _ => False) e s' → False) :
    codeAny (model P w) callerA (.call (.ref fn) ⟨[.ref a], []⟩) (fun r s' => r = .ok (.ret (.bool true)) ∧ OldK t.heap s'.heap ∧ s'.os = t.os ∧ AllBare s'.gens) t := by
  have vals := vals_ints areInts
  have vl := areInts.length
  suffices key : ∀ H : Hp, Only H → SqL K H a (ns.map V.int) → HOk P w H t.heap → (∀ b, H b ≠ none → b = a) → (H a ≠ none → K.lookup a = none) →
      codeAny (model P w) callerA (.call (.ref fn) ⟨[.ref a], []⟩) (fun r s' => r = .ok (.ret (.bool true)) ∧ OldK t.heap s'.heap ∧ s'.os = t.os ∧ AllBare s'.gens) t by
    cases look : K.lookup a with
    | some o =>
      have same := (inK a o look).symm.trans obj
      cases same
      exact key (fun _ => none) (fun _ => .inl rfl) (.inr ⟨_, vs.toArray, _, look, rfl, rfl, rfl, by rw [List.size_toArray, vl]; exact hshort, by simpa using vals⟩) (fun b u z => nomatch (show (none : Option HO) = some u from z)) (fun b z => absurd rfl z) (fun z => absurd rfl z)
    | none =>
      have at_a : ∀ b, b ≠ a → (if b = a then some (HO.frz { cls := .type "list", data := .seq vs.toArray } (.lst (ns.map V.int))) else none) = none := fun b z => if_neg z
      refine key (fun b => if b = a then some (.frz { cls := .type "list", data := .seq vs.toArray } (.lst (ns.map V.int))) else none) (fun b => ?_) (.inl (.inr ⟨_, if_pos rfl⟩)) (fun b u z => ?_) (fun b z => ?_) (fun _ => look)
      · rcases Classical.em (b = a) with y | y
        · exact .inr ⟨_, _, if_pos y⟩
        · exact .inl (at_a b y)
      · rcases Classical.em (b = a) with y | y
        · subst y
          cases (if_pos rfl).symm.trans z
          exact ⟨obj, by rw [List.length_map]; exact hshort, vs, _, vals, obj⟩
        · cases (at_a b y).symm.trans z
      · exact Classical.byContradiction fun y => z (at_a b y)
  intro H only sq hok onlyA freeA
  have under : ∀ {b : Addr} {o : Obj}, t.heap.get? b = some o → H b = none → (hidT t.heap H).get? b = some o := fun e n => hidT_get e n
  have noDict : ∀ {b : Addr} {o : Obj} {es : Array DictEntry} {ep : Nat}, t.heap.get? b = some o → o.data = .dict es ep → H b = none := by
    intro b o es ep e d
    refine Classical.byContradiction fun z => ?_
    have := onlyA b z
    subst this
    cases obj.symm.trans e
    cases d
  have nsU : ∀ {b : Addr} {m : Str → Option Value}, t.heap.Ns b m → (hidT t.heap H).Ns b m := by
    rintro b m ⟨o, es, ep, e, d, r⟩
    exact ⟨o, es, ep, under e (noDict e d), d, r⟩
  have inU : K.In (hidT t.heap H) := fun b o e => under (inK b o e) (Classical.byContradiction fun z => by
    have := onlyA b z
    subst this
    rw [freeA z] at e
    cases e)
  obtain ⟨mc, l1, l2⟩ := g4
  have md : Mod K mg (hidT t.heap H) := ⟨inU, nsU g1, ⟨mb, nsU g2, g3⟩, ⟨mc, nsU l1, l2⟩⟩
  have hasM : HasM (hidT t.heap H) := by
    obtain ⟨mm, hmm⟩ := hmod
    obtain ⟨o, es, ep, e, _⟩ := nsU hmm
    exact ⟨o, e⟩
  have env : Env0 P w K mg (hidT t.heap H) callerA [] t H := ⟨rfl, md, fun b o e => of_hidT e, Nat.le_of_eq (hidT_size _ _), trivial, (fun b hb => absurd (List.mem_nil_iff b |>.mp hb) id), hok, .of_eq g5⟩
  refine codeAny_mono ((F _ inU (nsU g1) hasM).go callerA [] t H ⟨[.ref a], []⟩ [.ref a] [.ref a] _ _ rfl room env (bind t (.ref a)) (.cons rfl .nil) (promise H only sq)) fun r s' out => ?_
  cases r with
  | error e => exact (noX H e s' out).elim
  | ok fl =>
    cases fl with
    | ret u =>
      obtain ⟨v, H2, os, bare, un, hok2, rel, q⟩ := out
      cases (show v = .bl true from q)
      cases (show u = Value.bool true from rel)
      refine ⟨rfl, OldK.of_keep fun b o e => ?_, os, bare⟩
      cases hb : H b with
      | none => exact un.keep b o e hb (fun z => by cases z) (by simp)
      | some c =>
        rcases only b with z | ⟨ob, xs, z⟩
        · rw [hb] at z; cases z
        · have e1 := (hok b _ z).1
          have e2 := (hok2 b _ (un.frzs b ob _ z)).1
          cases e1.symm.trans e
          exact e2
    | next => exact False.elim out
    | brk => exact False.elim out
    | cont => exact False.elim out
theorem walk_ofM {l : PySem.W.OpenLaw} {n k : Nat} {q : Program} {loose : List Str} {XP : (Str → Option Value) → Heap → Prop} {YP : World → Heap → Prop} {d : DefRec} {K : Params → PySem.W.Frag} {CX : World → CXT} {sp : World → Sp} {x : Str}
    (himp : importsNone q = true) (hn : l.most = some n) (hn2 : n ≤ sizeLine) (hdf : d.params.defaults = []) (room : Room k callerA) (hY : ∀ (w : World) (h : Heap), YP w h → (K w.params).In h)
    (F : ∀ (w : World) (mg : Str → Option Value) (fn : Addr) (h : Heap), (K w.params).In h → h.Ns mainGlobals mg → mg d.name = some (.ref fn) →
      ∃ fd : FuncData, (∀ (s : Shared) (u : Value), BindsTo s fd ⟨[u], []⟩ [(x, u)]) ∧ ∀ base : Heap, (K w.params).In base → base.Ns mainGlobals mg → HasM base → FnOkG l.prog w (K w.params) mg base (CX w) k fn fd [x] (sp w))
    (promise : ∀ (w : World) (H : Hp) (a : Addr) (ns : List Int), ns.length ≤ n → Only H → SqL (K w.params) H a (ns.map V.int) → sp w [.ref a] H (fun v _ => v = .bl true) fun _ _ _ => False)
    (noX : ∀ (w : World) (H : Hp) (s : Shared) (e : Value) (s' : Shared), CX w [] H s (fun _ _ _ => False) e s' → False) :
    PySem.W.WalkO q loose XP YP l.row.toRowW d [] (fun f vs => PySem.call f vs) :=
  Att.attach_call hn hdf fun w _ t mg mb fn _ _ _ _ a vs ns G Y _ _ _ named obj areInts hshort gens => by
    have inK := hY w _ Y
    obtain ⟨fd, b, FF⟩ := F w mg fn _ inK G.T.g named
    exact top_callM inK G.T.g G.T.b G.T.builtins G.T.nolimit gens obj areInts (Nat.le_trans hshort hn2) room (let ⟨mm, z, _⟩ := (G.T.seer himp).mods; ⟨mm, z⟩) FF b (fun H only sq => promise w H a ns hshort only sq) fun H e s' => noX w H t e s'
end DL
set_option Elab.async false
set_option linter.all false
set_option maxRecDepth 100000
set_option maxHeartbeats 4000000
/-! DN: calls of defs that are entered with nothing under way, try with several clauses "except .. as e", d.get(k, x). -/
namespace DL
open PySem PySem.Spec PyProof.Rows L2
section
variable {X : Cx} {y : DXw} {pos p : Pos} {e : Expr} {es : List Expr} {x : Str} {k : Nat} {f : Addr} {fd : FuncData} {ps : List Str} {spec : DSp}
theorem FnOkG.mono {P : Program} {w : World} {K : PySem.W.Frag} {mg : Str → Option Value} {base : Heap} {CX : CXT} {j k : Nat} {f : Addr} {fd : FuncData} {ps : List Str} {sp : Sp} (F : FnOkG P w K mg base CX j f fd ps sp) (h : j ≤ k) :
    FnOkG P w K mg base CX k f fd ps sp := ⟨F.size, fun A outs t H given us vs Q E hz hr => F.go A outs t H given us vs Q E hz (hr.mono h)⟩
theorem pd_callG {ta : RA} (hz : X.A.guards = some []) (tk : Takes X y.W) (G : FnOkG X.prog X.w X.K X.mg X.base (L2.CX X.prog X.w) k f fd ps (toSp X.K spec)) (hr : Room k X.A) (hm : X.mg x = some (.ref f)) (hk : PySem.W.keepIn X.K (.ref f) = true) (hb : Binds X.K fd ps [])
    (ha : PDA X y (e :: es) ta) (hg : Gl X x := by rfl) (hdb : (x == ("__debug__" : Str)) = false := by decide) (he : starEach (e :: es) X.env = (false, eval e X.env) :: starEach es X.env := by rfl) (hpl : (backTo pos (starEach es X.env)).any (·.1) = false := by rfl) :
    PD X y (.Call (.Name x p) (e :: es) [] pos) (rCall y spec ta) := by
  have pe : PE X (.Call (.Name x p) (e :: es) [] pos) (tCallS (toSp X.K spec) (WE y.W) (lA X.K y (e :: es).length ta)) := by
    refine ⟨fun pins s σ H Q I h => ?_⟩
    refine wpAny_Call_Name_kw (ld_glob I hg hm ?_ hdb)
    refine PySem.W.callWith_K (h₀ := X.base) I.ok.mod.kin hk (thn (ha.run pos pins s σ H _ I h) fun us s1 ⟨vs, H1, I1, r, q⟩ => ⟨I1.kIn, ?_⟩) he hpl
    have hl : us.length = ps.length := by rw [← r.length]; exact G.size _ _ _ _ q
    have b := hb s1 us I1.kIn (by rw [List.append_nil]; exact hl)
    rw [List.append_nil] at b
    refine wpAny_call (codeAny_mono (G.go X.A X.stack s1 H1 ⟨us, []⟩ us vs Q _ hz hr I1.env0 b r q) fun r s' hq => ?_)
    cases r with
    | error e => exact passAt tk σ pins H1 s1 e s' I1 hq
    | ok fl =>
      cases fl with
      | ret u => exact I1.after hq
      | next => exact False.elim hq
      | brk => exact False.elim hq
      | cont => exact False.elim hq
  exact PD.of pe fun σ H Q h => by
    obtain ⟨ρ, S, R, sr, so, h, k⟩ := h
    exact ⟨ρ, S, _, sr, so, h, fun ds S1 vs H1 g1 dvs hn h1 => ⟨ds, S1, R, _, dvs, g1.ok, h1, fun d S2 v H2 g2 dv q => k d S2 v H2 (g1.trans g2) dv q, fun C d S2 dx w H2 g2 e dw q => (so.go g1).xo C d ρ S2 dx w σ H2 g2 (sr.go (g1.trans g2)) e dw q⟩⟩
/-! ### d.get(k, x) -/
def rDGet2 (td ti tx : RE) : RE := fun ρ S Q => td ρ S fun o S1 => (∃ a kvs, o = .ref a ∧ S1 a = some (.dK kvs)) ∧ ti ρ S1 fun k S2 => tx ρ S2 fun z S3 => isD S3 o k fun _ kvs key => Q ((dval kvs key).getD z) S3
theorem pd_dget2 {o e f : Expr} {apos cpos : Pos} {td ti tx : RE} (hu : X.A.units + 1 < cLine) (ho : PD X y o td) (he : PD X y e ti) (hf : PD X y f tx) (m : M2 X o "get" apos e f cpos) : PD X y (.Call (.Attribute o "get" apos) [e, f] [] cpos) (rDGet2 td ti tx) :=
  PD.of (pe_dget2 hu ho he hf m) fun σ H Q h => by
    obtain ⟨ρ, S, R, sr, so, h, k⟩ := h
    refine ⟨ρ, S, _, sr, so, h, fun d S1 v H1 g1 dv h1 => ?_⟩
    obtain ⟨⟨a, kvs, rfl, e1⟩, h1⟩ := h1
    cases (show v = V.ref a from dv)
    obtain ⟨vs, e2, r2⟩ := g1.ok a _ e1
    refine ⟨a, rfl, .inl ⟨vs, .inl e2⟩, ρ, S1, _, sr.go g1, so.go g1, h1, fun z S2 w H2 g2 dw h2 => ⟨ρ, S2, _, (sr.go g1).go g2, (so.go g1).go g2, h2, fun z2 S3 w2 H3 g3 dw2 h3 => ?_⟩⟩
    obtain ⟨b, kvs3, vs3, key, ea, _, e3, r3, rfl, h4⟩ := isD_of g3.ok (o := .ref a) (v := .ref a) rfl (DV.go g3 _ _ dw) h3
    cases ea
    refine ⟨_, DGet.k e3, ?_⟩
    have gA := (g1.trans g2).trans g3
    obtain ⟨rv1, rv2⟩ := r3.val key
    cases hd : dval kvs3 key with
    | none =>
      rw [hd] at h4 rv1
      have : valV vs3 key = none := by
        cases q : valV vs3 key with
        | none => rfl
        | some _ => rw [q] at rv1; cases rv1
      rw [this]
      exact k z2 S3 w2 H3 gA dw2 h4
    | some d =>
      rw [hd] at h4
      obtain ⟨u, hu, ru⟩ := rv2 d hd
      rw [hu]
      exact k d S3 u H3 gA ru h4
end
def dSetD : RSet := fun o i v S R => isD S o i fun a kvs key => kvs.length < sizeLine ∧ R (DL.sup S a (.dK (dput kvs key v)))
theorem sd_dict {X : Cx} (hu : X.A.units + 1 < cLine) : PSet X (lset X.K dSetD) := by
  intro pins s σ H o i v ov iv u Q I ro ri rv h
  obtain ⟨x, k, d, S, R, dx, dk, dv, so, h, c⟩ := h
  refine set_dict hu pins s σ H o i v ov iv u Q I ro ri rv ?_
  obtain ⟨a, kvs, vs, key, rfl, e0, e1, r, rfl, hl, h⟩ := isD_of so dx dk h
  exact ⟨a, _, rfl, DPut.k e1 (by rw [← r.length]; exact hl), c _ _ (Go.setDK so e0 (r.put key dv)) h⟩
/-! ### try with several clauses -/
def wAsM (K : PySem.W.Frag) (i : Nat) (Wout : WX) (D : Ends) : List (Value × TS) → WX
  | [] => Wout
  | (c, ts) :: r => fun cls d σ H => ∃ b, PySem.W.exmOne K cls c = some b ∧ (b = true → ∃ C dx, cls = .ref C ∧ d = some dx ∧ ∀ a, H a = none → ts { nx := fun σ' H' => D.nx (σ'.set i none) H', rt := D.rt, bk := fun σ' H' => D.bk (σ'.set i none) H', ct := fun σ' H' => D.ct (σ'.set i none) H' } (σ.set i (some (.ref a))) (upd H a (XO a C dx))) ∧
    (b = false → wAsM K i Wout D r cls d σ H)
inductive HdsT (X : Cx) (n : Str) : List ExceptHandler → List (Value × TS) → Prop
  | nil : HdsT X n [] []
  | cons {x : Str} {c : Value} {ts : TS} {b₀ : Stmt} {suite : List Stmt} {np pos' : Pos} {hds : List ExceptHandler} {l : List (Value × TS)} (hc : Names X x c)
      (hsu : ∀ (a : Addr) (pn : List (Addr × Obj)), PSs (X.suite a pn) (b₀ :: suite) ts) (r : HdsT X n hds l) :
      HdsT X n (.ExceptHandler (some (.Name x np)) (some n) (b₀ :: suite) pos' :: hds) ((c, ts) :: l)
section
variable {X : Cx} {pins : List (Addr × Obj)} {σ : L2.St} {H : Hp} {s : Shared}
variable {n : Str} {i : Nat} {body : List Stmt} {h₀ : ExceptHandler} {hds : List ExceptHandler} {l : List (Value × TS)} {pos : Pos} {tb : WX → TS} {Wout : WX}
theorem ps_try_asM (hs : X.stack = X.env :: X.outer) (hf : X.env.frame = some X.env.locals) (hex : X.ex = []) (hN : X.N.Nodup) (hi : X.N[i]? = some n) (hln : X.env.kindOf n = some .local) (tk : Takes X Wout)
    (hb : ∀ (W : WX) (pn : List (Addr × Obj)) (xe : Value → Shared → Prop), Takes (X.tr pn xe) W → PassesOwn (model X.prog X.w) X.A X.env xe → PSs (X.tr pn xe) body (tb W))
    (hh : HdsT X n (h₀ :: hds) l) :
    PS X (.Try body (h₀ :: hds) [] [] pos) (fun D σ H => tb (wAsM X.K i Wout D l) D σ H) := by
  refine ⟨fun pins s σ H D I h => ?_⟩
  have ok := I.ok
  have hfr : X.A.frames = some (X.env :: X.outer) := by rw [ok.frames, hs]
  have hloc : Loc X.env.scope n := .inl hln
  refine wpAny_Try_except ?_
  refine wpAny_mono ((hb (wAsM X.K i Wout D l) (X.pn ++ pins) (fun e s₁ => wpAny (model X.prog X.w) X.A (noteFrame e X.env) (fun _ s₂ => wpAny (model X.prog X.w) X.A (setFlight e none) (fun _ s₃ =>
    wpAny (model X.prog X.w) X.A (handleBy e X.env (h₀ :: hds)) (SP X pins D) X.xe s₃) X.xe s₂) X.xe s₁) (fun u s' xx => ?_) PassesOwn.looking).run [] s σ H D (I.toTry _) h) (fun f s1 hsp => ?_) (fun e s1 he => he)
  · -- the catch
    obtain ⟨a, B, sI, pins', σ', H', cls, d, rfl, J', nb, up, sky, na, os, ag, w⟩ := xx
    have J : Inv X pins σ' H' sI := J'.ofTry ok
    have sky' : Sky B (X.env :: X.outer) a (Zc cls d) X.env.locals s'.heap := by rw [← hs]; exact sky
    show wpAny (model X.prog X.w) X.A (noteFrame (.ref a) X.env) _ _ _
    refine Sky.land Zc.steady hfr hf sky' fun h3 fl3 up3 => ?_
    have J3 : Inv X pins σ' H' { s' with heap := h3 } := J.landed nb fl3.1 (up.trans up3) os ag
    obtain ⟨oe3, vs3, he3, hz3, hd3⟩ := fl3.there
    have notFr : ∀ {h : Heap} {o : Obj} {vs : Array Value}, h.FunFrames B (X.env :: X.outer) → h.get? a = some o → o.data = .fields vs → a ∉ frs (X.env :: X.outer) := fun {h o vs} ff e dd hm => by
      obtain ⟨_, o', e', hnf⟩ := ff.mem hm
      rw [e] at e'; cases e'
      exact hnf _ dd
    have nfr := notFr fl3.2.2.1 he3 hd3
    have nL : a ≠ X.env.locals := fun z => nfr (List.mem_filterMap.mpr ⟨X.env, List.mem_cons_self, by rw [hf, z]⟩)
    have nF : a ∉ X.fs := fun hm => by
      obtain ⟨e, he, q⟩ := List.mem_filterMap.mp hm
      exact nfr (List.mem_filterMap.mpr ⟨e, List.mem_cons_of_mem _ he, q⟩)
    have nI : sI.heap.get? a = none := by
      cases e : sI.heap.get? a with
      | none => rfl
      | some o =>
        have q := nb a o e (by rw [hs]; exact nfr)
        rw [fl3.2.1] at q
        cases q
    have n0 : X.s_0.heap.get? a = none := by
      cases e : X.s_0.heap.get? a with
      | none => rfl
      | some o =>
        obtain ⟨o', q⟩ := J.base.there a o e (by rw [hex]; exact fun z => nomatch z)
        rw [nI] at q
        cases q
    have nP : ∀ p ∈ X.pn ++ pins, p.1 ≠ a := fun p hp z => by
      have q := (J.pin p hp).1
      rw [z, nI] at q
      cases q
    have S3 := J3.suite he3 hd3 na nL nF
    have go : ∀ {hds' : List ExceptHandler} {l' : List (Value × TS)}, HdsT X n hds' l' → wAsM X.K i Wout D l' cls d σ' H' →
        wpAny (model X.prog X.w) X.A (handleBy (.ref a) X.env hds') (SP X pins D) X.xe { s' with heap := h3 } := by
      intro hds' l' hk
      induction hk with
      | nil =>
        intro w
        refine wpAny_handleBy_nil ?_
        obtain ⟨k1, k2, k3, oe, vs, T, oT, ts', he, hz, hd, h1, hr⟩ := id fl3
        unfold PySem.passOn
        refine wpAny_bind (wpAny_field he hd h1 ?_)
        rw [if_neg (show ¬ ((Value.ref T == Value.none) = true) from by simp)]
        have fin : wpAny (model X.prog X.w) X.A (setFlight (.ref a) X.env.frame) (fun _ s4 => wpAny (model X.prog X.w) X.A (throw (.ref a) : Sem Flow) (SP X pins D) X.xe s4) X.xe { s' with heap := h3 } := by
          rw [hf]
          refine HandSPX.setFlight_upZ fl3 fun h4 hh4 up4 => wpAny_throw (tk _ _ ?_)
          exact ⟨a, B, sI, pins, σ', H', cls, d, rfl, J, nb, (up.trans up3).trans up4, .inr (.inr (by rw [hs]; exact hh4)), na, os, ag, w⟩
        first
          | exact wpAny_bind (wpAny_pure (wpAny_bind fin))
          | exact wpAny_bind fin
      | @cons x c ts b₀ suite np pos' hds2 l2 hc hsu r ih =>
        intro w
        obtain ⟨b, hb1, hyes, hno⟩ := w
        refine wpAny_handleBy_cons (codeAny_handlers_test ?_) (by intro q; cases q)
        have LT : PySem.W.Looks (model X.prog X.w) h3 (typeOf (.ref a)) cls := fun A Q E s k q => wpAny_typeOf_ref (k _ _ he3) (by rw [hz3.1]; exact q)
        have LM := PySem.W.exm_one (M := model X.prog X.w) (J3.kIn) LT hb1
        have test : ∀ {Q : Value → Shared → Prop} {E : Value → Shared → Prop}, Q c { s' with heap := h3 } → wpAny (model X.prog X.w) (X.A.mark (some (.ref a))) (eval (.Name x np) X.env) Q E { s' with heap := h3 } := fun {Q E} q => by
          obtain ⟨hg, hdbg, hm | ⟨hm, hv, hnn⟩⟩ := hc
          · exact ld_glob (X := X.suite a ((a, oe3) :: (X.pn ++ pins))) S3 hg hm q hdbg
          · exact ld_blt (X := X.suite a ((a, oe3) :: (X.pn ++ pins))) S3 hg hm hv q hnn hdbg
        refine test (LM.here ?_)
        cases b with
        | true =>
          refine codeAny_handlers_suite_as ?_
          refine HandSPX.lands_againZ fl3 fun h4 fl4 up4 => ?_
          have J4 : Inv X pins σ' H' { s' with heap := h4 } := J.landed nb fl4.1 ((up.trans up3).trans up4) os ag
          obtain ⟨oe4, vs4, he4, hz4, hd4⟩ := fl4.there
          obtain ⟨C, dx, rfl, rfl, hts⟩ := hyes rfl
          have S4 := inv_suiteT (inv_track J4 n0 na he4 hz4 hd4 nL nP) a
          refine store_ok (X := X.suite a (X.pn ++ pins)) (v := .ref a) S4 hN hi hloc rfl (fun s5 S5 => ?_) (.inr hln)
          refine wpAny_mono ((hsu a (X.pn ++ pins)).run [] s5 _ _ _ S5 (hts a na)) (fun f s6 hsp => ?_) (fun _ _ z => False.elim z)
          have end_ : ∀ {σ6 : L2.St} {H6 : Hp} {Q : Shared → Prop}, Inv (X.suite a (X.pn ++ pins)) [] σ6 H6 s6 → (∀ s7, Inv X pins (σ6.set i none) H6 s7 → Q s7) →
              wpAny (model X.prog X.w) X.A (do bindName X.env n .none; unbindBehindTheSuite X.env n pos') (fun _ s7 => Q s7) X.xe s6 := fun {σ6 H6 Q} S6 hq => gone_ok (inv_unsuiteT S6 ok) hN hi hln hq
          cases f with
          | next =>
            obtain ⟨σ6, H6, S6, q6⟩ := hsp
            exact end_ S6 fun s7 J7 => ⟨_, _, J7, q6⟩
          | brk =>
            obtain ⟨σ6, H6, S6, q6⟩ := hsp
            exact end_ S6 fun s7 J7 => ⟨_, _, J7, q6⟩
          | cont =>
            obtain ⟨σ6, H6, S6, q6⟩ := hsp
            exact end_ S6 fun s7 J7 => ⟨_, _, J7, q6⟩
          | ret u =>
            obtain ⟨v6, σ6, H6, S6, r6, q6⟩ := hsp
            exact end_ S6 fun s7 J7 => ⟨_, _, _, J7, r6, q6⟩
        | false => exact ih (hno rfl)
    exact go hh w
  · cases f with
    | next =>
      obtain ⟨σ', H', J', q⟩ := hsp
      exact wpAny_execs_nil ⟨σ', H', J'.ofTry ok, q⟩
    | brk =>
      obtain ⟨σ', H', J', q⟩ := hsp
      exact ⟨σ', H', J'.ofTry ok, q⟩
    | cont =>
      obtain ⟨σ', H', J', q⟩ := hsp
      exact ⟨σ', H', J'.ofTry ok, q⟩
    | ret u =>
      obtain ⟨v, σ', H', J', r, q⟩ := hsp
      exact ⟨v, σ', H', J'.ofTry ok, r, q⟩
end
def dAsM (K : PySem.W.Frag) (i : Nat) (yo : DWX) (E : DEnds) : List (Value × RS) → DWX
  | [] => yo
  | (c, ts) :: r => fun C d ρ S => ∃ b, PySem.W.exmOne K (.ref C) c = some b ∧ IFB b (ts (goneE i E) (ρ.set i (some (.exc C d))) S) (dAsM K i yo E r C d ρ S)
def rTryM (K : PySem.W.Frag) (i : Nat) (yo : DWX) (l : List (Value × RS)) (tb : WX → DWX → RS) : RS := fun E ρ S => ∀ W, tb W (dAsM K i yo E l) E ρ S
inductive HdsD (X : Cx) (n : Str) : List ExceptHandler → List (Value × RS) → Prop
  | nil : HdsD X n [] []
  | cons {x : Str} {c : Value} {ts : RS} {b₀ : Stmt} {suite : List Stmt} {np pos' : Pos} {hds : List ExceptHandler} {l : List (Value × RS)} (hc : Names X x c)
      (hsu : ∀ (a : Addr) (pn : List (Addr × Obj)), PDSs (X.suite a pn) y0 (b₀ :: suite) ts) (r : HdsD X n hds l) :
      HdsD X n (.ExceptHandler (some (.Name x np)) (some n) (b₀ :: suite) pos' :: hds) ((c, ts) :: l)
theorem HdsD.toT {X : Cx} {n : Str} {hds : List ExceptHandler} {l : List (Value × RS)} (h : HdsD X n hds l) : HdsT X n hds (l.map fun p => (p.1, lS X.K y0 p.2)) := by
  induction h with
  | nil => exact .nil
  | cons hc hsu r ih => exact .cons hc hsu ih
section
variable {X : Cx} {y : DXw} {n : Str} {i : Nat} {body : List Stmt} {h₀ : ExceptHandler} {hds : List ExceptHandler} {l : List (Value × RS)} {pos : Pos} {tb : WX → DWX → RS}
theorem pd_tryM (i : Nat) (hs : X.stack = X.env :: X.outer) (hf : X.env.frame = some X.env.locals) (hex : X.ex = []) (hN : X.N.Nodup) (hi : X.N[i]? = some n) (hln : X.env.kindOf n = some .local) (tk : Takes X y.W)
    (hb : ∀ (W : WX) (d : DWX) (pn : List (Addr × Obj)) (xe : Value → Shared → Prop), Takes (X.tr pn xe) W → PDSs (X.tr pn xe) ⟨W, d⟩ body (tb W d))
    (hh : HdsD X n (h₀ :: hds) l) :
    PDS X y (.Try body (h₀ :: hds) [] [] pos) (rTryM X.K i y.d l tb) := by
  refine PDS.of (ps_try_asM (tb := fun W D σ H => ∃ d, lS X.K ⟨W, d⟩ (tb W d) D σ H) hs hf hex hN hi hln tk (fun W pn xe tk' _ => ⟨fun pins s σ H D I ⟨d, q⟩ => (hb W d pn xe tk').run pins s σ H D I q⟩) hh.toT) fun D σ H h => ?_
  obtain ⟨ρ, S, E, sr, so, h, eo⟩ := h
  refine ⟨dAsM X.K i y.d E l, ρ, S, E, sr, ⟨so.so, fun C d ρ' S' dx w σ' H' g sr' e dv hd => ?_⟩, h _, eo⟩
  clear h hh
  induction l with
  | nil => exact so.xo C d ρ' S' dx w σ' H' g sr' e dv hd
  | cons q l ih =>
    obtain ⟨c, ts⟩ := q
    obtain ⟨b, hb1, hi1⟩ := hd
    obtain ⟨h1, h2⟩ := hi1.of
    refine ⟨b, hb1, fun z => ⟨C, dx, rfl, rfl, fun a ha => ?_⟩, fun z => ih (h2 z)⟩
    have gN := Go.new (K := X.K) (o := XO a C dx) g.ok ha
    refine ⟨ρ'.set i (some (.exc C d)), S', goneE i E, (sr'.go gN).set (dv_exc upd_same (by rw [upd_ne (ne_of_none e ha)]; exact e) (DV.go gN _ _ dv)) i, sx0 gN.ok, h1 z, ?_⟩
    have gA := g.trans gN
    exact ⟨fun ρ2 S2 σ2 H2 g2 sr2 q => eo.nx _ _ _ _ (gA.trans g2) (sr2.gone i) q, fun d2 S2 v2 H2 g2 dv2 q => eo.rt _ _ _ _ (gA.trans g2) dv2 q, fun ρ2 S2 σ2 H2 g2 sr2 q => eo.bk _ _ _ _ (gA.trans g2) (sr2.gone i) q, fun ρ2 S2 σ2 H2 g2 sr2 q => eo.ct _ _ _ _ (gA.trans g2) (sr2.gone i) q⟩
end
end DL
set_option Elab.async false
set_option linter.all false
set_option maxRecDepth 100000
set_option maxHeartbeats 4000000
/-! DN2: tuple * int, also none at all. -/
namespace DL
open PySem PySem.Spec PyProof.Rows L2 RZ
theorem tuple_mul0 (l : Addr) (items : Array Value) (n : Nat) (dd : Option Addr) (sl : Array (Option Value)) (u : Tok) (c1 : (items.isEmpty || (0 : Int) == 1) = false) :
    Meets (Builtin.«tuple.__mul__» ⟨[.ref l, .int 0 u], []⟩) (fun _ R s => s.heap.get? l = some { cls := .type "tuple", dict := dd, data := .seq items n, slots := sl } ∧
      R (.ok (.ret (Value.ref s.heap.objs.size))) { s with heap := s.heap.push { cls := Value.type "tuple", data := Data.seq #[] }, toks := s.toks }) :=
  .of_wp fun prog w A R s h => by
    obtain ⟨hp, g, d, tk, os⟩ := s
    obtain ⟨hl, h⟩ := h
    have f1 := AutoSeq1.idx_int
    wp_walk using wpAny_loadPart' hl
    repeat (first
      | (refine wpAny_ite_false (decide_eq_false (by rw [c1]; exact Bool.false_ne_true)) ?_; wp_walk using wpAny_loadPart' hl)
      | (refine wpAny_ite_true (decide_eq_true (by simp)) ?_; wp_walk using wpAny_loadPart' hl))
    exact ⟨_, rfl, h⟩
section
variable {X : Cx}
theorem op_repT0 : OpR X (binaryOp .Mult) (fun x y H Q => ∃ l xs, x = .ref l ∧ y = .int 0 ∧ SqT X.K H l xs ∧ xs ≠ [] ∧ ∀ p, H p = none → Q (.ref p) (upd H p (.tup []))) := by
  intro pins s σ H x y v u Q I rx ry h
  obtain ⟨l, xs, rfl, rfl, hT, hne, q⟩ := h
  cases rx
  obtain ⟨t, rfl⟩ := ry
  obtain ⟨its, r, ⟨⟨cls, dd, data, sl⟩, ho, hc, n, hd⟩, hs⟩ := I.tuple hT
  simp only at hc hd
  subst hc hd
  have hle : its.length = xs.length := r.length.symm
  have hn : its ≠ [] := fun e => hne (by
    rw [e] at hle
    exact List.eq_nil_of_length_eq_zero hle.symm)
  have c1 : (its.toArray.isEmpty || (0 : Int) == 1) = false := by
    cases its with
    | nil => exact absurd rfl hn
    | cons a b => rfl
  refine wpAny_binaryOp_repeat_ref (T := "tuple") (U := "int") (by decide) ⟨_, ho, rfl⟩ (fun s' => typeIs_int s' 0 t) noFill_tuple_mul F.fills_int_mul F.slot_int_rmul repeat_tuple F.slot_int_index.lookup
    (call_meets F.slot_int_rmul (typeIs_int s 0 t) F.entry_int_rmul (F.args_int_rmul_2 _ _) (int_rmul_tuple 0 t l its.toArray n dd sl)
      ⟨ho, rfl, ⟨_, ho, rfl⟩, call_meets F.slot_tuple_mul ⟨_, ho, rfl⟩ F.entry_tuple_mul (F.args_tuple_mul_2 _ _) (tuple_mul0 l its.toArray n dd sl t c1) ⟨ho, ?_⟩⟩)
  refine ⟨.ref s.heap.objs.size, _, I.laid (t' := s.toks) (o := .tup []) (fun b ob q => Heap.get?_push_of_some _ q) (Nat.le_refl _) ?_, rfl, q _ (I.hok.fresh (Nat.le_refl _))⟩
  exact ⟨by show 0 ≤ _; exact Nat.zero_le _, [], .nil, IsTup.new _ _⟩
def dMulT0 : ROp
  | .tup xs, .int k, S, R => xs ≠ [] ∧ 0 ≤ k ∧ k ≤ 1000 ∧ xs.length ≤ 1000 ∧ R (.tup (List.replicate k.toNat xs).flatten) S
  | _, _, _, _ => False
theorem od_mulT0 : OpR X (binaryOp .Mult) (lop X.K dMulT0) := by
  intro pins s σ H v w vv ww Q I rv rw' h
  obtain ⟨x, y, S, R, dx, dy, so, h, k⟩ := h
  cases x <;> cases y <;> first | exact False.elim h | skip
  case tup.int xs j =>
    obtain ⟨hne, h1, h2, hl, h⟩ := h
    by_cases hj : j = 0
    · subst hj
      obtain ⟨a, vs, rfl, q, r⟩ := dx
      cases (show w = V.int 0 from dy)
      refine op_repT0 pins s σ H _ _ vv ww Q I rv rw' ⟨a, vs, rfl, rfl, q.sq, fun z => hne ?_, fun p hp => ?_⟩
      · have := r.length
        rw [z] at this
        exact List.eq_nil_of_length_eq_zero this
      · have g := Go.new (K := X.K) (o := .tup []) so hp
        exact k (.tup _) S _ _ g ⟨p, _, rfl, .inl upd_same, DVs.nil⟩ h
    · exact od_mulT pins s σ H v w vv ww Q I rv rw' ⟨_, _, S, R, dx, dy, so, ⟨hne, by omega, h2, hl, h⟩, k⟩
end
end DL
set_option Elab.async false
set_option linter.all false
set_option maxRecDepth 100000
set_option maxHeartbeats 4000000
/-! DN3: dicts by nested tuples: d.get(k, x), walks over d.items(); displays with one computed int key. -/
namespace DL
open PySem PySem.Spec PyProof.Rows L2
section
variable {X : Cx} {y : DXw} {pins : List (Addr × Obj)} {σ : L2.St} {H : Hp} {s : Shared}
/-! ### d.get(k, x) -/
def tNGet2 (K : PySem.W.Frag) (td ty tx : TE) : TE := fun σ H Q => td σ H fun x H1 => (∃ a xs kvs, x = .ref a ∧ H1 a = some (TN a xs) ∧ DKN K H1 kvs xs) ∧ ty σ H1 fun y H2 => tx σ H2 fun z H3 => KeyAt K H3 x y fun _ _ xs k => Q ((xval xs k).getD z) H3
theorem pe_nget2 {o e f : Expr} {apos cpos : Pos} {td ty tx : TE} (hu : X.A.units + 64 < cLine) (ho : PE X o td) (he : PE X e ty) (hf : PE X f tx) (m : M2 X o "get" apos e f cpos) : PE X (.Call (.Attribute o "get" apos) [e, f] [] cpos) (tNGet2 X.K td ty tx) := by
  refine ⟨fun pins s σ H Q I h => ?_⟩
  refine wpAny_Call_method m.base m.few m.line PySem.F.plainAttrs_dict PySem.F.slot_dict_get PySem.F.type_dict_get (thn (ho.run pins s σ H _ I h) fun u s1 ⟨x, H1, I1, rx, ⟨a, xs, kvs, ex, e1, dk1⟩, q1⟩ => ?_)
  subst ex
  cases (show u = Value.ref a from rx)
  obtain ⟨us1, dd1, _, hd1, _⟩ := tn_open I1 e1 dk1
  refine ⟨dd1.typeIs, fun b q => ?_, ?_⟩
  · cases q
    obtain ⟨ob, _, _, h1, h2, _⟩ := dd1
    exact ⟨ob, h1, h2.2.1⟩
  rw [m.trees]
  refine Calls.callWith_builtin rfl (Calls.evalArgs_plain (Calls.spliced_cons (thn (he.run pins s1 σ H1 _ I1 q1) fun iv s2 ⟨y, H2, I2, ry, q2⟩ =>
    Calls.spliced_cons (thn (hf.run pins s2 σ H2 _ I2 q2) fun fv s3 ⟨z, H3, I3, rz, a', b, xs3, kvs3, k, ea, ey, e3, dk, ko, kb, q3⟩ => Calls.spliced_nil ?_))))
  cases ea
  subst ey
  cases (show iv = Value.ref b from ry)
  obtain ⟨us, dd, px, hd, hl⟩ := tn_open I3 e3 dk
  refine call_meetsIn PySem.F.slot_dict_get dd.typeIs PySem.F.entry_dict_get (PySem.F.args_dict_get_3 _ _ _) (meetsH_dict_get_default (knd := nestedKind X.prog X.w) (d := a) (a := b) hd fv) ⟨room_nest hu, k, us, ⟨nest_is I3 k _ _ kb rfl, ko.dep⟩, dd, ?_⟩
  refine ⟨_, H3, I3.tok _, ?_, q3⟩
  obtain ⟨p1, p2⟩ := px.val k
  cases hx : xval xs3 k with
  | none =>
    rw [hx] at p1
    have : atKey us k = none := by
      cases q : atKey us k with
      | none => rfl
      | some _ => rw [q] at p1; cases p1
    rw [this]
    exact rz
  | some v =>
    obtain ⟨p, hp, rp⟩ := p2 v hx
    rw [hp]
    exact rp
def rNGet2 (td ti tx : RE) : RE := fun ρ S Q => td ρ S fun o S1 => (∃ a kvs, o = .ref a ∧ S1 a = some (.dN kvs)) ∧ ti ρ S1 fun k S2 => tx ρ S2 fun z S3 => isN S3 o k fun _ kvs key => Q ((nval kvs key).getD z) S3
theorem pd_nget2 {o e f : Expr} {apos cpos : Pos} {td ti tx : RE} (hu : X.A.units + 64 < cLine) (ho : PD X y o td) (he : PD X y e ti) (hf : PD X y f tx) (m : M2 X o "get" apos e f cpos) : PD X y (.Call (.Attribute o "get" apos) [e, f] [] cpos) (rNGet2 td ti tx) :=
  PD.of (pe_nget2 hu ho he hf m) fun σ H Q h => by
    obtain ⟨ρ, S, R, sr, so, h, k⟩ := h
    refine ⟨ρ, S, _, sr, so, h, fun d S1 v H1 g1 dv h1 => ?_⟩
    obtain ⟨⟨a, kvs, rfl, e1⟩, h1⟩ := h1
    cases (show v = V.ref a from dv)
    obtain ⟨xs, e2, n2, r2⟩ := g1.ok a _ e1
    refine ⟨⟨a, xs, kvs, rfl, e2, r2⟩, ρ, S1, _, sr.go g1, so.go g1, h1, fun z S2 w H2 g2 dw h2 => ⟨ρ, S2, _, (sr.go g1).go g2, (so.go g1).go g2, h2, fun z2 S3 w2 H3 g3 dw2 h3 => ?_⟩⟩
    obtain ⟨a', b, kvs3, xs3, key, ea, rfl, _, e3, r, ko, kb, h4⟩ := isN_of g3.ok (o := .ref a) (v := .ref a) rfl (DV.go g3 _ _ dw) h3
    cases ea
    refine ⟨a, b, xs3, kvs3, key, rfl, rfl, e3, r, ko, kb, ?_⟩
    have gA := (g1.trans g2).trans g3
    obtain ⟨rv1, rv2⟩ := r.val key
    cases hd : nval kvs3 key with
    | none =>
      rw [hd] at h4 rv1
      have : xval xs3 key = none := by
        cases q : xval xs3 key with
        | none => rfl
        | some _ => rw [q] at rv1; cases rv1
      show Q ((xval xs3 key).getD w2) H3
      rw [this]
      exact k z2 S3 w2 H3 gA dw2 h4
    | some d =>
      rw [hd] at h4
      obtain ⟨u, hu', ru⟩ := rv2 d hd
      show Q ((xval xs3 key).getD w2) H3
      rw [hu']
      exact k d S3 u H3 gA ru h4
end
/-! ### walks over d.items() -/
/-- the very object at d -/
def FX (d : Addr) (o : Obj) : HO := .ext fun h => h.get? d = some o
theorem fx_ok {P : Program} {w : World} {H : Hp} {h : Heap} {d : Addr} {o : Obj} (e : h.get? d = some o) : ObjOk P w H h d (FX d o) := ⟨e, ⟨o, e⟩, fun _ _ z k => k o z⟩
theorem fx_at {P : Program} {w : World} {H : Hp} {h : Heap} {d : Addr} {o : Obj} (k : HOk P w H h) (e : H d = some (FX d o)) : h.get? d = some o := (show _ ∧ _ from k d _ e).1
def ItN (d : Addr) (o : Obj) (xs : List (NestedKey × Addr × V)) : It :=
  ⟨fun i H => H d = some (FX d o) ∧ i < xs.length, fun i H x H' => ∃ T k b v, xs[i]? = some (k, b, v) ∧ x = .ref T ∧ H T = none ∧ H' = upd H T (.tup [.ref b, v]), fun i H => H d = some (FX d o) ∧ xs.length ≤ i⟩
theorem px_get {xs : List (NestedKey × Addr × V)} {us : List (NestedKey × Addr × Value)} (h : PX xs us) {i : Nat} {x : NestedKey × Addr × V} (e : xs[i]? = some x) : ∃ u, us[i]? = some u ∧ x.1 = u.1 ∧ x.2.1 = u.2.1 ∧ RelV x.2.2 u.2.2 := by
  induction h generalizing i with
  | nil => cases e
  | @cons a b as bs q _ ih =>
    cases i with
    | zero => cases e; exact ⟨b, rfl, q.1, q.2.1, q.2.2⟩
    | succ i =>
      rw [List.getElem?_cons_succ] at e
      obtain ⟨u, h1, h2⟩ := ih e
      exact ⟨u, by rw [List.getElem?_cons_succ]; exact h1, h2⟩
section
variable {P : Program} {w : World} {K : PySem.W.Frag} {d : Addr} {o : Obj} {es : Array DictEntry} {ep : Nat}
theorem turn_itemsN {P' : Program} {w' : World} {xs : List (NestedKey × Addr × V)} {us : List (NestedKey × Addr × Value)} {elts : List Expr} {kk : Nat} {tpos : Pos} (it : Addr) (hx : o.ExactDict) (hod : o.data = .dict es ep) (hes : es.toList = us.map (entryOfKey (nestedKind P' w'))) (px : PX xs us) :
    Turn P w K (.Tuple elts kk tpos) (ItN d o xs) [it] it (fun i h => ∃ ok ov, IsItemIter h it d i es.size ep ok ov) where
  mem := by simp
  obj := fun i h st b hb => by
    have e : b = it := by simpa using hb
    subst e
    obtain ⟨ok, ov, e⟩ := st
    exact ⟨_, e, fun v z => nomatch z⟩
  keep := fun i h h' st k => let ⟨ok, ov, e⟩ := st; ⟨ok, ov, k it (by simp) _ e⟩
  item := by
    intro X hP hw hK hc i pins s σ H E I hf st hg
    subst hP hw hK
    obtain ⟨hd, hi⟩ := hg
    have ho := fx_at I.hok hd
    have hl : es.size = xs.length := by rw [← Array.length_toList, hes, List.length_map, Paired.length px]
    obtain ⟨⟨k, b, v⟩, hkv⟩ : ∃ p, xs[i]? = some p := ⟨xs[i], List.getElem?_eq_getElem hi⟩
    obtain ⟨u, hu, k1, k2, ru⟩ := px_get px hkv
    have hie : i < es.size := by omega
    have hent : es[i] = entryOfKey (nestedKind P' w') u := by
      have : es.toList[i]? = some (entryOfKey (nestedKind P' w') u) := by rw [hes, List.getElem?_map, hu]; rfl
      rw [Array.getElem?_toList, Array.getElem?_eq_getElem hie] at this
      exact Option.some.inj this
    obtain ⟨ok, ov, he⟩ := st
    have hlt : it < s.heap.objs.size := Heap.lt_size he
    refine wpAny_pyNext_items_item_raw he ⟨o, ho, hx, hod⟩ hie fun h' hout hT hz hk => ?_
    rw [hent] at hT hout
    refine ⟨_, rfl, wpAny_letOwnedTupleGo_items (s := { s with heap := h' }) hout fun h'' he' sb => ?_⟩
    have hT2 : h''.get? s.heap.objs.size = some { cls := .type "tuple", data := .seq #[.ref u.2.1, u.2.2] } := (sb.2 _ (Nat.ne_of_gt hlt)).trans hT
    have new : ObjOk X.prog X.w (upd H s.heap.objs.size (.tup [.ref b, v])) h'' s.heap.objs.size (.tup [.ref b, v]) :=
      ⟨by show 2 ≤ sizeLine; decide, [.ref u.2.1, u.2.2], .cons (by show Value.ref u.2.1 = Value.ref b; rw [← k2]) (.cons ru .nil), ⟨_, hT2, rfl, _, rfl⟩⟩
    have I1 : Inv X pins σ (upd H s.heap.objs.size (.tup [.ref b, v])) { s with heap := h'' } :=
      I.turnedNew (t' := s.toks) (ch := [it]) (fun c ob hb e => (sb.2 c (by simpa using hb)).trans (hk c ob (by simpa using hb) e)) hf (Nat.le_refl _) new
    refine ⟨.ref s.heap.objs.size, _, I1, rfl, ⟨_, k, b, v, hkv, rfl, I.hok.fresh (Nat.le_refl _), rfl⟩, ⟨_, _, he'⟩, fun c hb => ?_⟩
    have e : c = it := by simpa using hb
    rw [e, upd_ne (Nat.ne_of_lt hlt)]
    exact (hf it (by simp)).1
  done := by
    intro X hP hw hK hc i pins s σ H E I hf st hg
    subst hP hw hK
    obtain ⟨hd, hi⟩ := hg
    obtain ⟨f0, f1, f2, f3, f4, f5⟩ := hf it (by simp)
    have ho := fx_at I.hok hd
    have hl : es.size = xs.length := by rw [← Array.length_toList, hes, List.length_map, Paired.length px]
    obtain ⟨ok, ov, he⟩ := st
    exact wpAny_pyNext_items_end_raw (I.ok.hd hc) he ⟨o, ho, hx, hod⟩ (by omega) fun h' eb => ⟨rfl, I.turned (t' := s.toks) (fun b ob hb e => eb b ob hb e) f0 f1 f3 f4 f5⟩
  self := fun A i s Q E st h => let ⟨_, _, e⟩ := st; PySem.W.kcp_self e h
end
def iItemsN (K : PySem.W.Frag) (td : TE) : TI := fun σ H R => td σ H fun x H1 => ∃ d xs kvs, x = .ref d ∧ H1 d = some (TN d xs) ∧ DKN K H1 kvs xs ∧ ∀ o, R (ItN d o xs) (upd H1 d (FX d o))
theorem pi_itemsN {X : Cx} {e : Expr} {td : TE} {apos cpos : Pos} {elts : List Expr} {kk : Nat} {tpos : Pos} (he : PE X e td) (hbase : attributeBase e "items" X.env (eval e X.env) = eval e X.env := by rfl) (hline : (apos.endLine == cpos.line) = true := by rfl) :
    PI X (.Tuple elts kk tpos) (.Call (.Attribute e "items" apos) [] [] cpos) (iItemsN X.K td) := by
  refine ⟨fun pins s σ H R I h => ?_⟩
  refine wpAny_Call_method (T := "dict") (id := "dict.items") hbase rfl hline F.plainAttrs_dict F.slot_dict_items F.type_dict_items (thn (he.run pins s σ H _ I h) fun u s1 ⟨x, H1, I1, rx, d, xs, kvs, ex, e1, dk, q⟩ => ?_)
  subst ex
  cases (show u = Value.ref d from rx)
  obtain ⟨us, dd, px, hs, hl⟩ := tn_open I1 e1 dk
  obtain ⟨o, es, ep, ho, hx, hdat, hes, hdd⟩ := id dd
  refine ⟨dd.typeIs, fun b z => by cases z; exact ⟨o, ho, hx.2.1⟩, ?_⟩
  have I2 : Inv X pins σ (upd H1 d (FX d o)) s1 := d_write (h' := s1.heap) (t' := s1.toks) I1 (by rw [e1]; exact True.intro) (Heap.SameBut.refl d s1.heap) ⟨o, ho⟩ (fx_ok ho)
  have I3 : Inv X pins σ (upd H1 d (FX d o)) { s1 with heap := s1.heap.push { cls := .type "dict_items", data := .fields #[.ref d] } } := I2.kept (t' := s1.toks) fun b ob q => Heap.get?_push_of_some _ q
  have fin : wpAny (model X.prog X.w) X.A (pyIter (.ref s1.heap.objs.size)) (PIE X pins σ (.Tuple elts kk tpos) R) X.xe { s1 with heap := s1.heap.push { cls := .type "dict_items", data := .fields #[.ref d] } } :=
    wpAny_pyIter_items_raw (d := d) (es := es) (ep := ep) ⟨_, Heap.get?_push_size _ rfl, rfl, rfl⟩ ⟨o, Heap.get?_push_of_some _ ho, hx, hdat⟩ (pi_one (tk := s1.toks) I3 _ (turn_itemsN _ hx hdat hes px) ⟨.none, .none, Heap.get?_push_size _ rfl⟩ (q o))
  show wpAny _ _ (callWith cpos (.builtin "dict.items") [.ref d] [] []) _ X.xe s1
  exact method_meetsIn F.slot_dict_items F.entry_dict_items rfl (PySem.evalArgs_none ⟨rfl, dd.typeIs, F.args_dict_items_1 _, _, meets_dict_items_raw d hs, ⟨es, ep, o, ho, hx, hdat⟩, fin⟩)
/-! over plain values: the dict is given up -/
def rem (S : Sto) (a : Addr) : Sto := fun b => if b = a then none else S b
theorem Go.give {K : PySem.W.Frag} {H : Hp} {S : Sto} (h : SOk K H S) {p : Addr} {kvs : List (NestedKey × D)} (hp : S p = some (.dN kvs)) (o : HO) : Go K H S (upd H p o) (rem S p) := by
  obtain ⟨vs0, e0, n0, _⟩ := h p _ hp
  have co : CO p (TN p vs0) := .inr (.inr ⟨_, rfl, n0⟩)
  refine ⟨h, fun a c e => ?_, fun a q e z => ?_, fun a q e z => ?_⟩
  · unfold rem at e
    split at e
    · cases e
    · rename_i ha
      have := h a c e
      cases c with
      | lst xs => obtain ⟨ws, e1, r⟩ := this; exact ⟨ws, by rw [upd_ne ha]; exact e1, DVs.wr e0 co _ _ r⟩
      | dK kvs => obtain ⟨ws, e1, r⟩ := this; exact ⟨ws, by rw [upd_ne ha]; exact e1, DKs.wr e0 co r⟩
      | dN kvs => obtain ⟨ws, e1, n, r⟩ := this; exact ⟨ws, by rw [upd_ne ha]; exact e1, n, DKN.wr e0 co r⟩
  · rw [upd_ne (fun y => by rw [y, hp] at e; cases e)]
    exact z
  · unfold rem
    split
    · rfl
    · exact e
def itN (kvs : List (NestedKey × D)) : List D := kvs.map fun kv => .tup [ofN kv.1, kv.2]
theorem DKN.get {K : PySem.W.Frag} {H : Hp} {ds : List (NestedKey × D)} {xs : List (NestedKey × Addr × V)} (h : DKN K H ds xs) {i : Nat} {p : NestedKey × D} (e : ds[i]? = some p) : ∃ b v, xs[i]? = some (p.1, b, v) ∧ DV K H (ofN p.1) (.ref b) ∧ DV K H p.2 v := by
  induction h generalizing i with
  | nil => cases e
  | @cons k d b v ds vs _ k2 r _ ih =>
    cases i with
    | zero => cases e; exact ⟨b, v, rfl, k2, r⟩
    | succ i =>
      rw [List.getElem?_cons_succ] at e
      obtain ⟨b', v', h1, h2⟩ := ih e
      exact ⟨b', v', by rw [List.getElem?_cons_succ]; exact h1, h2⟩
theorem jok_itemsN {K : PySem.W.Frag} {H1 : Hp} {S1 : Sto} {d : Addr} {o : Obj} {kvs : List (NestedKey × D)} {xs : List (NestedKey × Addr × V)} (hs : S1 d = none) (hd : H1 d = some (FX d o)) (r : DKN K H1 kvs xs) : JOk K H1 S1 (ItN d o xs) (itN kvs) (fun _ => True) := by
  intro i H S g _
  have h2 := g.frame d _ hs hd
  have r2 := DKN.go g r
  refine ⟨fun x hx => ?_, fun hn => ⟨h2, ?_⟩⟩
  · unfold itN at hx
    rw [List.getElem?_map] at hx
    cases e : kvs[i]? with
    | none => rw [e] at hx; cases hx
    | some p =>
      rw [e] at hx
      cases (Option.some.inj hx)
      obtain ⟨b, v, e2, kb, dv⟩ := r2.get e
      refine ⟨⟨h2, (List.getElem?_eq_some_iff.mp e2).1⟩, fun w H' ⟨T, k, b', v', e3, ew, hT, eH⟩ => ?_⟩
      rw [e2] at e3
      cases (Option.some.inj e3)
      subst ew eH
      have g2 := Go.new (K := K) (o := .tup [.ref b, v]) g.ok hT
      exact ⟨g2, T, _, rfl, .inl upd_same, DVs.cons (DV.go g2 _ _ kb) (DVs.cons (DV.go g2 _ _ dv) DVs.nil)⟩
  · unfold itN at hn
    rw [List.getElem?_map] at hn
    rw [← DKN.length r]
    cases e : kvs[i]? with
    | none => rw [List.getElem?_eq_none_iff] at e; exact e
    | some p => rw [e] at hn; cases hn
section
variable {X : Cx} {y : DXw}
def rItemsN (td : RE) : RI := fun ρ S R => td ρ S fun o S1 => match o with
  | .ref a => ∃ kvs, S1 a = some (.dN kvs) ∧ R (itN kvs) (fun _ => True) (rem S1 a)
  | _ => False
theorem pdi_itemsN {e : Expr} {td : RE} {apos cpos : Pos} {elts : List Expr} {kk : Nat} {tpos : Pos} (he : PD X y e td) (hbase : attributeBase e "items" X.env (eval e X.env) = eval e X.env := by rfl) (hline : (apos.endLine == cpos.line) = true := by rfl) :
    PDI X y (.Tuple elts kk tpos) (.Call (.Attribute e "items" apos) [] [] cpos) (rItemsN td) := by
  refine PDI.of (pi_itemsN he hbase hline) fun σ H R h => ?_
  obtain ⟨ρ, S, Rd, sr, so, h, k⟩ := h
  refine ⟨ρ, S, _, sr, so, h, fun d S1 v H1 g dv h1 => ?_⟩
  cases d with
  | ref a =>
    cases (show v = V.ref a from dv)
    obtain ⟨kvs, e1, h1⟩ := h1
    obtain ⟨xs, e2, n2, r⟩ := g.ok a _ e1
    refine ⟨a, xs, kvs, rfl, e2, r, fun o => ?_⟩
    have g2 := Go.give g.ok e1 (FX a o)
    refine k _ _ _ _ _ (g.trans g2) (jok_itemsN (by unfold rem; rw [if_pos rfl]) upd_same (DKN.go g2 r)) h1
  | _ => exact False.elim h1
/-! ### {k: v} with a reckoned key -/
def rDispE (tk tv : RE) : RE := fun ρ S Q => ∀ p, S p = none → tk ρ (sup S p (.dK [])) fun kd S2 => ∃ i, kd = .int i ∧ tv ρ S2 fun d S3 => S3 p = some (.dK []) ∧ Q (.ref p) (sup S3 p (.dK [(.inl i, d)]))
theorem pd_dispE {pos : Pos} {ke v : Expr} {tk tv : RE} (hk : PD X y ke tk) (hv : PD X y v tv) : PD X y (.Dict [some ke] [v] pos) (rDispE tk tv) :=
  PD.of (pe_disp (pps_cons hk hv pps_nil) rfl rfl (by simp) (by simp)) fun σ H Q h => by
    obtain ⟨ρ, S, R, sr, so, h, kk⟩ := h
    intro p hp
    have g0 := Go.newDK (K := X.K) so.so hp .nil
    refine ⟨ρ, sup S p (.dK []), _, sr.go g0, so.go g0, h p (so.so.free hp), fun kd S2 wk H2 g2 dk h2 => ?_⟩
    obtain ⟨i, rfl, h2⟩ := h2
    cases (show wk = V.int i from dk)
    refine ⟨ρ, S2, _, (sr.go g0).go g2, (so.go g0).go g2, h2, fun d S3 w H3 g3 dv h3 => ?_⟩
    obtain ⟨e2, q⟩ := h3
    obtain ⟨vs, e3, r⟩ := g3.ok p _ e2
    cases r
    exact ⟨e3, [(.inl i, w)], rfl, by simp, kk (.ref p) _ _ _ (((g0.trans g2).trans g3).trans (Go.setDK g3.ok e2 (DKs.cons (k := .inl i) dv .nil))) rfl q⟩
end
end DL
set_option Elab.async false
set_option linter.all false
set_option maxRecDepth 100000
set_option maxHeartbeats 4000000
namespace K53
open PySem PySem.Spec PyProof.Rows L2 DL
local macro_rules | `(tactic| walk_at "w") => `(tactic| conv => whnf)
local macro_rules | `(tactic| walk_at "g") => `(tactic| ((conv => whnf); repeat' (first | (refine IFB.t ?_ ?_; rfl; conv => whnf) | (refine IFB.f ?_ ?_; rfl; conv => whnf))))
def topS (i : Nat) : Stmt := PySem.Challenge.pw_wholeplays_k53_whole_shares_put_together.main.body.getD i (.Pass ⟨0, 0, 0, 0⟩)
abbrev s_init : Stmt := inCls (topS 2) 0
theorem sc_init : FnScope ["self", "value"] ["self", "value"] (defScope s_init) := ⟨rfl, rfl, rfl, by decide +kernel, rfl, by decide +kernel, by decide +kernel⟩
abbrev s_is_integer : Stmt := topS 9
theorem sc_is_integer : FnScope ["value"] ["value"] (defScope s_is_integer) := ⟨rfl, rfl, rfl, by decide +kernel, rfl, by decide +kernel, by decide +kernel⟩
abbrev s_is_natural : Stmt := topS 10
theorem sc_is_natural : FnScope ["value"] ["value"] (defScope s_is_natural) := ⟨rfl, rfl, rfl, by decide +kernel, rfl, by decide +kernel, by decide +kernel⟩
abbrev s_is_below : Stmt := topS 11
theorem sc_is_below : FnScope ["value", "many"] ["value", "many"] (defScope s_is_below) := ⟨rfl, rfl, rfl, by decide +kernel, rfl, by decide +kernel, by decide +kernel⟩
abbrev s_is_pair : Stmt := topS 12
theorem sc_is_pair : FnScope ["value"] ["value"] (defScope s_is_pair) := ⟨rfl, rfl, rfl, by decide +kernel, rfl, by decide +kernel, by decide +kernel⟩
abbrev s_is_ascending : Stmt := topS 13
theorem sc_is_ascending : FnScope ["row", "at"] ["row"] (defScope s_is_ascending) := ⟨rfl, rfl, rfl, by decide +kernel, rfl, by decide +kernel, by decide +kernel⟩
abbrev s_lowest : Stmt := topS 14
theorem sc_lowest : FnScope ["top", "bottom", "common"] ["top", "bottom"] (defScope s_lowest) := ⟨rfl, rfl, rfl, by decide +kernel, rfl, by decide +kernel, by decide +kernel⟩
abbrev s_is_number_of : Stmt := topS 15
theorem sc_is_number_of : FnScope ["told"] ["told"] (defScope s_is_number_of) := ⟨rfl, rfl, rfl, by decide +kernel, rfl, by decide +kernel, by decide +kernel⟩
abbrev s_is_part_of_one : Stmt := topS 16
theorem sc_is_part_of_one : FnScope ["told"] ["told"] (defScope s_is_part_of_one) := ⟨rfl, rfl, rfl, by decide +kernel, rfl, by decide +kernel, by decide +kernel⟩
abbrev s_whole : Stmt := topS 17
theorem sc_whole : FnScope ["a"] ["a"] (defScope s_whole) := ⟨rfl, rfl, rfl, by decide +kernel, rfl, by decide +kernel, by decide +kernel⟩
abbrev s_sum_of_two : Stmt := topS 18
theorem sc_sum_of_two : FnScope ["a", "b"] ["a", "b"] (defScope s_sum_of_two) := ⟨rfl, rfl, rfl, by decide +kernel, rfl, by decide +kernel, by decide +kernel⟩
abbrev s_difference : Stmt := topS 19
theorem sc_difference : FnScope ["a", "b"] ["a", "b"] (defScope s_difference) := ⟨rfl, rfl, rfl, by decide +kernel, rfl, by decide +kernel, by decide +kernel⟩
abbrev s_product : Stmt := topS 20
theorem sc_product : FnScope ["a", "b"] ["a", "b"] (defScope s_product) := ⟨rfl, rfl, rfl, by decide +kernel, rfl, by decide +kernel, by decide +kernel⟩
abbrev s_quotient : Stmt := topS 21
theorem sc_quotient : FnScope ["a", "b"] ["a", "b"] (defScope s_quotient) := ⟨rfl, rfl, rfl, by decide +kernel, rfl, by decide +kernel, by decide +kernel⟩
abbrev s_is_less : Stmt := topS 22
theorem sc_is_less : FnScope ["a", "b"] ["a", "b"] (defScope s_is_less) := ⟨rfl, rfl, rfl, by decide +kernel, rfl, by decide +kernel, by decide +kernel⟩
abbrev s_sum_of_all : Stmt := topS 23
theorem sc_sum_of_all : FnScope ["numbers", "total", "a"] ["numbers"] (defScope s_sum_of_all) := ⟨rfl, rfl, rfl, by decide +kernel, rfl, by decide +kernel, by decide +kernel⟩
abbrev s_power : Stmt := topS 24
theorem sc_power : FnScope ["b", "n", "found", "turn"] ["b", "n"] (defScope s_power) := ⟨rfl, rfl, rfl, by decide +kernel, rfl, by decide +kernel, by decide +kernel⟩
abbrev s_by_halves : Stmt := topS 25
theorem sc_by_halves : FnScope ["a", "k"] ["a", "k"] (defScope s_by_halves) := ⟨rfl, rfl, rfl, by decide +kernel, rfl, by decide +kernel, by decide +kernel⟩
abbrev s_check_part : Stmt := topS 27
theorem sc_check_part : FnScope ["number"] ["number"] (defScope s_check_part) := ⟨rfl, rfl, rfl, by decide +kernel, rfl, by decide +kernel, by decide +kernel⟩
abbrev s_check_natural : Stmt := topS 28
theorem sc_check_natural : FnScope ["k"] ["k"] (defScope s_check_natural) := ⟨rfl, rfl, rfl, by decide +kernel, rfl, by decide +kernel, by decide +kernel⟩
abbrev s_rest_of : Stmt := topS 29
theorem sc_rest_of : FnScope ["number", "k", "top", "bottom"] ["number", "k"] (defScope s_rest_of) := ⟨rfl, rfl, rfl, by decide +kernel, rfl, by decide +kernel, by decide +kernel⟩
abbrev s_figure_of : Stmt := topS 30
theorem sc_figure_of : FnScope ["number", "k", "top", "bottom"] ["number", "k"] (defScope s_figure_of) := ⟨rfl, rfl, rfl, by decide +kernel, rfl, by decide +kernel, by decide +kernel⟩
abbrev s_shortest : Stmt := topS 31
theorem sc_shortest : FnScope ["ahead", "again", "turn"] ["ahead", "again"] (defScope s_shortest) := ⟨rfl, rfl, rfl, by decide +kernel, rfl, by decide +kernel, by decide +kernel⟩
abbrev s_figures_of : Stmt := topS 32
theorem sc_figures_of : FnScope ["number", "found", "met", "rest", "turn", "twice", "begin"] ["number"] (defScope s_figures_of) := ⟨rfl, rfl, rfl, by decide +kernel, rfl, by decide +kernel, by decide +kernel⟩
abbrev s_figures : Stmt := topS 33
theorem sc_figures : FnScope ["number"] ["number"] (defScope s_figures) := ⟨rfl, rfl, rfl, by decide +kernel, rfl, by decide +kernel, by decide +kernel⟩
abbrev s_sum_of_figures : Stmt := topS 34
theorem sc_sum_of_figures : FnScope ["some", "begin", "at", "a"] ["some", "begin"] (defScope s_sum_of_figures) := ⟨rfl, rfl, rfl, by decide +kernel, rfl, by decide +kernel, by decide +kernel⟩
abbrev s_again_and_again : Stmt := topS 35
theorem sc_again_and_again : FnScope ["first", "many"] ["first", "many"] (defScope s_again_and_again) := ⟨rfl, rfl, rfl, by decide +kernel, rfl, by decide +kernel, by decide +kernel⟩
abbrev s_figure : Stmt := topS 36
theorem sc_figure : FnScope ["number", "k"] ["number", "k"] (defScope s_figure) := ⟨rfl, rfl, rfl, by decide +kernel, rfl, by decide +kernel, by decide +kernel⟩
abbrev s_cost_of : Stmt := topS 37
theorem sc_cost_of : FnScope ["number", "ahead", "again", "k", "a", "total", "many", "later", "at", "worth", "more"] ["number"] (defScope s_cost_of) := ⟨rfl, rfl, rfl, by decide +kernel, rfl, by decide +kernel, by decide +kernel⟩
abbrev s_cost : Stmt := topS 38
theorem sc_cost : FnScope ["number"] ["number"] (defScope s_cost) := ⟨rfl, rfl, rfl, by decide +kernel, rfl, by decide +kernel, by decide +kernel⟩
abbrev s_rest : Stmt := topS 39
theorem sc_rest : FnScope ["number", "k"] ["number", "k"] (defScope s_rest) := ⟨rfl, rfl, rfl, by decide +kernel, rfl, by decide +kernel, by decide +kernel⟩
abbrev s_is_shares_of : Stmt := topS 41
theorem sc_is_shares_of : FnScope ["told", "share"] ["told"] (defScope s_is_shares_of) := ⟨rfl, rfl, rfl, by decide +kernel, rfl, by decide +kernel, by decide +kernel⟩
abbrev s_is_shares : Stmt := topS 42
theorem sc_is_shares : FnScope ["told"] ["told"] (defScope s_is_shares) := ⟨rfl, rfl, rfl, by decide +kernel, rfl, by decide +kernel, by decide +kernel⟩
abbrev s_check_shares : Stmt := topS 43
theorem sc_check_shares : FnScope ["shares"] ["shares"] (defScope s_check_shares) := ⟨rfl, rfl, rfl, by decide +kernel, rfl, by decide +kernel, by decide +kernel⟩
abbrev s_are_things : Stmt := topS 44
theorem sc_are_things : FnScope ["shares", "told", "thing"] ["shares", "told"] (defScope s_are_things) := ⟨rfl, rfl, rfl, by decide +kernel, rfl, by decide +kernel, by decide +kernel⟩
abbrev s_put_together_of : Stmt := topS 45
theorem sc_put_together_of : FnScope ["shares", "things", "thing", "total", "found", "share"] ["shares", "things"] (defScope s_put_together_of) := ⟨rfl, rfl, rfl, by decide +kernel, rfl, by decide +kernel, by decide +kernel⟩
abbrev s_put_together : Stmt := topS 46
theorem sc_put_together : FnScope ["shares", "things"] ["shares", "things"] (defScope s_put_together) := ⟨rfl, rfl, rfl, by decide +kernel, rfl, by decide +kernel, by decide +kernel⟩
abbrev s_check_thing : Stmt := topS 47
theorem sc_check_thing : FnScope ["shares", "thing"] ["shares", "thing"] (defScope s_check_thing) := ⟨rfl, rfl, rfl, by decide +kernel, rfl, by decide +kernel, by decide +kernel⟩
abbrev s_parted : Stmt := topS 48
theorem sc_parted : FnScope ["shares", "thing", "parts", "part"] ["shares", "thing", "parts"] (defScope s_parted) := ⟨rfl, rfl, rfl, by decide +kernel, rfl, by decide +kernel, by decide +kernel⟩
abbrev s_both_of : Stmt := topS 49
theorem sc_both_of : FnScope ["one", "other", "first", "second"] ["one", "other"] (defScope s_both_of) := ⟨rfl, rfl, rfl, by decide +kernel, rfl, by decide +kernel, by decide +kernel⟩
abbrev s_both : Stmt := topS 50
theorem sc_both : FnScope ["one", "other"] ["one", "other"] (defScope s_both) := ⟨rfl, rfl, rfl, by decide +kernel, rfl, by decide +kernel, by decide +kernel⟩
abbrev s_check_throws : Stmt := topS 55
theorem sc_check_throws : FnScope ["n"] ["n"] (defScope s_check_throws) := ⟨rfl, rfl, rfl, by decide +kernel, rfl, by decide +kernel, by decide +kernel⟩
abbrev s_doublings : Stmt := topS 57
theorem sc_doublings : FnScope ["bottom", "odd", "a", "turn", "r", "rest"] ["bottom"] (defScope s_doublings) := ⟨rfl, rfl, rfl, by decide +kernel, rfl, by decide +kernel, by decide +kernel⟩
abbrev s_toss_cost : Stmt := topS 58
theorem sc_toss_cost : FnScope ["number", "top", "bottom", "a", "r", "rest", "ahead", "again", "turn", "rounds"] ["number"] (defScope s_toss_cost) := ⟨rfl, rfl, rfl, by decide +kernel, rfl, by decide +kernel, by decide +kernel⟩
abbrev s_many_of : Stmt := topS 60
theorem sc_many_of : FnScope ["shares", "k", "found", "turn"] ["shares", "k"] (defScope s_many_of) := ⟨rfl, rfl, rfl, by decide +kernel, rfl, by decide +kernel, by decide +kernel⟩
abbrev s_many : Stmt := topS 62
theorem sc_many : FnScope ["shares", "k"] ["shares", "k"] (defScope s_many) := ⟨rfl, rfl, rfl, by decide +kernel, rfl, by decide +kernel, by decide +kernel⟩
abbrev s_even_of : Stmt := topS 61
theorem sc_even_of : FnScope ["n"] ["n"] (defScope s_even_of) := ⟨rfl, rfl, rfl, by decide +kernel, rfl, by decide +kernel, by decide +kernel⟩
abbrev s_even_mean : Stmt := topS 64
theorem sc_even_mean : FnScope ["n"] ["n"] (defScope s_even_mean) := ⟨rfl, rfl, rfl, by decide +kernel, rfl, by decide +kernel, by decide +kernel⟩
abbrev s_shuffle_mean : Stmt := topS 65
theorem sc_shuffle_mean : FnScope ["n"] ["n"] (defScope s_shuffle_mean) := ⟨rfl, rfl, rfl, by decide +kernel, rfl, by decide +kernel, by decide +kernel⟩
abbrev s_lot_mean : Stmt := topS 66
theorem sc_lot_mean : FnScope ["n", "k"] ["n", "k"] (defScope s_lot_mean) := ⟨rfl, rfl, rfl, by decide +kernel, rfl, by decide +kernel, by decide +kernel⟩
abbrev s_least_mean_of : Stmt := topS 52
theorem sc_least_mean_of : FnScope ["shares", "share"] ["shares"] (defScope s_least_mean_of) := ⟨rfl, rfl, rfl, by decide +kernel, rfl, by decide +kernel, by decide +kernel⟩
abbrev s_least_mean : Stmt := topS 53
theorem sc_least_mean : FnScope ["shares"] ["shares"] (defScope s_least_mean) := ⟨rfl, rfl, rfl, by decide +kernel, rfl, by decide +kernel, by decide +kernel⟩
abbrev s_mean_of_shares : Stmt := topS 59
theorem sc_mean_of_shares : FnScope ["shares", "counts", "share", "many"] ["shares"] (defScope s_mean_of_shares) := ⟨rfl, rfl, rfl, by decide +kernel, rfl, by decide +kernel, by decide +kernel⟩
abbrev s_saved : Stmt := topS 63
theorem sc_saved : FnScope ["shares", "k"] ["shares", "k"] (defScope s_saved) := ⟨rfl, rfl, rfl, by decide +kernel, rfl, by decide +kernel, by decide +kernel⟩
abbrev s_least_tail_of : Stmt := topS 68
theorem sc_least_tail_of : FnScope ["shares", "k", "share"] ["shares", "k"] (defScope s_least_tail_of) := ⟨rfl, rfl, rfl, by decide +kernel, rfl, by decide +kernel, by decide +kernel⟩
abbrev s_least_tail : Stmt := topS 69
theorem sc_least_tail : FnScope ["shares", "k"] ["shares", "k"] (defScope s_least_tail) := ⟨rfl, rfl, rfl, by decide +kernel, rfl, by decide +kernel, by decide +kernel⟩
abbrev s_halvings : Stmt := topS 70
theorem sc_halvings : FnScope ["bottom", "many"] ["bottom"] (defScope s_halvings) := ⟨rfl, rfl, rfl, by decide +kernel, rfl, by decide +kernel, by decide +kernel⟩
abbrev s_surely : Stmt := topS 71
theorem sc_surely : FnScope ["shares", "found", "top", "bottom"] ["shares"] (defScope s_surely) := ⟨rfl, rfl, rfl, by decide +kernel, rfl, by decide +kernel, by decide +kernel⟩
abbrev s_within : Stmt := topS 72
theorem sc_within : FnScope ["shares", "far", "k"] ["shares", "far"] (defScope s_within) := ⟨rfl, rfl, rfl, by decide +kernel, rfl, by decide +kernel, by decide +kernel⟩
abbrev s_law_bag : Stmt := topS 74
theorem sc_law_bag : FnScope ["script", "k", "cell"] ["script", "k"] (defScope s_law_bag) := ⟨rfl, rfl, rfl, by decide +kernel, rfl, by decide +kernel, by decide +kernel⟩
abbrev s_law_take : Stmt := topS 75
theorem sc_law_take : FnScope ["bag", "below", "found", "blend"] ["bag", "below"] (defScope s_law_take) := ⟨rfl, rfl, rfl, by decide +kernel, rfl, by decide +kernel, by decide +kernel⟩
abbrev s_law_low : Stmt := topS 76
theorem sc_law_low : FnScope ["top", "bottom", "one", "other"] ["top", "bottom"] (defScope s_law_low) := ⟨rfl, rfl, rfl, by decide +kernel, rfl, by decide +kernel, by decide +kernel⟩
abbrev s_law_plus : Stmt := topS 77
theorem sc_law_plus : FnScope ["one", "other"] ["one", "other"] (defScope s_law_plus) := ⟨rfl, rfl, rfl, by decide +kernel, rfl, by decide +kernel, by decide +kernel⟩
abbrev s_law_times : Stmt := topS 78
theorem sc_law_times : FnScope ["one", "other"] ["one", "other"] (defScope s_law_times) := ⟨rfl, rfl, rfl, by decide +kernel, rfl, by decide +kernel, by decide +kernel⟩
abbrev s_law_sum : Stmt := topS 79
theorem sc_law_sum : FnScope ["numbers", "total", "one"] ["numbers"] (defScope s_law_sum) := ⟨rfl, rfl, rfl, by decide +kernel, rfl, by decide +kernel, by decide +kernel⟩
abbrev s_law_two : Stmt := topS 80
theorem sc_law_two : FnScope ["k", "found", "turn"] ["k"] (defScope s_law_two) := ⟨rfl, rfl, rfl, by decide +kernel, rfl, by decide +kernel, by decide +kernel⟩
abbrev s_law_shares : Stmt := topS 81
theorem sc_law_shares : FnScope ["bag", "limit", "weights", "thing", "weight"] ["bag", "limit"] (defScope s_law_shares) := ⟨rfl, rfl, rfl, by decide +kernel, rfl, by decide +kernel, by decide +kernel⟩
abbrev s_law_rest : Stmt := topS 82
theorem sc_law_rest : FnScope ["number", "k", "top", "bottom"] ["number", "k"] (defScope s_law_rest) := ⟨rfl, rfl, rfl, by decide +kernel, rfl, by decide +kernel, by decide +kernel⟩
abbrev s_law_figure : Stmt := topS 83
theorem sc_law_figure : FnScope ["number", "k", "top", "bottom"] ["number", "k"] (defScope s_law_figure) := ⟨rfl, rfl, rfl, by decide +kernel, rfl, by decide +kernel, by decide +kernel⟩
abbrev s_law_cost : Stmt := topS 84
theorem sc_law_cost : FnScope ["number", "bottom", "row", "place", "back", "turn", "there", "due", "half", "at", "own"] ["number"] (defScope s_law_cost) := ⟨rfl, rfl, rfl, by decide +kernel, rfl, by decide +kernel, by decide +kernel⟩
abbrev s_law_least : Stmt := topS 85
theorem sc_law_least : FnScope ["shares", "share"] ["shares"] (defScope s_law_least) := ⟨rfl, rfl, rfl, by decide +kernel, rfl, by decide +kernel, by decide +kernel⟩
abbrev s_law_under : Stmt := topS 86
theorem sc_law_under : FnScope ["one", "other"] ["one", "other"] (defScope s_law_under) := ⟨rfl, rfl, rfl, by decide +kernel, rfl, by decide +kernel, by decide +kernel⟩
abbrev s_law_both : Stmt := topS 87
theorem sc_law_both : FnScope ["one", "other", "found", "share", "more"] ["one", "other"] (defScope s_law_both) := ⟨rfl, rfl, rfl, by decide +kernel, rfl, by decide +kernel, by decide +kernel⟩
abbrev s_law_figures_right : Stmt := topS 88
theorem sc_law_figures_right : FnScope ["bag", "number", "k", "ahead", "again", "some", "turn"] ["bag", "number"] (defScope s_law_figures_right) := ⟨rfl, rfl, rfl, by decide +kernel, rfl, by decide +kernel, by decide +kernel⟩
abbrev s_law_tails_right : Stmt := topS 89
theorem sc_law_tails_right : FnScope ["shares", "k", "due", "sure", "share"] ["shares"] (defScope s_law_tails_right) := ⟨rfl, rfl, rfl, by decide +kernel, rfl, by decide +kernel, by decide +kernel⟩
abbrev s_law_changed_right : Stmt := topS 90
theorem sc_law_changed_right : FnScope ["bag", "one", "other", "n", "things", "due", "thing", "told", "cut", "most", "pairs", "turn", "k", "part"] ["bag", "one", "other"] (defScope s_law_changed_right) := ⟨rfl, rfl, rfl, by decide +kernel, rfl, by decide +kernel, by decide +kernel⟩
abbrev s_law_rows_right : Stmt := topS 91
theorem sc_law_rows_right : FnScope ["bag", "shares", "k", "row", "turn", "less", "due", "n", "order", "orders", "thing", "of", "ways", "step"] ["bag", "shares"] (defScope s_law_rows_right) := ⟨rfl, rfl, rfl, by decide +kernel, rfl, by decide +kernel, by decide +kernel⟩
abbrev s_law_right : Stmt := topS 92
theorem sc_law_right : FnScope ["bag", "one", "other", "weights", "thing", "weight"] ["bag"] (defScope s_law_right) := ⟨rfl, rfl, rfl, by decide +kernel, rfl, by decide +kernel, by decide +kernel⟩
abbrev s_law : Stmt := topS 93
theorem sc_law : FnScope ["script", "k"] ["script"] (defScope s_law) := ⟨rfl, rfl, rfl, by decide +kernel, rfl, by decide +kernel, by decide +kernel⟩
structure Txt (K : PySem.W.Frag) (mg : Str → Option Value) where
  a_is_integer : Addr
  fd_is_integer : FuncData
  m_is_integer : mg "is_integer" = some (.ref a_is_integer)
  F_is_integer : Fun K "is_integer" "is_integer" s_is_integer a_is_integer fd_is_integer
  d_is_integer : Binds K fd_is_integer ["value"] []
  a_is_natural : Addr
  fd_is_natural : FuncData
  m_is_natural : mg "is_natural" = some (.ref a_is_natural)
  F_is_natural : Fun K "is_natural" "is_natural" s_is_natural a_is_natural fd_is_natural
  d_is_natural : Binds K fd_is_natural ["value"] []
  a_is_below : Addr
  fd_is_below : FuncData
  m_is_below : mg "is_below" = some (.ref a_is_below)
  F_is_below : Fun K "is_below" "is_below" s_is_below a_is_below fd_is_below
  d_is_below : Binds K fd_is_below ["value", "many"] []
  a_is_pair : Addr
  fd_is_pair : FuncData
  m_is_pair : mg "is_pair" = some (.ref a_is_pair)
  F_is_pair : Fun K "is_pair" "is_pair" s_is_pair a_is_pair fd_is_pair
  d_is_pair : Binds K fd_is_pair ["value"] []
  a_is_ascending : Addr
  fd_is_ascending : FuncData
  m_is_ascending : mg "is_ascending" = some (.ref a_is_ascending)
  F_is_ascending : Fun K "is_ascending" "is_ascending" s_is_ascending a_is_ascending fd_is_ascending
  d_is_ascending : Binds K fd_is_ascending ["row"] []
  a_lowest : Addr
  fd_lowest : FuncData
  m_lowest : mg "lowest" = some (.ref a_lowest)
  F_lowest : Fun K "lowest" "lowest" s_lowest a_lowest fd_lowest
  d_lowest : Binds K fd_lowest ["top", "bottom"] []
  a_is_number_of : Addr
  fd_is_number_of : FuncData
  m_is_number_of : mg "is_number_of" = some (.ref a_is_number_of)
  F_is_number_of : Fun K "is_number_of" "is_number_of" s_is_number_of a_is_number_of fd_is_number_of
  d_is_number_of : Binds K fd_is_number_of ["told"] []
  a_is_part_of_one : Addr
  fd_is_part_of_one : FuncData
  m_is_part_of_one : mg "is_part_of_one" = some (.ref a_is_part_of_one)
  F_is_part_of_one : Fun K "is_part_of_one" "is_part_of_one" s_is_part_of_one a_is_part_of_one fd_is_part_of_one
  d_is_part_of_one : Binds K fd_is_part_of_one ["told"] []
  a_whole : Addr
  fd_whole : FuncData
  m_whole : mg "whole" = some (.ref a_whole)
  F_whole : Fun K "whole" "whole" s_whole a_whole fd_whole
  d_whole : Binds K fd_whole ["a"] []
  a_sum_of_two : Addr
  fd_sum_of_two : FuncData
  m_sum_of_two : mg "sum_of_two" = some (.ref a_sum_of_two)
  F_sum_of_two : Fun K "sum_of_two" "sum_of_two" s_sum_of_two a_sum_of_two fd_sum_of_two
  d_sum_of_two : Binds K fd_sum_of_two ["a", "b"] []
  a_difference : Addr
  fd_difference : FuncData
  m_difference : mg "difference" = some (.ref a_difference)
  F_difference : Fun K "difference" "difference" s_difference a_difference fd_difference
  d_difference : Binds K fd_difference ["a", "b"] []
  a_product : Addr
  fd_product : FuncData
  m_product : mg "product" = some (.ref a_product)
  F_product : Fun K "product" "product" s_product a_product fd_product
  d_product : Binds K fd_product ["a", "b"] []
  a_quotient : Addr
  fd_quotient : FuncData
  m_quotient : mg "quotient" = some (.ref a_quotient)
  F_quotient : Fun K "quotient" "quotient" s_quotient a_quotient fd_quotient
  d_quotient : Binds K fd_quotient ["a", "b"] []
  a_is_less : Addr
  fd_is_less : FuncData
  m_is_less : mg "is_less" = some (.ref a_is_less)
  F_is_less : Fun K "is_less" "is_less" s_is_less a_is_less fd_is_less
  d_is_less : Binds K fd_is_less ["a", "b"] []
  a_sum_of_all : Addr
  fd_sum_of_all : FuncData
  m_sum_of_all : mg "sum_of_all" = some (.ref a_sum_of_all)
  F_sum_of_all : Fun K "sum_of_all" "sum_of_all" s_sum_of_all a_sum_of_all fd_sum_of_all
  d_sum_of_all : Binds K fd_sum_of_all ["numbers"] []
  a_power : Addr
  fd_power : FuncData
  m_power : mg "power" = some (.ref a_power)
  F_power : Fun K "power" "power" s_power a_power fd_power
  d_power : Binds K fd_power ["b", "n"] []
  a_by_halves : Addr
  fd_by_halves : FuncData
  m_by_halves : mg "by_halves" = some (.ref a_by_halves)
  F_by_halves : Fun K "by_halves" "by_halves" s_by_halves a_by_halves fd_by_halves
  d_by_halves : Binds K fd_by_halves ["a", "k"] []
  a_check_part : Addr
  fd_check_part : FuncData
  m_check_part : mg "check_part" = some (.ref a_check_part)
  F_check_part : Fun K "check_part" "check_part" s_check_part a_check_part fd_check_part
  d_check_part : Binds K fd_check_part ["number"] []
  a_check_natural : Addr
  fd_check_natural : FuncData
  m_check_natural : mg "check_natural" = some (.ref a_check_natural)
  F_check_natural : Fun K "check_natural" "check_natural" s_check_natural a_check_natural fd_check_natural
  d_check_natural : Binds K fd_check_natural ["k"] []
  a_rest_of : Addr
  fd_rest_of : FuncData
  m_rest_of : mg "rest_of" = some (.ref a_rest_of)
  F_rest_of : Fun K "rest_of" "rest_of" s_rest_of a_rest_of fd_rest_of
  d_rest_of : Binds K fd_rest_of ["number", "k"] []
  a_figure_of : Addr
  fd_figure_of : FuncData
  m_figure_of : mg "figure_of" = some (.ref a_figure_of)
  F_figure_of : Fun K "figure_of" "figure_of" s_figure_of a_figure_of fd_figure_of
  d_figure_of : Binds K fd_figure_of ["number", "k"] []
  a_shortest : Addr
  fd_shortest : FuncData
  m_shortest : mg "shortest" = some (.ref a_shortest)
  F_shortest : Fun K "shortest" "shortest" s_shortest a_shortest fd_shortest
  d_shortest : Binds K fd_shortest ["ahead", "again"] []
  a_figures_of : Addr
  fd_figures_of : FuncData
  m_figures_of : mg "figures_of" = some (.ref a_figures_of)
  F_figures_of : Fun K "figures_of" "figures_of" s_figures_of a_figures_of fd_figures_of
  d_figures_of : Binds K fd_figures_of ["number"] []
  a_figures : Addr
  fd_figures : FuncData
  m_figures : mg "figures" = some (.ref a_figures)
  F_figures : Fun K "figures" "figures" s_figures a_figures fd_figures
  d_figures : Binds K fd_figures ["number"] []
  a_sum_of_figures : Addr
  fd_sum_of_figures : FuncData
  m_sum_of_figures : mg "sum_of_figures" = some (.ref a_sum_of_figures)
  F_sum_of_figures : Fun K "sum_of_figures" "sum_of_figures" s_sum_of_figures a_sum_of_figures fd_sum_of_figures
  d_sum_of_figures : Binds K fd_sum_of_figures ["some", "begin"] []
  a_again_and_again : Addr
  fd_again_and_again : FuncData
  m_again_and_again : mg "again_and_again" = some (.ref a_again_and_again)
  F_again_and_again : Fun K "again_and_again" "again_and_again" s_again_and_again a_again_and_again fd_again_and_again
  d_again_and_again : Binds K fd_again_and_again ["first", "many"] []
  a_figure : Addr
  fd_figure : FuncData
  m_figure : mg "figure" = some (.ref a_figure)
  F_figure : Fun K "figure" "figure" s_figure a_figure fd_figure
  d_figure : Binds K fd_figure ["number", "k"] []
  a_cost_of : Addr
  fd_cost_of : FuncData
  m_cost_of : mg "cost_of" = some (.ref a_cost_of)
  F_cost_of : Fun K "cost_of" "cost_of" s_cost_of a_cost_of fd_cost_of
  d_cost_of : Binds K fd_cost_of ["number"] []
  a_cost : Addr
  fd_cost : FuncData
  m_cost : mg "cost" = some (.ref a_cost)
  F_cost : Fun K "cost" "cost" s_cost a_cost fd_cost
  d_cost : Binds K fd_cost ["number"] []
  a_rest : Addr
  fd_rest : FuncData
  m_rest : mg "rest" = some (.ref a_rest)
  F_rest : Fun K "rest" "rest" s_rest a_rest fd_rest
  d_rest : Binds K fd_rest ["number", "k"] []
  a_is_shares_of : Addr
  fd_is_shares_of : FuncData
  m_is_shares_of : mg "is_shares_of" = some (.ref a_is_shares_of)
  F_is_shares_of : Fun K "is_shares_of" "is_shares_of" s_is_shares_of a_is_shares_of fd_is_shares_of
  d_is_shares_of : Binds K fd_is_shares_of ["told"] []
  a_is_shares : Addr
  fd_is_shares : FuncData
  m_is_shares : mg "is_shares" = some (.ref a_is_shares)
  F_is_shares : Fun K "is_shares" "is_shares" s_is_shares a_is_shares fd_is_shares
  d_is_shares : Binds K fd_is_shares ["told"] []
  a_check_shares : Addr
  fd_check_shares : FuncData
  m_check_shares : mg "check_shares" = some (.ref a_check_shares)
  F_check_shares : Fun K "check_shares" "check_shares" s_check_shares a_check_shares fd_check_shares
  d_check_shares : Binds K fd_check_shares ["shares"] []
  a_are_things : Addr
  fd_are_things : FuncData
  m_are_things : mg "are_things" = some (.ref a_are_things)
  F_are_things : Fun K "are_things" "are_things" s_are_things a_are_things fd_are_things
  d_are_things : Binds K fd_are_things ["shares", "told"] []
  a_put_together_of : Addr
  fd_put_together_of : FuncData
  m_put_together_of : mg "put_together_of" = some (.ref a_put_together_of)
  F_put_together_of : Fun K "put_together_of" "put_together_of" s_put_together_of a_put_together_of fd_put_together_of
  d_put_together_of : Binds K fd_put_together_of ["shares", "things"] []
  a_put_together : Addr
  fd_put_together : FuncData
  m_put_together : mg "put_together" = some (.ref a_put_together)
  F_put_together : Fun K "put_together" "put_together" s_put_together a_put_together fd_put_together
  d_put_together : Binds K fd_put_together ["shares", "things"] []
  a_check_thing : Addr
  fd_check_thing : FuncData
  m_check_thing : mg "check_thing" = some (.ref a_check_thing)
  F_check_thing : Fun K "check_thing" "check_thing" s_check_thing a_check_thing fd_check_thing
  d_check_thing : Binds K fd_check_thing ["shares", "thing"] []
  a_parted : Addr
  fd_parted : FuncData
  m_parted : mg "parted" = some (.ref a_parted)
  F_parted : Fun K "parted" "parted" s_parted a_parted fd_parted
  d_parted : Binds K fd_parted ["shares", "thing", "parts"] []
  a_both_of : Addr
  fd_both_of : FuncData
  m_both_of : mg "both_of" = some (.ref a_both_of)
  F_both_of : Fun K "both_of" "both_of" s_both_of a_both_of fd_both_of
  d_both_of : Binds K fd_both_of ["one", "other"] []
  a_both : Addr
  fd_both : FuncData
  m_both : mg "both" = some (.ref a_both)
  F_both : Fun K "both" "both" s_both a_both fd_both
  d_both : Binds K fd_both ["one", "other"] []
  a_check_throws : Addr
  fd_check_throws : FuncData
  m_check_throws : mg "check_throws" = some (.ref a_check_throws)
  F_check_throws : Fun K "check_throws" "check_throws" s_check_throws a_check_throws fd_check_throws
  d_check_throws : Binds K fd_check_throws ["n"] []
  a_doublings : Addr
  fd_doublings : FuncData
  m_doublings : mg "doublings" = some (.ref a_doublings)
  F_doublings : Fun K "doublings" "doublings" s_doublings a_doublings fd_doublings
  d_doublings : Binds K fd_doublings ["bottom"] []
  a_toss_cost : Addr
  fd_toss_cost : FuncData
  m_toss_cost : mg "toss_cost" = some (.ref a_toss_cost)
  F_toss_cost : Fun K "toss_cost" "toss_cost" s_toss_cost a_toss_cost fd_toss_cost
  d_toss_cost : Binds K fd_toss_cost ["number"] []
  a_many_of : Addr
  fd_many_of : FuncData
  m_many_of : mg "many_of" = some (.ref a_many_of)
  F_many_of : Fun K "many_of" "many_of" s_many_of a_many_of fd_many_of
  d_many_of : Binds K fd_many_of ["shares", "k"] []
  a_many : Addr
  fd_many : FuncData
  m_many : mg "many" = some (.ref a_many)
  F_many : Fun K "many" "many" s_many a_many fd_many
  d_many : Binds K fd_many ["shares", "k"] []
  a_even_of : Addr
  fd_even_of : FuncData
  m_even_of : mg "even_of" = some (.ref a_even_of)
  F_even_of : Fun K "even_of" "even_of" s_even_of a_even_of fd_even_of
  d_even_of : Binds K fd_even_of ["n"] []
  a_even_mean : Addr
  fd_even_mean : FuncData
  m_even_mean : mg "even_mean" = some (.ref a_even_mean)
  F_even_mean : Fun K "even_mean" "even_mean" s_even_mean a_even_mean fd_even_mean
  d_even_mean : Binds K fd_even_mean ["n"] []
  a_shuffle_mean : Addr
  fd_shuffle_mean : FuncData
  m_shuffle_mean : mg "shuffle_mean" = some (.ref a_shuffle_mean)
  F_shuffle_mean : Fun K "shuffle_mean" "shuffle_mean" s_shuffle_mean a_shuffle_mean fd_shuffle_mean
  d_shuffle_mean : Binds K fd_shuffle_mean ["n"] []
  a_lot_mean : Addr
  fd_lot_mean : FuncData
  m_lot_mean : mg "lot_mean" = some (.ref a_lot_mean)
  F_lot_mean : Fun K "lot_mean" "lot_mean" s_lot_mean a_lot_mean fd_lot_mean
  d_lot_mean : Binds K fd_lot_mean ["n", "k"] []
  a_least_mean_of : Addr
  fd_least_mean_of : FuncData
  m_least_mean_of : mg "least_mean_of" = some (.ref a_least_mean_of)
  F_least_mean_of : Fun K "least_mean_of" "least_mean_of" s_least_mean_of a_least_mean_of fd_least_mean_of
  d_least_mean_of : Binds K fd_least_mean_of ["shares"] []
  a_least_mean : Addr
  fd_least_mean : FuncData
  m_least_mean : mg "least_mean" = some (.ref a_least_mean)
  F_least_mean : Fun K "least_mean" "least_mean" s_least_mean a_least_mean fd_least_mean
  d_least_mean : Binds K fd_least_mean ["shares"] []
  a_mean_of_shares : Addr
  fd_mean_of_shares : FuncData
  m_mean_of_shares : mg "mean_of_shares" = some (.ref a_mean_of_shares)
  F_mean_of_shares : Fun K "mean_of_shares" "mean_of_shares" s_mean_of_shares a_mean_of_shares fd_mean_of_shares
  d_mean_of_shares : Binds K fd_mean_of_shares ["shares"] []
  a_saved : Addr
  fd_saved : FuncData
  m_saved : mg "saved" = some (.ref a_saved)
  F_saved : Fun K "saved" "saved" s_saved a_saved fd_saved
  d_saved : Binds K fd_saved ["shares", "k"] []
  a_least_tail_of : Addr
  fd_least_tail_of : FuncData
  m_least_tail_of : mg "least_tail_of" = some (.ref a_least_tail_of)
  F_least_tail_of : Fun K "least_tail_of" "least_tail_of" s_least_tail_of a_least_tail_of fd_least_tail_of
  d_least_tail_of : Binds K fd_least_tail_of ["shares", "k"] []
  a_least_tail : Addr
  fd_least_tail : FuncData
  m_least_tail : mg "least_tail" = some (.ref a_least_tail)
  F_least_tail : Fun K "least_tail" "least_tail" s_least_tail a_least_tail fd_least_tail
  d_least_tail : Binds K fd_least_tail ["shares", "k"] []
  a_halvings : Addr
  fd_halvings : FuncData
  m_halvings : mg "halvings" = some (.ref a_halvings)
  F_halvings : Fun K "halvings" "halvings" s_halvings a_halvings fd_halvings
  d_halvings : Binds K fd_halvings ["bottom"] []
  a_surely : Addr
  fd_surely : FuncData
  m_surely : mg "surely" = some (.ref a_surely)
  F_surely : Fun K "surely" "surely" s_surely a_surely fd_surely
  d_surely : Binds K fd_surely ["shares"] []
  a_within : Addr
  fd_within : FuncData
  m_within : mg "within" = some (.ref a_within)
  F_within : Fun K "within" "within" s_within a_within fd_within
  d_within : Binds K fd_within ["shares", "far"] []
  a_law_bag : Addr
  fd_law_bag : FuncData
  m_law_bag : mg "_law_bag" = some (.ref a_law_bag)
  F_law_bag : Fun K "_law_bag" "_law_bag" s_law_bag a_law_bag fd_law_bag
  d_law_bag : Binds K fd_law_bag ["script", "k"] []
  a_law_take : Addr
  fd_law_take : FuncData
  m_law_take : mg "_law_take" = some (.ref a_law_take)
  F_law_take : Fun K "_law_take" "_law_take" s_law_take a_law_take fd_law_take
  d_law_take : Binds K fd_law_take ["bag", "below"] []
  a_law_low : Addr
  fd_law_low : FuncData
  m_law_low : mg "_law_low" = some (.ref a_law_low)
  F_law_low : Fun K "_law_low" "_law_low" s_law_low a_law_low fd_law_low
  d_law_low : Binds K fd_law_low ["top", "bottom"] []
  a_law_plus : Addr
  fd_law_plus : FuncData
  m_law_plus : mg "_law_plus" = some (.ref a_law_plus)
  F_law_plus : Fun K "_law_plus" "_law_plus" s_law_plus a_law_plus fd_law_plus
  d_law_plus : Binds K fd_law_plus ["one", "other"] []
  a_law_times : Addr
  fd_law_times : FuncData
  m_law_times : mg "_law_times" = some (.ref a_law_times)
  F_law_times : Fun K "_law_times" "_law_times" s_law_times a_law_times fd_law_times
  d_law_times : Binds K fd_law_times ["one", "other"] []
  a_law_sum : Addr
  fd_law_sum : FuncData
  m_law_sum : mg "_law_sum" = some (.ref a_law_sum)
  F_law_sum : Fun K "_law_sum" "_law_sum" s_law_sum a_law_sum fd_law_sum
  d_law_sum : Binds K fd_law_sum ["numbers"] []
  a_law_two : Addr
  fd_law_two : FuncData
  m_law_two : mg "_law_two" = some (.ref a_law_two)
  F_law_two : Fun K "_law_two" "_law_two" s_law_two a_law_two fd_law_two
  d_law_two : Binds K fd_law_two ["k"] []
  a_law_shares : Addr
  fd_law_shares : FuncData
  m_law_shares : mg "_law_shares" = some (.ref a_law_shares)
  F_law_shares : Fun K "_law_shares" "_law_shares" s_law_shares a_law_shares fd_law_shares
  d_law_shares : Binds K fd_law_shares ["bag", "limit"] []
  a_law_rest : Addr
  fd_law_rest : FuncData
  m_law_rest : mg "_law_rest" = some (.ref a_law_rest)
  F_law_rest : Fun K "_law_rest" "_law_rest" s_law_rest a_law_rest fd_law_rest
  d_law_rest : Binds K fd_law_rest ["number", "k"] []
  a_law_figure : Addr
  fd_law_figure : FuncData
  m_law_figure : mg "_law_figure" = some (.ref a_law_figure)
  F_law_figure : Fun K "_law_figure" "_law_figure" s_law_figure a_law_figure fd_law_figure
  d_law_figure : Binds K fd_law_figure ["number", "k"] []
  a_law_cost : Addr
  fd_law_cost : FuncData
  m_law_cost : mg "_law_cost" = some (.ref a_law_cost)
  F_law_cost : Fun K "_law_cost" "_law_cost" s_law_cost a_law_cost fd_law_cost
  d_law_cost : Binds K fd_law_cost ["number"] []
  a_law_least : Addr
  fd_law_least : FuncData
  m_law_least : mg "_law_least" = some (.ref a_law_least)
  F_law_least : Fun K "_law_least" "_law_least" s_law_least a_law_least fd_law_least
  d_law_least : Binds K fd_law_least ["shares"] []
  a_law_under : Addr
  fd_law_under : FuncData
  m_law_under : mg "_law_under" = some (.ref a_law_under)
  F_law_under : Fun K "_law_under" "_law_under" s_law_under a_law_under fd_law_under
  d_law_under : Binds K fd_law_under ["one", "other"] []
  a_law_both : Addr
  fd_law_both : FuncData
  m_law_both : mg "_law_both" = some (.ref a_law_both)
  F_law_both : Fun K "_law_both" "_law_both" s_law_both a_law_both fd_law_both
  d_law_both : Binds K fd_law_both ["one", "other"] []
  a_law_figures_right : Addr
  fd_law_figures_right : FuncData
  m_law_figures_right : mg "_law_figures_right" = some (.ref a_law_figures_right)
  F_law_figures_right : Fun K "_law_figures_right" "_law_figures_right" s_law_figures_right a_law_figures_right fd_law_figures_right
  d_law_figures_right : Binds K fd_law_figures_right ["bag", "number"] []
  a_law_tails_right : Addr
  fd_law_tails_right : FuncData
  m_law_tails_right : mg "_law_tails_right" = some (.ref a_law_tails_right)
  F_law_tails_right : Fun K "_law_tails_right" "_law_tails_right" s_law_tails_right a_law_tails_right fd_law_tails_right
  d_law_tails_right : Binds K fd_law_tails_right ["shares"] []
  a_law_changed_right : Addr
  fd_law_changed_right : FuncData
  m_law_changed_right : mg "_law_changed_right" = some (.ref a_law_changed_right)
  F_law_changed_right : Fun K "_law_changed_right" "_law_changed_right" s_law_changed_right a_law_changed_right fd_law_changed_right
  d_law_changed_right : Binds K fd_law_changed_right ["bag", "one", "other"] []
  a_law_rows_right : Addr
  fd_law_rows_right : FuncData
  m_law_rows_right : mg "_law_rows_right" = some (.ref a_law_rows_right)
  F_law_rows_right : Fun K "_law_rows_right" "_law_rows_right" s_law_rows_right a_law_rows_right fd_law_rows_right
  d_law_rows_right : Binds K fd_law_rows_right ["bag", "shares"] []
  a_law_right : Addr
  fd_law_right : FuncData
  m_law_right : mg "_law_right" = some (.ref a_law_right)
  F_law_right : Fun K "_law_right" "_law_right" s_law_right a_law_right fd_law_right
  d_law_right : Binds K fd_law_right ["bag"] []
  a_law : Addr
  fd_law : FuncData
  m_law : mg "law" = some (.ref a_law)
  F_law : Fun K "law" "law" s_law a_law fd_law
  d_law : Binds K fd_law ["script"] []
  b_abs : mg "abs" = none
  b_all : mg "all" = none
  b_bool : mg "bool" = none
  b_enumerate : mg "enumerate" = none
  b_int : mg "int" = none
  b_isinstance : mg "isinstance" = none
  b_len : mg "len" = none
  b_list : mg "list" = none
  b_max : mg "max" = none
  b_min : mg "min" = none
  b_range : mg "range" = none
  b_set : mg "set" = none
  b_sorted : mg "sorted" = none
  b_sum : mg "sum" = none
  b_tuple : mg "tuple" = none
  z_ONE : Addr
  m_ONE : mg "ONE" = some (.ref z_ONE)
  v_ONE : ∀ H, DV K H (.tup [.int 1, .int 1]) (.ref z_ONE)
  z_ZERO : Addr
  m_ZERO : mg "ZERO" = some (.ref z_ZERO)
  v_ZERO : ∀ H, DV K H (.tup [.int 0, .int 1]) (.ref z_ZERO)
  i_comb : mg "comb" = some (.builtin "math.comb")
  i_factorial : mg "factorial" = some (.builtin "math.factorial")
  i_gcd : mg "gcd" = some (.builtin "math.gcd")
end K53
set_option Elab.async false
set_option linter.all false
set_option maxRecDepth 100000
set_option maxHeartbeats 4000000
namespace K53
open PySem PySem.Spec PyProof.Rows L2 DL
local macro_rules | `(tactic| walk_at "w") => `(tactic| conv => whnf)
local macro_rules | `(tactic| walk_at "g") => `(tactic| ((conv => whnf); repeat' (first | (refine IFB.t ?_ ?_; rfl; conv => whnf) | (refine IFB.f ?_ ?_; rfl; conv => whnf))))
set_option exponentiation.threshold 9000

theorem ov_rb2 {N : Int} (h : 0 < N) {n : Nat} (hn : N.natAbs < 2 ^ n) {q : Rat} (o : Ov N q) (h0 : 0 ≤ q) (h1 : q ≤ 1048576) : RB (n + 20) q := by
  obtain ⟨k, rfl⟩ := o
  have hp := ratPos h
  have e : ((k : Rat) / (N : Rat)) * (N : Rat) = (k : Rat) := by
    have := ratNe h
    grind
  have k0 : 0 ≤ k := by
    have : (0 : Rat) ≤ (k : Rat) := by rw [← e]; exact Rat.mul_nonneg h0 (Rat.le_of_lt hp)
    exact Rat.intCast_le_intCast.mp (by simpa using this)
  have k1 : k ≤ 1048576 * N := by
    have : (k : Rat) ≤ ((1048576 * N : Int) : Rat) := by
      rw [← e, Rat.intCast_mul]
      exact Rat.mul_le_mul_of_nonneg_right h1 (Rat.le_of_lt hp)
    exact Rat.intCast_le_intCast.mp this
  have e2 : 2 ^ (n + 20) = 2 ^ n * 1048576 := by rw [Nat.pow_add]
  exact rb_div h (by omega) (by omega)

def sp_is_integer : DSp := fun ds S Q _ => ∃ i, ds = [.int i] ∧ Q (.bl true) S
def sp_is_natural : DSp := fun ds S Q _ => ∃ i, ds = [.int i] ∧ Q (.bl (decide (0 ≤ i))) S
def sp_is_below : DSp := fun ds S Q _ => ∃ i m, ds = [.int i, .int m] ∧ 0 ≤ i ∧ Q (.bl (decide (i < m))) S
def sp_is_pair : DSp := fun ds S Q _ => ∃ x y, ds = [.tup [x, y]] ∧ Q (.bl true) S
def sp_lowest : DSp := fun ds S Q _ => ∃ t b : Int, ds = [.int t, .int b] ∧ 0 < b ∧ b.natAbs < 2 ^ 8000 ∧ Q (fr ((t : Rat) / (b : Rat))) S
def sp_is_number_of : DSp := fun ds S Q _ => ∃ q, ds = [fr q] ∧ RB 4000 q ∧ Q (.bl true) S
def sp_sum_of_two : DSp := fun ds S Q _ => ∃ a b, ds = [fr a, fr b] ∧ RB 3000 a ∧ RB 3000 b ∧ Q (fr (a + b)) S
def sp_product : DSp := fun ds S Q _ => ∃ a b, ds = [fr a, fr b] ∧ RB 3000 a ∧ RB 3000 b ∧ Q (fr (a * b)) S
def sp_sum_of_all : DSp := fun ds S Q _ => (∃ d qs N, ds = [d] ∧ (d = shD qs ∨ RdL S d (qs.map fr)) ∧ 0 < N ∧ N.natAbs < 2 ^ 1000 ∧ (∀ q ∈ qs, 0 ≤ q ∧ Ov N q) ∧ qs.sum ≤ 1048576 ∧ Q (fr qs.sum) S) ∨ ∃ (p : Addr) (qs : List Rat), ds = [.ref p] ∧ S p = some (.lst (qs.map fr)) ∧ (∀ q ∈ qs, RB 3000 q) ∧ (∀ i, RB 3000 (qs.take i).sum) ∧ Q (fr qs.sum) S
def sp_is_shares_of : DSp := fun ds S Q _ => ∃ qs N, ds = [shD qs] ∧ Sh N qs ∧ N.natAbs < 2 ^ 1000 ∧ qs.length < 100000 ∧ Q (.bl true) S
def sp_is_shares : DSp := sp_is_shares_of
def sp_check_shares : DSp := fun ds S Q _ => ∃ qs N, ds = [shD qs] ∧ Sh N qs ∧ N.natAbs < 2 ^ 1000 ∧ qs.length < 100000 ∧ Q .non S
def ltN (n : Nat) : D → D
  | .int i => .bl (decide (i < (n : Int)))
  | d => d
def ascD (ts : List Nat) : Bool := ((List.range (ts.length - 1)).map fun i => decide (ts[i]?.getD 0 < ts[i + 1]?.getD 0)).all id
def sp_is_ascending : DSp := fun ds S Q _ => ∃ ts : List Nat, ds = [nts ts] ∧ ts ≠ [] ∧ ts.length < 100000 ∧ Q (.bl (ascD ts)) S
def sp_are_things : DSp := fun ds S Q _ => ∃ qs ts, ds = [shD qs, nts ts] ∧ ts ≠ [] ∧ ts.length < 100000 ∧ Q (.bl ((ts.map fun t => decide (t < qs.length)).all id && ascD ts)) S
def sp_put_together_of : DSp := fun ds S Q _ => ∃ N ps, ds = [shD (ps.map (·.1)), nts (idx 0 ps)] ∧ Sh N (ps.map (·.1)) ∧ N.natAbs < 2 ^ 1000 ∧ ps.any (·.2) = true ∧ ps.length < 100000 ∧ Q (shD (tog (sel ps).sum ps)) S
theorem ascD_true {ts : List Nat} (h : ts.Pairwise (· < ·)) : ascD ts = true := by
  unfold ascD
  rw [List.all_map, List.all_eq_true]
  intro i hi
  have hi := List.mem_range.mp hi
  have h1 : i < ts.length := by omega
  have h2 : i + 1 < ts.length := by omega
  show decide _ = true
  rw [List.getElem?_eq_getElem h1, List.getElem?_eq_getElem h2]
  exact decide_eq_true (List.pairwise_iff_getElem.mp h i (i + 1) h1 h2 (by omega))
def sp_check_thing : DSp := fun ds S Q _ => ∃ qs t, ds = [shD qs, .int t] ∧ 0 ≤ t ∧ t < qs.length ∧ Q .non S
def sp_parted : DSp := fun ds S Q _ => ∃ qs bs N M, ∃ t : Nat, ds = [shD qs, .int (t : Int), shD bs] ∧ Sh N qs ∧ Sh M bs ∧ N.natAbs < 2 ^ 1000 ∧ M.natAbs < 2 ^ 1000 ∧ qs.length < 10000 ∧ bs.length < 10000 ∧ t < qs.length ∧
  Q (shD (qs.take t ++ bs.map (qs[t]?.getD 0 * ·) ++ qs.drop (t + 1))) S
def sp_both_of : DSp := fun ds S Q _ => ∃ as bs N M, ds = [shD as, shD bs] ∧ Sh N as ∧ Sh M bs ∧ N.natAbs < 2 ^ 1000 ∧ M.natAbs < 2 ^ 1000 ∧ as.length < 1000 ∧ bs.length < 1000 ∧ Q (shD (prods as bs)) S
def sp_both : DSp := sp_both_of

def restQ (q : Rat) (k : Nat) : Rat := (((q.num * 2 ^ k) % (q.den : Int) : Int) : Rat) / ((q.den : Int) : Rat)
def tailQ (qs : List Rat) (k : Nat) : Rat := (qs.map (restQ · k)).sum / ((2 ^ k : Int) : Rat)
theorem pow2_abs (k : Nat) : ((2 : Int) ^ k).natAbs = 2 ^ k := by rw [Int.natAbs_pow]; rfl
theorem pow2_lt (k : Nat) : ((2 : Int) ^ k).natAbs < 2 ^ (k + 1) := by rw [pow2_abs]; exact Nat.pow_lt_pow_right (by decide) (by omega)
theorem pow2_pos (k : Nat) : 0 < (2 : Int) ^ k := Int.pow_pos (by decide)
theorem ratDiv (q : Rat) : q = (q.num : Rat) / ((q.den : Int) : Rat) := (Rat.num_divInt_den q).symm.trans (Rat.divInt_eq_div _ _)
theorem restQ_eq (q : Rat) (k : Nat) : restQ q k = q * ((2 ^ k : Int) : Rat) - ((q.num * 2 ^ k / (q.den : Int) : Int) : Rat) := by
  have hd := ratNe (den_pos' q)
  have e := Int.emod_add_mul_ediv (q.num * 2 ^ k) (q.den : Int)
  have e2 : ((q.num * 2 ^ k : Int) : Rat) = (((q.num * 2 ^ k) % (q.den : Int) : Int) : Rat) + ((q.den : Int) : Rat) * ((q.num * 2 ^ k / (q.den : Int) : Int) : Rat) := by
    rw [← Rat.intCast_mul, ← Rat.intCast_add, e]
  have e3 : q * ((2 ^ k : Int) : Rat) = ((q.num * 2 ^ k : Int) : Rat) / ((q.den : Int) : Rat) := by
    conv => lhs; rw [ratDiv q]
    rw [Rat.intCast_mul]
    grind
  unfold restQ
  rw [e3, e2]
  grind
theorem restQ_nn (q : Rat) (k : Nat) : 0 ≤ restQ q k := by
  unfold restQ
  have h1 : 0 ≤ (q.num * 2 ^ k) % (q.den : Int) := Int.emod_nonneg _ (by have := den_pos' q; omega)
  have h2 := ratPos (den_pos' q)
  rw [Rat.div_def]
  exact Rat.mul_nonneg (by have := Rat.intCast_le_intCast.mpr h1; simpa using this) (Rat.le_of_lt (Rat.inv_pos.mpr h2))
theorem div_le_one {a b : Int} (hb : 0 < b) (h : a ≤ b) : (a : Rat) / (b : Rat) ≤ 1 := by
  have h2 := ratPos hb
  have h3 := ratNe hb
  have h4 := Rat.intCast_le_intCast.mpr h
  have e : ((a : Rat) / (b : Rat)) * (b : Rat) = (a : Rat) := by grind
  refine Rat.not_lt.mp fun z => ?_
  have := Rat.mul_lt_mul_of_pos_right z h2
  rw [e, Rat.one_mul] at this
  exact absurd h4 (Rat.not_le.mpr this)
theorem restQ_le (q : Rat) (k : Nat) : restQ q k ≤ 1 := div_le_one (den_pos' q) (Int.le_of_lt (Int.emod_lt_of_pos _ (den_pos' q)))
theorem ov_int {N : Int} (h : 0 < N) (z : Int) : Ov N (z : Rat) := ⟨z * N, by have := ratNe h; rw [Rat.intCast_mul]; grind⟩
theorem ov_mulI {N : Int} (h : 0 < N) {q : Rat} (o : Ov N q) (z : Int) : Ov N (q * (z : Rat)) := by
  obtain ⟨k, rfl⟩ := o
  exact ⟨k * z, by have := ratNe h; rw [Rat.intCast_mul]; grind⟩
theorem ov_sub {N : Int} (h : 0 < N) {a b : Rat} (ha : Ov N a) (hb : Ov N b) : Ov N (a - b) := by
  obtain ⟨k, rfl⟩ := ha
  obtain ⟨l, rfl⟩ := hb
  refine ⟨k - l, ?_⟩
  rw [Rat.intCast_sub]
  have := ratNe h
  grind
theorem ov_rest {N : Int} (h : 0 < N) {q : Rat} (o : Ov N q) (k : Nat) : Ov N (restQ q k) := by
  rw [restQ_eq]
  exact ov_sub h (ov_mulI h o _) (ov_int h _)
theorem rests_sum (k : Nat) : ∀ qs : List Rat, (qs.map (restQ · k)).sum ≤ (qs.length : Rat)
  | [] => by simp
  | q :: qs => by
    have h1 := rests_sum k qs
    have h2 := restQ_le q k
    rw [List.map_cons, List.sum_cons, List.length_cons]
    have e : ((qs.length + 1 : Nat) : Rat) = (qs.length : Rat) + 1 := by simp
    rw [e]
    grind
theorem rests_nn (k : Nat) {qs : List Rat} : 0 ≤ (qs.map (restQ · k)).sum := sum_nonneg fun q hq => by
  obtain ⟨x, _, rfl⟩ := List.mem_map.mp hq
  exact restQ_nn x k
theorem natR_le {n m : Nat} (h : n ≤ m) : (n : Rat) ≤ (m : Rat) := by
  have := Rat.intCast_le_intCast.mpr (Int.ofNat_le.mpr h)
  exact_mod_cast this
theorem rests_le {qs : List Rat} (h : qs.length ≤ 100000) (k : Nat) : (qs.map (restQ · k)).sum ≤ 1048576 :=
  Rat.le_trans (rests_sum k qs) (Rat.le_trans (natR_le h) (by decide +kernel))
theorem rests_rb {N : Int} (h : 0 < N) {n : Nat} (hn : N.natAbs < 2 ^ n) {qs : List Rat} (o : ∀ q ∈ qs, Ov N q) (hl : qs.length ≤ 100000) (k : Nat) : RB (n + 20) ((qs.map (restQ · k)).sum) :=
  ov_rb2 h hn (ov_sum h fun q hq => by obtain ⟨x, hx, rfl⟩ := List.mem_map.mp hq; exact ov_rest h (o x hx) k) (rests_nn k) (rests_le hl k)
theorem half_eq (a : Rat) (k : Nat) : ((a.num : Int) : Rat) / (((a.den : Int) * 2 ^ k : Int) : Rat) = a / ((2 ^ k : Int) : Rat) := by
  have h1 := ratNe (den_pos' a)
  have h2 := ratNe (pow2_pos k)
  conv => rhs; rw [ratDiv a]
  rw [Rat.intCast_mul]
  grind
def restD (k : Nat) : D → D
  | .tup [.int t, .int b] => fr (((t * 2 ^ k % b : Int) : Rat) / (b : Rat))
  | d => d
theorem restD_fr (k : Nat) (q : Rat) : restD k (fr q) = fr (restQ q k) := rfl
theorem rests_D (k : Nat) (qs : List Rat) : (qs.map fr).map (restD k) = (qs.map (restQ · k)).map fr := by
  rw [List.map_map, List.map_map]; rfl
def sp_is_row_or_list : DSp := fun ds S Q _ => ∃ (p : Addr) (xs : List D), ds = [.ref p] ∧ S p = some (.lst xs) ∧ Q (.bl true) S
def sp_is_less : DSp := fun ds S Q _ => ∃ a b, ds = [fr a, fr b] ∧ RB 3000 a ∧ RB 3000 b ∧ Q (.bl (decide (a < b))) S
def sp_power : DSp := fun ds S Q _ => ∃ k : Nat, ds = [.int 2, .int (k : Int)] ∧ k ≤ 2000 ∧ Q (.int (2 ^ k)) S
def sp_by_halves : DSp := fun ds S Q _ => ∃ (a : Rat) (k : Nat), ds = [fr a, .int (k : Int)] ∧ RB 3000 a ∧ k ≤ 2000 ∧ Q (fr (a / ((2 ^ k : Int) : Rat))) S
def sp_rest_of : DSp := fun ds S Q _ => ∃ (q : Rat) (k : Nat), ds = [fr q, .int (k : Int)] ∧ RB 3000 q ∧ k ≤ 2000 ∧ Q (fr (restQ q k)) S
theorem lt_rat (a b : Rat) : (a.num * (b.den : Int) < b.num * (a.den : Int)) ↔ a < b := by
  rw [Rat.lt_iff]

def sp_whole : DSp := fun ds S Q _ => ∃ i : Int, ds = [.int i] ∧ Q (fr (i : Rat)) S
def sp_quotient : DSp := fun ds S Q _ => ∃ a b, ds = [fr a, fr b] ∧ RB 3000 a ∧ RB 3000 b ∧ 0 < b ∧ Q (fr (a / b)) S
structure Uq (u : Rat) : Prop where
  nn : 0 ≤ u
  le : u ≤ 1
  den : u.den ≤ 512 ∨ u.den = 729
theorem Uq.dle {u : Rat} (h : Uq u) : u.den ≤ 729 := by have := h.den; omega
theorem num_nn {q : Rat} (h : 0 ≤ q) : 0 ≤ q.num := Rat.num_nonneg.mpr h
theorem num_le {q : Rat} (h : q ≤ 1) : q.num ≤ (q.den : Int) := by
  have := Rat.le_iff (a := q) (b := 1)
  have h2 := this.mp h
  simpa using h2
theorem Uq.rb {u : Rat} (h : Uq u) : RB 10 u := by
  have h1 := num_nn h.nn
  have h2 := num_le h.le
  have h3 := h.den
  exact ⟨by show _ < 1024; omega, by show _ < 1024; omega⟩
def sp_is_part_of_one : DSp := fun ds S Q _ => ∃ u, ds = [fr u] ∧ Uq u ∧ Q (.bl true) S
def sp_check_part : DSp := fun ds S Q _ => ∃ u, ds = [fr u] ∧ Uq u ∧ Q .non S
def figI (u : Rat) (k : Nat) : Int := u.num * 2 ^ k / (u.den : Int) % 2
def sp_figure_of : DSp := fun ds S Q _ => ∃ (u : Rat) (k : Nat), ds = [fr u, .int (k : Int)] ∧ Uq u ∧ k ≤ 2000 ∧ Q (.int (figI u k)) S
theorem quo_eq {a b : Rat} (hb : 0 < b) : (((a.num * (b.den : Int) : Int) : Rat) / (((a.den : Int) * b.num : Int) : Rat)) = a / b := by
  have e := num_div_den' a
  have hd := ratNe (den_pos' a)
  have e2 := num_div_den' b
  have hd2 := ratNe (den_pos' b)
  have hn := ratNe (num_pos' hb)
  rw [Rat.intCast_mul, Rat.intCast_mul]
  generalize ((a.num : Int) : Rat) = n at *
  generalize ((a.den : Int) : Rat) = d at *
  generalize ((b.num : Int) : Rat) = n2 at *
  generalize ((b.den : Int) : Rat) = d2 at *
  subst e e2
  grind

def sp_put_together : DSp := sp_put_together_of
def sp_check_natural : DSp := fun ds S Q _ => ∃ k : Int, ds = [.int k] ∧ 0 ≤ k ∧ Q .non S
def sp_difference : DSp := fun ds S Q _ => ∃ a b, ds = [fr a, fr b] ∧ RB 3000 a ∧ RB 3000 b ∧ Q (fr (a - b)) S
theorem sub_fr (a b : Rat) : (((a.num * (b.den : Int) - b.num * (a.den : Int) : Int) : Rat) / (((a.den : Int) * (b.den : Int) : Int) : Rat)) = a - b := by
  have ha := num_div_den' a
  have hb := num_div_den' b
  have da := ratNe (den_pos' a)
  have db := ratNe (den_pos' b)
  rw [Rat.intCast_sub, Rat.intCast_mul, Rat.intCast_mul, Rat.intCast_mul]
  generalize ((a.num : Int) : Rat) = x at *
  generalize ((b.num : Int) : Rat) = y at *
  generalize ((a.den : Int) : Rat) = u at *
  generalize ((b.den : Int) : Rat) = v at *
  subst ha hb
  grind
theorem ok_is_integer {P : Program} {w : World} {K : PySem.W.Frag} {mg : Str → Option Value} {base : Heap} (T : Txt K mg) : FnOk P w K mg base (L2.CX P w) 1 T.a_is_integer T.fd_is_integer ["value"] (toSp K sp_is_integer) := by
  refine fnD T.F_is_integer sc_is_integer (fun ds S Q E h => ?_) (fun cdv A outer s H E RX hr => ⟨_, (pds_one (pd_ret (pd_and (pd_isi1 .int (pd_var 0) T.b_isinstance T.b_int) (pd_one (pd_not (pd_isi1 .bool (pd_var 0) T.b_isinstance T.b_bool)))))), fun ds S Q h => ?_⟩)
  · obtain ⟨_, rfl, _⟩ := h
    rfl
  · obtain ⟨i, rfl, h⟩ := h
    walk_at "g"
    exact h

theorem ok_is_natural {P : Program} {w : World} {K : PySem.W.Frag} {mg : Str → Option Value} {base : Heap} (T : Txt K mg) : FnOk P w K mg base (L2.CX P w) 2 T.a_is_natural T.fd_is_natural ["value"] (toSp K sp_is_natural) := by
  refine fnD T.F_is_natural sc_is_natural (fun ds S Q E h => ?_) (fun cdv A outer s H E RX hr => ⟨_, (pds_one (pd_ret (pd_and (pd_call (takes_of rfl rfl rfl rfl) (ok_is_integer T) (hr.mono (by decide)) T.m_is_integer T.F_is_integer.kp T.d_is_integer (pda_cons (pd_var 0) pda_nil)) (pd_one (pd_cmp od_ge (pd_var 0) pd_int))))), fun ds S Q h => ?_⟩)
  · obtain ⟨_, rfl, _⟩ := h
    rfl
  · obtain ⟨i, rfl, h⟩ := h
    walk_at "g"
    refine ⟨i, rfl, ?_⟩
    walk_at "g"
    exact h

theorem ok_is_below {P : Program} {w : World} {K : PySem.W.Frag} {mg : Str → Option Value} {base : Heap} (T : Txt K mg) : FnOk P w K mg base (L2.CX P w) 3 T.a_is_below T.fd_is_below ["value", "many"] (toSp K sp_is_below) := by
  refine fnD T.F_is_below sc_is_below (fun ds S Q E h => ?_) (fun cdv A outer s H E RX hr => ⟨_, (pds_one (pd_ret (pd_and (pd_call (takes_of rfl rfl rfl rfl) (ok_is_natural T) (hr.mono (by decide)) T.m_is_natural T.F_is_natural.kp T.d_is_natural (pda_cons (pd_var 0) pda_nil)) (pd_one (pd_cmp od_lt (pd_var 0) (pd_var 1)))))), fun ds S Q h => ?_⟩)
  · obtain ⟨_, _, rfl, _⟩ := h
    rfl
  · obtain ⟨i, m, rfl, h0, h⟩ := h
    walk_at "g"
    refine ⟨i, rfl, ?_⟩
    walk_at "w"
    refine IFB.t (decide_eq_true h0) ?_
    walk_at "w"
    exact h

theorem ok_is_pair {P : Program} {w : World} {K : PySem.W.Frag} {mg : Str → Option Value} {base : Heap} (T : Txt K mg) : FnOk P w K mg base (L2.CX P w) 1 T.a_is_pair T.fd_is_pair ["value"] (toSp K sp_is_pair) := by
  refine fnD T.F_is_pair sc_is_pair (fun ds S Q E h => ?_) (fun cdv A outer s H E RX hr => ⟨_, (pds_one (pd_ret (pd_and (pd_isi1 .tup (pd_var 0) T.b_isinstance T.b_tuple) (pd_one (pd_cmp (od_eq hr.units) (pd_blt cd_len T.b_len (by decide +kernel) (pda_cons (pd_var 0) pda_nil)) pd_int))))), fun ds S Q h => ?_⟩)
  · obtain ⟨_, _, rfl, _⟩ := h
    rfl
  · obtain ⟨x, y, rfl, h⟩ := h
    walk_at "g"
    exact h

theorem ok_lowest {P : Program} {w : World} {K : PySem.W.Frag} {mg : Str → Option Value} {base : Heap} (T : Txt K mg) : FnOk P w K mg base (L2.CX P w) 1 T.a_lowest T.fd_lowest ["top", "bottom"] (toSp K sp_lowest) := by
  refine fnD T.F_lowest sc_lowest (fun ds S Q E h => ?_) (fun cdv A outer s H E RX hr => ⟨_, (pds_cons (pd_set 2 sc_lowest.nd (pd_bltFun cd_gcd T.i_gcd (pda_cons (pd_var 0) (pda_cons (pd_var 1) pda_nil))))
    (pds_cons (pd_ifS (pdt_cmp od_lt (pd_var 1) pd_int) (pds_one (pd_set 2 sc_lowest.nd (pd_neg (pd_var 2)))) pds_nil)
    (pds_one (pd_ret (pd_tup (pda_cons (pd_bin od_fdiv (pd_var 0) (pd_var 2)) (pda_cons (pd_bin od_fdiv (pd_var 1) (pd_var 2)) pda_nil))))))), fun ds S Q h => ?_⟩)
  · obtain ⟨_, _, rfl, _⟩ := h
    rfl
  · obtain ⟨t, b, rfl, h0, hb, h⟩ := h
    walk_at "w"
    refine IFB.f (decide_eq_false (by omega)) ?_
    walk_at "w"
    refine ⟨gcd_w h0 hb (by decide) (by decide) _, ?_⟩
    walk_at "w"
    refine ⟨gcd_w h0 hb (by decide) (by decide) _, ?_⟩
    walk_at "w"
    rw [low_fr h0]
    exact h

theorem ok_is_number_of {P : Program} {w : World} {K : PySem.W.Frag} {mg : Str → Option Value} {base : Heap} (T : Txt K mg) : FnOk P w K mg base (L2.CX P w) 2 T.a_is_number_of T.fd_is_number_of ["told"] (toSp K sp_is_number_of) := by
  refine fnD T.F_is_number_of sc_is_number_of (fun ds S Q E h => ?_) (fun cdv A outer s H E RX hr => ⟨_, (pds_cons (pd_ifS (PDW.pt (pdw_or (pdt_not (pdt_tru (pd_call (takes_of rfl rfl rfl rfl) (ok_is_pair T) (hr.mono (by decide)) T.m_is_pair T.F_is_pair.kp T.d_is_pair (pda_cons (pd_var 0) pda_nil)))) (pdw_or (pdt_not (pdt_tru (pd_call (takes_of rfl rfl rfl rfl) (ok_is_integer T) (hr.mono (by decide)) T.m_is_integer T.F_is_integer.kp T.d_is_integer (pda_cons (pd_ix (pd_var 0) pd_int) pda_nil)))) (pdw_or1 (pdt_not (pdt_tru (pd_call (takes_of rfl rfl rfl rfl) (ok_is_integer T) (hr.mono (by decide)) T.m_is_integer T.F_is_integer.kp T.d_is_integer (pda_cons (pd_ix (pd_var 0) pd_int) pda_nil)))))))) (pds_one (pd_ret pd_bl)) pds_nil)
    (pds_one (pd_ret (pd_and (pd_cmp od_gt (pd_ix (pd_var 0) pd_int) pd_int) (pd_one (pd_cmp (od_eq hr.units) (pd_call (takes_of rfl rfl rfl rfl) (ok_lowest T) (hr.mono (by decide)) T.m_lowest T.F_lowest.kp T.d_lowest (pda_cons (pd_ix (pd_var 0) pd_int) (pda_cons (pd_ix (pd_var 0) pd_int) pda_nil))) (pd_var 0))))))), fun ds S Q h => ?_⟩)
  · obtain ⟨_, rfl, _⟩ := h
    rfl
  · obtain ⟨q, rfl, hb, h⟩ := h
    walk_at "g"
    refine ⟨_, _, rfl, ?_⟩
    walk_at "g"
    refine ⟨.int q.num, rfl, ?_⟩
    walk_at "g"
    refine ⟨q.num, rfl, ?_⟩
    walk_at "g"
    refine ⟨.int (q.den : Int), rfl, ?_⟩
    walk_at "g"
    refine ⟨(q.den : Int), rfl, ?_⟩
    walk_at "g"
    refine ⟨.int (q.den : Int), rfl, ?_⟩
    walk_at "g"
    refine IFB.t (decide_eq_true (den_pos' q)) ?_
    walk_at "g"
    refine ⟨.int q.num, rfl, ?_⟩
    walk_at "g"
    refine ⟨.int (q.den : Int), rfl, ?_⟩
    walk_at "g"
    refine ⟨q.num, (q.den : Int), rfl, den_pos' q, lt_up (b := 8000) (by rw [Int.natAbs_natCast]; exact hb.2) (by decide), ?_⟩
    rw [num_div_den']
    refine eq_fr q ?_
    exact h

theorem ok_is_part_of_one {P : Program} {w : World} {K : PySem.W.Frag} {mg : Str → Option Value} {base : Heap} (T : Txt K mg) : FnOk P w K mg base (L2.CX P w) 3 T.a_is_part_of_one T.fd_is_part_of_one ["told"] (toSp K sp_is_part_of_one) := by
  refine fnD T.F_is_part_of_one sc_is_part_of_one (fun ds S Q E h => ?_) (fun cdv A outer s H E RX hr => ⟨_, (pds_one (pd_ret (pd_and (pd_call (takes_of rfl rfl rfl rfl) (ok_is_number_of T) (hr.mono (by decide)) T.m_is_number_of T.F_is_number_of.kp T.d_is_number_of (pda_cons (pd_var 0) pda_nil)) (pd_one (pd_chain od_le od_le pd_int (pd_ix (pd_var 0) pd_int) (pd_ix (pd_var 0) pd_int)))))), fun ds S Q h => ?_⟩)
  · obtain ⟨_, rfl, _⟩ := h
    rfl
  · obtain ⟨u, rfl, hu, h⟩ := h
    walk_at "g"
    refine ⟨u, rfl, hu.rb.mono (by decide), ?_⟩
    walk_at "g"
    refine ⟨.int u.num, rfl, ?_⟩
    walk_at "w"
    refine IFB.t (decide_eq_true (num_nn hu.nn)) ?_
    walk_at "w"
    refine ⟨.int (u.den : Int), rfl, ?_⟩
    walk_at "w"
    rw [decide_eq_true (num_le hu.le)]
    exact h

theorem ok_whole {P : Program} {w : World} {K : PySem.W.Frag} {mg : Str → Option Value} {base : Heap} (T : Txt K mg) : FnOk P w K mg base (L2.CX P w) 1 T.a_whole T.fd_whole ["a"] (toSp K sp_whole) := by
  refine fnD T.F_whole sc_whole (fun ds S Q E h => ?_) (fun cdv A outer s H E RX hr => ⟨_, (pds_one (pd_ret (pd_tup (pda_cons (pd_var 0) (pda_cons pd_int pda_nil))))), fun ds S Q h => ?_⟩)
  · obtain ⟨_, rfl, _⟩ := h
    rfl
  · obtain ⟨i, rfl, h⟩ := h
    walk_at "w"
    exact h

theorem ok_sum_of_two {P : Program} {w : World} {K : PySem.W.Frag} {mg : Str → Option Value} {base : Heap} (T : Txt K mg) : FnOk P w K mg base (L2.CX P w) 2 T.a_sum_of_two T.fd_sum_of_two ["a", "b"] (toSp K sp_sum_of_two) := by
  refine fnD T.F_sum_of_two sc_sum_of_two (fun ds S Q E h => ?_) (fun cdv A outer s H E RX hr => ⟨_, (pds_one (pd_ret (pd_call (takes_of rfl rfl rfl rfl) (ok_lowest T) (hr.mono (by decide)) T.m_lowest T.F_lowest.kp T.d_lowest (pda_cons (pd_bin od_add (pd_bin od_mul (pd_ix (pd_var 0) pd_int) (pd_ix (pd_var 1) pd_int)) (pd_bin od_mul (pd_ix (pd_var 1) pd_int) (pd_ix (pd_var 0) pd_int))) (pda_cons (pd_bin od_mul (pd_ix (pd_var 0) pd_int) (pd_ix (pd_var 1) pd_int)) pda_nil))))), fun ds S Q h => ?_⟩)
  · obtain ⟨_, _, rfl, _⟩ := h
    rfl
  · obtain ⟨a, b, rfl, ha, hb, h⟩ := h
    have b1 : ((b.den : Int)).natAbs < 2 ^ 3000 := by rw [Int.natAbs_natCast]; exact hb.2
    have a1 : ((a.den : Int)).natAbs < 2 ^ 3000 := by rw [Int.natAbs_natCast]; exact ha.2
    walk_at "w"
    refine ⟨.int a.num, rfl, ?_⟩
    walk_at "w"
    refine ⟨.int (b.den : Int), rfl, ?_⟩
    walk_at "w"
    refine ⟨.inl (wide_mul ha.1 b1 (by decide) (by decide) (by decide)), ?_⟩
    walk_at "w"
    refine ⟨.int b.num, rfl, ?_⟩
    walk_at "w"
    refine ⟨.int (a.den : Int), rfl, ?_⟩
    walk_at "w"
    refine ⟨.inl (wide_mul hb.1 a1 (by decide) (by decide) (by decide)), ?_⟩
    walk_at "w"
    refine ⟨.int (a.den : Int), rfl, ?_⟩
    walk_at "w"
    refine ⟨.int (b.den : Int), rfl, ?_⟩
    walk_at "w"
    refine ⟨.inl (wide_mul a1 b1 (by decide) (by decide) (by decide)), ?_⟩
    walk_at "w"
    refine ⟨_, _, rfl, Int.mul_pos (den_pos' a) (den_pos' b), lt_up (wide_lt a1 b1) (by decide), ?_⟩
    rw [add_fr]
    exact h

theorem ok_difference {P : Program} {w : World} {K : PySem.W.Frag} {mg : Str → Option Value} {base : Heap} (T : Txt K mg) : FnOk P w K mg base (L2.CX P w) 2 T.a_difference T.fd_difference ["a", "b"] (toSp K sp_difference) := by
  refine fnD T.F_difference sc_difference (fun ds S Q E h => ?_) (fun cdv A outer s H E RX hr => ⟨_, (pds_one (pd_ret (pd_call (takes_of rfl rfl rfl rfl) (ok_lowest T) (hr.mono (by decide)) T.m_lowest T.F_lowest.kp T.d_lowest (pda_cons (pd_bin od_sub (pd_bin od_mul (pd_ix (pd_var 0) pd_int) (pd_ix (pd_var 1) pd_int)) (pd_bin od_mul (pd_ix (pd_var 1) pd_int) (pd_ix (pd_var 0) pd_int))) (pda_cons (pd_bin od_mul (pd_ix (pd_var 0) pd_int) (pd_ix (pd_var 1) pd_int)) pda_nil))))), fun ds S Q h => ?_⟩)
  · obtain ⟨_, _, rfl, _⟩ := h
    rfl
  · obtain ⟨a, b, rfl, ha, hb, h⟩ := h
    have b1 : ((b.den : Int)).natAbs < 2 ^ 3000 := by rw [Int.natAbs_natCast]; exact hb.2
    have a1 : ((a.den : Int)).natAbs < 2 ^ 3000 := by rw [Int.natAbs_natCast]; exact ha.2
    walk_at "w"
    refine ⟨.int a.num, rfl, ?_⟩
    walk_at "w"
    refine ⟨.int (b.den : Int), rfl, ?_⟩
    walk_at "w"
    refine ⟨.inl (wide_mul ha.1 b1 (by decide) (by decide) (by decide)), ?_⟩
    walk_at "w"
    refine ⟨.int b.num, rfl, ?_⟩
    walk_at "w"
    refine ⟨.int (a.den : Int), rfl, ?_⟩
    walk_at "w"
    refine ⟨.inl (wide_mul hb.1 a1 (by decide) (by decide) (by decide)), ?_⟩
    walk_at "w"
    refine ⟨.int (a.den : Int), rfl, ?_⟩
    walk_at "w"
    refine ⟨.int (b.den : Int), rfl, ?_⟩
    walk_at "w"
    refine ⟨.inl (wide_mul a1 b1 (by decide) (by decide) (by decide)), ?_⟩
    walk_at "w"
    refine ⟨_, _, rfl, Int.mul_pos (den_pos' a) (den_pos' b), lt_up (wide_lt a1 b1) (by decide), ?_⟩
    rw [sub_fr]
    exact h

theorem ok_product {P : Program} {w : World} {K : PySem.W.Frag} {mg : Str → Option Value} {base : Heap} (T : Txt K mg) : FnOk P w K mg base (L2.CX P w) 2 T.a_product T.fd_product ["a", "b"] (toSp K sp_product) := by
  refine fnD T.F_product sc_product (fun ds S Q E h => ?_) (fun cdv A outer s H E RX hr => ⟨_, (pds_one (pd_ret (pd_call (takes_of rfl rfl rfl rfl) (ok_lowest T) (hr.mono (by decide)) T.m_lowest T.F_lowest.kp T.d_lowest (pda_cons (pd_bin od_mul (pd_ix (pd_var 0) pd_int) (pd_ix (pd_var 1) pd_int)) (pda_cons (pd_bin od_mul (pd_ix (pd_var 0) pd_int) (pd_ix (pd_var 1) pd_int)) pda_nil))))), fun ds S Q h => ?_⟩)
  · obtain ⟨_, _, rfl, _⟩ := h
    rfl
  · obtain ⟨a, b, rfl, ha, hb, h⟩ := h
    have b1 : ((b.den : Int)).natAbs < 2 ^ 3000 := by rw [Int.natAbs_natCast]; exact hb.2
    have a1 : ((a.den : Int)).natAbs < 2 ^ 3000 := by rw [Int.natAbs_natCast]; exact ha.2
    walk_at "w"
    refine ⟨.int a.num, rfl, ?_⟩
    walk_at "w"
    refine ⟨.int b.num, rfl, ?_⟩
    walk_at "w"
    refine ⟨.inl (wide_mul ha.1 hb.1 (by decide) (by decide) (by decide)), ?_⟩
    walk_at "w"
    refine ⟨.int (a.den : Int), rfl, ?_⟩
    walk_at "w"
    refine ⟨.int (b.den : Int), rfl, ?_⟩
    walk_at "w"
    refine ⟨.inl (wide_mul a1 b1 (by decide) (by decide) (by decide)), ?_⟩
    walk_at "w"
    refine ⟨_, _, rfl, Int.mul_pos (den_pos' a) (den_pos' b), lt_up (wide_lt a1 b1) (by decide), ?_⟩
    rw [mul_fr]
    exact h

theorem ok_quotient {P : Program} {w : World} {K : PySem.W.Frag} {mg : Str → Option Value} {base : Heap} (T : Txt K mg) : FnOk P w K mg base (L2.CX P w) 2 T.a_quotient T.fd_quotient ["a", "b"] (toSp K sp_quotient) := by
  refine fnD T.F_quotient sc_quotient (fun ds S Q E h => ?_) (fun cdv A outer s H E RX hr => ⟨_, (pds_one (pd_ret (pd_call (takes_of rfl rfl rfl rfl) (ok_lowest T) (hr.mono (by decide)) T.m_lowest T.F_lowest.kp T.d_lowest (pda_cons (pd_bin od_mul (pd_ix (pd_var 0) pd_int) (pd_ix (pd_var 1) pd_int)) (pda_cons (pd_bin od_mul (pd_ix (pd_var 0) pd_int) (pd_ix (pd_var 1) pd_int)) pda_nil))))), fun ds S Q h => ?_⟩)
  · obtain ⟨_, _, rfl, _⟩ := h
    rfl
  · obtain ⟨a, b, rfl, ha, hb, hp, h⟩ := h
    have b1 : ((b.den : Int)).natAbs < 2 ^ 3000 := by rw [Int.natAbs_natCast]; exact hb.2
    have a1 : ((a.den : Int)).natAbs < 2 ^ 3000 := by rw [Int.natAbs_natCast]; exact ha.2
    walk_at "w"
    refine ⟨.int a.num, rfl, ?_⟩
    walk_at "w"
    refine ⟨.int (b.den : Int), rfl, ?_⟩
    walk_at "w"
    refine ⟨.inl (wide_mul ha.1 b1 (by decide) (by decide) (by decide)), ?_⟩
    walk_at "w"
    refine ⟨.int (a.den : Int), rfl, ?_⟩
    walk_at "w"
    refine ⟨.int b.num, rfl, ?_⟩
    walk_at "w"
    refine ⟨.inl (wide_mul a1 hb.1 (by decide) (by decide) (by decide)), ?_⟩
    walk_at "w"
    refine ⟨_, _, rfl, Int.mul_pos (den_pos' a) (num_pos' hp), lt_up (wide_lt a1 hb.1) (by decide), ?_⟩
    rw [quo_eq hp]
    exact h

theorem ok_is_less {P : Program} {w : World} {K : PySem.W.Frag} {mg : Str → Option Value} {base : Heap} (T : Txt K mg) : FnOk P w K mg base (L2.CX P w) 1 T.a_is_less T.fd_is_less ["a", "b"] (toSp K sp_is_less) := by
  refine fnD T.F_is_less sc_is_less (fun ds S Q E h => ?_) (fun cdv A outer s H E RX hr => ⟨_, (pds_one (pd_ret (pd_cmp od_lt (pd_bin od_mul (pd_ix (pd_var 0) pd_int) (pd_ix (pd_var 1) pd_int)) (pd_bin od_mul (pd_ix (pd_var 1) pd_int) (pd_ix (pd_var 0) pd_int))))), fun ds S Q h => ?_⟩)
  · obtain ⟨_, _, rfl, _⟩ := h
    rfl
  · obtain ⟨a, b, rfl, ha, hb, h⟩ := h
    have b1 : ((b.den : Int)).natAbs < 2 ^ 3000 := by rw [Int.natAbs_natCast]; exact hb.2
    have a1 : ((a.den : Int)).natAbs < 2 ^ 3000 := by rw [Int.natAbs_natCast]; exact ha.2
    walk_at "w"
    refine ⟨.int a.num, rfl, ?_⟩
    walk_at "w"
    refine ⟨.int (b.den : Int), rfl, ?_⟩
    walk_at "w"
    refine ⟨.inl (wide_mul ha.1 b1 (by decide) (by decide) (by decide)), ?_⟩
    walk_at "w"
    refine ⟨.int b.num, rfl, ?_⟩
    walk_at "w"
    refine ⟨.int (a.den : Int), rfl, ?_⟩
    walk_at "w"
    refine ⟨.inl (wide_mul hb.1 a1 (by decide) (by decide) (by decide)), ?_⟩
    walk_at "w"
    rw [decide_eq_decide.mpr (lt_rat a b)]
    exact h

theorem ok_sum_of_all {P : Program} {w : World} {K : PySem.W.Frag} {mg : Str → Option Value} {base : Heap} (T : Txt K mg) : FnOk P w K mg base (L2.CX P w) 3 T.a_sum_of_all T.fd_sum_of_all ["numbers"] (toSp K sp_sum_of_all) := by
  refine fnD T.F_sum_of_all sc_sum_of_all (fun ds S Q E h => ?_) (fun cdv A outer s H E RX hr => ⟨_, (pds_cons (pd_set 1 sc_sum_of_all.nd (pd_glob (v := .ref T.z_ZERO) (d := (.tup [.int 0, .int 1])) T.m_ZERO rfl T.v_ZERO))
    (pds_cons (pd_for (passes_of rfl) rfl (pdi_it (pd_var 0)) (pdg_name 2 sc_sum_of_all.nd) (pds_one (pd_set 1 sc_sum_of_all.nd (pd_call (takes_of rfl rfl rfl rfl) (ok_sum_of_two T) (hr.mono (by decide)) T.m_sum_of_two T.F_sum_of_two.kp T.d_sum_of_two (pda_cons (pd_var 1) (pda_cons (pd_var 2) pda_nil))))))
    (pds_one (pd_ret (pd_var 1))))), fun ds S Q h => ?_⟩)
  · rcases h with ⟨_, _, _, rfl, _⟩ | ⟨_, _, rfl, _⟩ <;> rfl
  · rcases h with h | h
    · obtain ⟨d, qs, N, rfl, hd, h0, hb, hs, h1, h⟩ := h
      rcases hd with rfl | hd
      · walk_at "w"
        refine for_xs (fun i ρ' S' => S' = S ∧ ∃ o, ρ' = [some (shD qs), some (fr (qs.take i).sum), o]) ⟨rfl, _, by rw [List.take_zero, List.sum_nil]; rfl⟩ (fun _ _ _ h => trivial) ?_ ?_
        · rintro i x _ _ hi ⟨rfl, o, rfl⟩
          obtain ⟨q, hq, rfl⟩ := fr_at hi
          have hp := Rat.le_trans (take_le_sum (fun q hq => (hs q hq).1) i) h1
          have hq' := hs q (List.mem_of_getElem? hq)
          walk_at "w"
          refine ⟨_, q, rfl, (ov_rb2 h0 hb (ov_sum h0 fun q hq => (hs q (List.mem_of_mem_take hq)).2) (sum_nonneg fun q hq => (hs q (List.mem_of_mem_take hq)).1) hp).mono (by decide), (ov_rb2 h0 hb hq'.2 hq'.1 (Rat.le_trans (mem_le_sum (fun q hq => (hs q hq).1) q (List.mem_of_getElem? hq)) h1)).mono (by decide), ?_⟩
          walk_at "w"
          exact ⟨rfl, _, by rw [take_succ_sum hq]; rfl⟩
        · rintro _ _ ⟨rfl, o, rfl⟩
          rw [List.length_map, List.take_length]
          walk_at "w"
          exact h
      · rcases hd with ⟨a, rfl, ea⟩ | rfl
        · walk_at "w"
          refine ⟨_, .inl ⟨a, rfl, ea⟩, ?_⟩
          refine for_xs (fun i ρ' S' => S' = S ∧ ∃ o, ρ' = [some (.ref a), some (fr (qs.take i).sum), o]) ⟨rfl, _, by rw [List.take_zero, List.sum_nil]; rfl⟩ (fun _ _ _ h => by rw [h.1]; exact .inl ⟨a, rfl, ea⟩) ?_ ?_
          · rintro i x _ _ hi ⟨rfl, o, rfl⟩
            obtain ⟨q, hq, rfl⟩ := fr_at hi
            have hp := Rat.le_trans (take_le_sum (fun q hq => (hs q hq).1) i) h1
            have hq' := hs q (List.mem_of_getElem? hq)
            walk_at "w"
            refine ⟨_, q, rfl, (ov_rb2 h0 hb (ov_sum h0 fun q hq => (hs q (List.mem_of_mem_take hq)).2) (sum_nonneg fun q hq => (hs q (List.mem_of_mem_take hq)).1) hp).mono (by decide), (ov_rb2 h0 hb hq'.2 hq'.1 (Rat.le_trans (mem_le_sum (fun q hq => (hs q hq).1) q (List.mem_of_getElem? hq)) h1)).mono (by decide), ?_⟩
            walk_at "w"
            exact ⟨rfl, _, by rw [take_succ_sum hq]; rfl⟩
          · rintro _ _ ⟨rfl, o, rfl⟩
            rw [List.length_map, List.take_length]
            walk_at "w"
            exact h
        · walk_at "w"
          refine ⟨_, .inr rfl, ?_⟩
          refine for_xs (fun i ρ' S' => S' = S ∧ ∃ o, ρ' = [some (.fro (qs.map fr)), some (fr (qs.take i).sum), o]) ⟨rfl, _, by rw [List.take_zero, List.sum_nil]; rfl⟩ (fun _ _ _ h => .inr rfl) ?_ ?_
          · rintro i x _ _ hi ⟨rfl, o, rfl⟩
            obtain ⟨q, hq, rfl⟩ := fr_at hi
            have hp := Rat.le_trans (take_le_sum (fun q hq => (hs q hq).1) i) h1
            have hq' := hs q (List.mem_of_getElem? hq)
            walk_at "w"
            refine ⟨_, q, rfl, (ov_rb2 h0 hb (ov_sum h0 fun q hq => (hs q (List.mem_of_mem_take hq)).2) (sum_nonneg fun q hq => (hs q (List.mem_of_mem_take hq)).1) hp).mono (by decide), (ov_rb2 h0 hb hq'.2 hq'.1 (Rat.le_trans (mem_le_sum (fun q hq => (hs q hq).1) q (List.mem_of_getElem? hq)) h1)).mono (by decide), ?_⟩
            walk_at "w"
            exact ⟨rfl, _, by rw [take_succ_sum hq]; rfl⟩
          · rintro _ _ ⟨rfl, o, rfl⟩
            rw [List.length_map, List.take_length]
            walk_at "w"
            exact h
    · obtain ⟨p, qs, rfl, ep, hb, hs, h⟩ := h
      walk_at "w"
      refine ⟨_, .inl ⟨p, rfl, ep⟩, ?_⟩
      refine for_xs (fun i ρ' S' => S' = S ∧ ∃ o, ρ' = [some (.ref p), some (fr (qs.take i).sum), o]) ⟨rfl, _, by rw [List.take_zero, List.sum_nil]; rfl⟩ (fun _ _ _ h => by rw [h.1]; exact .inl ⟨p, rfl, ep⟩) ?_ ?_
      · rintro i x _ _ hi ⟨rfl, o, rfl⟩
        obtain ⟨q, hq, rfl⟩ := fr_at hi
        walk_at "w"
        refine ⟨_, q, rfl, hs i, hb q (List.mem_of_getElem? hq), ?_⟩
        walk_at "w"
        exact ⟨rfl, _, by rw [take_succ_sum hq]; rfl⟩
      · rintro _ _ ⟨rfl, o, rfl⟩
        rw [List.length_map, List.take_length]
        walk_at "w"
        exact h

theorem ok_power {P : Program} {w : World} {K : PySem.W.Frag} {mg : Str → Option Value} {base : Heap} (T : Txt K mg) : FnOk P w K mg base (L2.CX P w) 1 T.a_power T.fd_power ["b", "n"] (toSp K sp_power) := by
  refine fnD T.F_power sc_power (fun ds S Q E h => ?_) (fun cdv A outer s H E RX hr => ⟨_, (pds_cons (pd_set 2 sc_power.nd pd_int)
    (pds_cons (pd_for (passes_of rfl) rfl (pdi_range1 T.b_range (pda_cons (pd_var 1) pda_nil)) (pdg_name 3 sc_power.nd) (pds_one (pd_set 2 sc_power.nd (pd_bin od_mul (pd_var 2) (pd_var 0)))))
    (pds_one (pd_ret (pd_var 2))))), fun ds S Q h => ?_⟩)
  · obtain ⟨_, rfl, _⟩ := h
    rfl
  · obtain ⟨k, rfl, hk, h⟩ := h
    walk_at "w"
    refine ⟨⟨by omega, by omega⟩, for_rg (fun i ρ' S' => S' = S ∧ ∃ o, ρ' = [some (.int 2), some (.int (k : Int)), some (.int (2 ^ i)), o]) ⟨rfl, _, rfl⟩ ?_ ?_⟩
    · rintro i _ _ hi ⟨rfl, o, rfl⟩
      walk_at "w"
      refine ⟨small_r (by decide) (by decide), ?_⟩
      walk_at "w"
      exact ⟨rfl, _, by rw [Int.pow_succ]; rfl⟩
    · rintro _ _ ⟨rfl, o, rfl⟩
      rw [show (k : Int).toNat = k from Int.toNat_natCast _]
      walk_at "w"
      exact h

theorem ok_by_halves {P : Program} {w : World} {K : PySem.W.Frag} {mg : Str → Option Value} {base : Heap} (T : Txt K mg) : FnOk P w K mg base (L2.CX P w) 2 T.a_by_halves T.fd_by_halves ["a", "k"] (toSp K sp_by_halves) := by
  refine fnD T.F_by_halves sc_by_halves (fun ds S Q E h => ?_) (fun cdv A outer s H E RX hr => ⟨_, (pds_one (pd_ret (pd_call (takes_of rfl rfl rfl rfl) (ok_lowest T) (hr.mono (by decide)) T.m_lowest T.F_lowest.kp T.d_lowest (pda_cons (pd_ix (pd_var 0) pd_int) (pda_cons (pd_bin od_mul (pd_ix (pd_var 0) pd_int) (pd_call (takes_of rfl rfl rfl rfl) (ok_power T) (hr.mono (by decide)) T.m_power T.F_power.kp T.d_power (pda_cons pd_int (pda_cons (pd_var 1) pda_nil)))) pda_nil))))), fun ds S Q h => ?_⟩)
  · obtain ⟨_, _, rfl, _⟩ := h
    rfl
  · obtain ⟨a, k, rfl, ha, hk, h⟩ := h
    have a1 : ((a.den : Int)).natAbs < 2 ^ 3000 := by rw [Int.natAbs_natCast]; exact ha.2
    have k1 : ((2 : Int) ^ k).natAbs < 2 ^ 3000 := lt_up (pow2_lt k) (by omega)
    walk_at "w"
    refine ⟨.int a.num, rfl, ?_⟩
    walk_at "w"
    refine ⟨.int (a.den : Int), rfl, ?_⟩
    walk_at "w"
    refine ⟨k, rfl, hk, ?_⟩
    walk_at "w"
    refine ⟨.inl (wide_mul a1 k1 (by decide) (by decide) (by decide)), ?_⟩
    walk_at "w"
    refine ⟨_, _, rfl, Int.mul_pos (den_pos' a) (pow2_pos k), lt_up (wide_lt a1 k1) (by decide), ?_⟩
    rw [half_eq]
    exact h

theorem ok_check_part {P : Program} {w : World} {K : PySem.W.Frag} {mg : Str → Option Value} {base : Heap} (T : Txt K mg) : FnOk P w K mg base (L2.CX P w) 4 T.a_check_part T.fd_check_part ["number"] (toSp K sp_check_part) := by
  refine fnD T.F_check_part sc_check_part (fun ds S Q E h => ?_) (fun cdv A outer s H E RX hr => ⟨_, (pds_one (pd_ifS (pdt_not (pdt_tru (pd_call (takes_of rfl rfl rfl rfl) (ok_is_part_of_one T) (hr.mono (by decide)) T.m_is_part_of_one T.F_is_part_of_one.kp T.d_is_part_of_one (pda_cons (pd_var 0) pda_nil)))) (pds_one pd_never) pds_nil)), fun ds S Q h => ?_⟩)
  · obtain ⟨_, rfl, _⟩ := h
    rfl
  · obtain ⟨u, rfl, hu, h⟩ := h
    walk_at "w"
    refine ⟨u, rfl, hu, ?_⟩
    walk_at "g"
    exact h

theorem ok_check_natural {P : Program} {w : World} {K : PySem.W.Frag} {mg : Str → Option Value} {base : Heap} (T : Txt K mg) : FnOk P w K mg base (L2.CX P w) 3 T.a_check_natural T.fd_check_natural ["k"] (toSp K sp_check_natural) := by
  refine fnD T.F_check_natural sc_check_natural (fun ds S Q E h => ?_) (fun cdv A outer s H E RX hr => ⟨_, (pds_one (pd_ifS (pdt_not (pdt_tru (pd_call (takes_of rfl rfl rfl rfl) (ok_is_natural T) (hr.mono (by decide)) T.m_is_natural T.F_is_natural.kp T.d_is_natural (pda_cons (pd_var 0) pda_nil)))) (pds_one pd_never) pds_nil)), fun ds S Q h => ?_⟩)
  · obtain ⟨_, rfl, _⟩ := h
    rfl
  · obtain ⟨k, rfl, hk, h⟩ := h
    walk_at "w"
    refine ⟨k, rfl, ?_⟩
    rw [decide_eq_true hk]
    walk_at "g"
    exact h

theorem ok_rest_of {P : Program} {w : World} {K : PySem.W.Frag} {mg : Str → Option Value} {base : Heap} (T : Txt K mg) : FnOk P w K mg base (L2.CX P w) 2 T.a_rest_of T.fd_rest_of ["number", "k"] (toSp K sp_rest_of) := by
  refine fnD T.F_rest_of sc_rest_of (fun ds S Q E h => ?_) (fun cdv A outer s H E RX hr => ⟨_, (pds_cons (pd_asg (pd_var 0) (pdg_tup rfl (pdgs_cons (pdg_name 2 sc_rest_of.nd) (pdgs_cons (pdg_name 3 sc_rest_of.nd) pdgs_nil))))
    (pds_one (pd_ret (pd_call (takes_of rfl rfl rfl rfl) (ok_lowest T) (hr.mono (by decide)) T.m_lowest T.F_lowest.kp T.d_lowest (pda_cons (pd_bin od_mod (pd_bin od_mul (pd_var 2) (pd_call (takes_of rfl rfl rfl rfl) (ok_power T) (hr.mono (by decide)) T.m_power T.F_power.kp T.d_power (pda_cons pd_int (pda_cons (pd_var 1) pda_nil)))) (pd_var 3)) (pda_cons (pd_var 3) pda_nil)))))), fun ds S Q h => ?_⟩)
  · obtain ⟨_, _, rfl, _⟩ := h
    rfl
  · obtain ⟨a, k, rfl, ha, hk, h⟩ := h
    have a1 : ((a.den : Int)).natAbs < 2 ^ 3000 := by rw [Int.natAbs_natCast]; exact ha.2
    have k1 : ((2 : Int) ^ k).natAbs < 2 ^ 3000 := lt_up (pow2_lt k) (by omega)
    walk_at "w"
    refine ⟨rfl, ?_⟩
    walk_at "w"
    refine ⟨k, rfl, hk, ?_⟩
    walk_at "w"
    refine ⟨.inl (wide_mul ha.1 k1 (by decide) (by decide) (by decide)), ?_⟩
    walk_at "w"
    refine ⟨den_pos' a, ?_⟩
    walk_at "w"
    refine ⟨_, _, rfl, den_pos' a, lt_up a1 (by decide), ?_⟩
    exact h

theorem ok_figure_of {P : Program} {w : World} {K : PySem.W.Frag} {mg : Str → Option Value} {base : Heap} (T : Txt K mg) : FnOk P w K mg base (L2.CX P w) 2 T.a_figure_of T.fd_figure_of ["number", "k"] (toSp K sp_figure_of) := by
  refine fnD T.F_figure_of sc_figure_of (fun ds S Q E h => ?_) (fun cdv A outer s H E RX hr => ⟨_, (pds_cons (pd_asg (pd_var 0) (pdg_tup rfl (pdgs_cons (pdg_name 2 sc_figure_of.nd) (pdgs_cons (pdg_name 3 sc_figure_of.nd) pdgs_nil))))
    (pds_one (pd_ret (pd_bin od_mod (pd_bin od_fdiv (pd_bin od_mul (pd_var 2) (pd_call (takes_of rfl rfl rfl rfl) (ok_power T) (hr.mono (by decide)) T.m_power T.F_power.kp T.d_power (pda_cons pd_int (pda_cons (pd_var 1) pda_nil)))) (pd_var 3)) pd_int)))), fun ds S Q h => ?_⟩)
  · obtain ⟨_, _, rfl, _⟩ := h
    rfl
  · obtain ⟨u, k, rfl, hu, hk, h⟩ := h
    have ha := hu.rb.mono (show 10 ≤ 3000 by decide)
    have k1 : ((2 : Int) ^ k).natAbs < 2 ^ 3000 := lt_up (pow2_lt k) (by omega)
    have hd := hu.dle
    walk_at "w"
    refine ⟨rfl, ?_⟩
    walk_at "w"
    refine ⟨k, rfl, hk, ?_⟩
    walk_at "w"
    refine ⟨.inl (wide_mul ha.1 k1 (by decide) (by decide) (by decide)), ?_⟩
    walk_at "w"
    refine ⟨div_s (den_pos' u) (by omega), ?_⟩
    walk_at "w"
    refine ⟨by decide, ?_⟩
    walk_at "w"
    exact h
end K53
set_option Elab.async false
set_option linter.all false
set_option maxRecDepth 100000
set_option maxHeartbeats 4000000
namespace K53
open PySem PySem.Spec PyProof.Rows L2 DL
local macro_rules | `(tactic| walk_at "w") => `(tactic| conv => whnf)
local macro_rules | `(tactic| walk_at "g") => `(tactic| ((conv => whnf); repeat' (first | (refine IFB.t ?_ ?_; rfl; conv => whnf) | (refine IFB.f ?_ ?_; rfl; conv => whnf))))
theorem ok_is_ascending {P : Program} {w : World} {K : PySem.W.Frag} {mg : Str → Option Value} {base : Heap} (T : Txt K mg) : FnOk P w K mg base (L2.CX P w) 1 T.a_is_ascending T.fd_is_ascending ["row"] (toSp K sp_is_ascending) := by
  refine fnE T.F_is_ascending sc_is_ascending (fun ds S Q E h => ?_) (fun cdv A outer s H E RX hr => ⟨_, (pds_one (pd_ret (pd_blt (cd_all rfl) T.b_all (by decide +kernel) (pda_cons (pd_lc (own := [("at", 1)]) (p := .n 1) rfl sc_is_ascending.nd (pdi_range1 T.b_range (pda_cons (pd_bin od_sub (pd_blt cd_len T.b_len (by decide +kernel) (pda_cons (pd_var 0) pda_nil)) pd_int) pda_nil)) (blkOk_by (N := ["row", "at"]) (sc := defScope s_is_ascending) (own := [("at", 1)]) (by decide +kernel)) (fun _ _ _ _ _ => (pg_name (i := 1) sc_is_ascending.nd rfl (by first | exact Or.inl rfl | exact Or.inr rfl))) (fun _ _ _ _ _ => pdts_nil) (fun _ _ _ _ _ => (pd_cmp od_lt (pd_ix (pd_var 0) (pd_var 1)) (pd_ix (pd_var 0) (pd_bin od_add (pd_var 1) pd_int))))) pda_nil)))), fun ds S Q h => ?_⟩)
  · obtain ⟨_, rfl, _⟩ := h
    rfl
  · obtain ⟨ts, rfl, hn, hl, h⟩ := h
    have hl2 : (ts.map fun (t : Nat) => D.int (t : Int)).length = ts.length := List.length_map _
    have h0 : 0 < ts.length := List.length_pos_iff.mpr hn
    walk_at "w"
    rw [hl2]
    refine ⟨⟨by omega, by omega⟩, ?_⟩
    walk_at "w"
    refine lc_rgm (fun i => D.bl (decide (ts[i]?.getD 0 < ts[i + 1]?.getD 0))) ?_ ?_
    · rintro i acc S2 hi w2
      have hi1 : i + 1 < ts.length := by omega
      have hi0 : i < ts.length := by omega
      walk_at "w"
      rw [show (0 : Int) + (i : Int) = (i : Int) from Int.zero_add _]
      refine IFB.t rfl ?_
      walk_at "w"
      refine ⟨.int (ts[i] : Int), atI_nat (by rw [List.getElem?_map, List.getElem?_eq_getElem hi0]; rfl), ?_⟩
      walk_at "w"
      refine ⟨.int (ts[i + 1] : Int), atI_nat (xs := ts.map fun (t : Nat) => D.int (t : Int)) (j := i + 1) (by rw [List.getElem?_map, List.getElem?_eq_getElem hi1]; rfl), ?_⟩
      walk_at "w"
      exact lc_leaf hi w2 (by show _ ≤ 16777216; omega) (by rw [List.getElem?_eq_getElem hi0, List.getElem?_eq_getElem hi1]; show D.bl _ = D.bl (decide (ts[i] < ts[i + 1])); congr 1; rw [decide_eq_decide]; omega) (Ext.refl _)
    · rintro S2 v ex hv
      walk_at "w"
      refine ⟨(List.range ((ts.length : Int) - 1).toNat).map fun i => decide (ts[i]?.getD 0 < ts[i + 1]?.getD 0), .inl ⟨_, rfl, by rw [sup_same, List.map_map]; rfl⟩, ?_⟩
      rw [show ((ts.length : Int) - 1).toNat = ts.length - 1 by omega]
      exact ⟨S, ex.trans (Ext.new hv _), h⟩

theorem ok_is_shares_of {P : Program} {w : World} {K : PySem.W.Frag} {mg : Str → Option Value} {base : Heap} (T : Txt K mg) : FnOk P w K mg base (L2.CX P w) 4 T.a_is_shares_of T.fd_is_shares_of ["told"] (toSp K sp_is_shares_of) := by
  refine fnE T.F_is_shares_of sc_is_shares_of (fun ds S Q E h => ?_) (fun cdv A outer s H E RX hr => ⟨_, (pds_cons (pd_ifS (PDW.pt (pdw_or (pdt_not (pdt_tru (pd_isi1 .tup (pd_var 0) T.b_isinstance T.b_tuple))) (pdw_or (pdt_cmp (od_eq hr.units) (pd_blt cd_len T.b_len (by decide +kernel) (pda_cons (pd_var 0) pda_nil)) pd_int) (pdw_or1 (pdt_not (pdt_tru (pd_blt (cd_all rfl) T.b_all (by decide +kernel) (pda_cons (pd_lc (own := [("share", 1)]) (p := .n 1) rfl sc_is_shares_of.nd (pdi_it (pd_var 0)) (blkOk_by (N := ["told", "share"]) (sc := defScope s_is_shares_of) (own := [("share", 1)]) (by decide +kernel)) (fun _ _ _ _ _ => (pg_name (i := 1) sc_is_shares_of.nd rfl (by first | exact Or.inl rfl | exact Or.inr rfl))) (fun _ _ _ _ _ => pdts_nil) (fun _ _ _ _ _ => (pd_call takes0 (ok_is_number_of T) (hr.mono (by decide)) T.m_is_number_of T.F_is_number_of.kp T.d_is_number_of (pda_cons (pd_var 1) pda_nil)))) pda_nil)))))))) (pds_one (pd_ret pd_bl)) pds_nil)
    (pds_one (pd_ret (pd_and (pd_blt (cd_all rfl) T.b_all (by decide +kernel) (pda_cons (pd_lc (own := [("share", 1)]) (p := .n 1) rfl sc_is_shares_of.nd (pdi_it (pd_var 0)) (blkOk_by (N := ["told", "share"]) (sc := defScope s_is_shares_of) (own := [("share", 1)]) (by decide +kernel)) (fun _ _ _ _ _ => (pg_name (i := 1) sc_is_shares_of.nd rfl (by first | exact Or.inl rfl | exact Or.inr rfl))) (fun _ _ _ _ _ => pdts_nil) (fun _ _ _ _ _ => (pd_cmp od_gt (pd_ix (pd_var 1) pd_int) pd_int))) pda_nil)) (pd_one (pd_cmp (od_eq hr.units) (pd_call (takes_of rfl rfl rfl rfl) (ok_sum_of_all T) (hr.mono (by decide)) T.m_sum_of_all T.F_sum_of_all.kp T.d_sum_of_all (pda_cons (pd_var 0) pda_nil)) (pd_glob (v := .ref T.z_ONE) (d := (.tup [.int 1, .int 1])) T.m_ONE rfl T.v_ONE))))))), fun ds S Q h => ?_⟩)
  · obtain ⟨_, _, rfl, _⟩ := h
    rfl
  · obtain ⟨qs, N, rfl, hs, hN, hl, h⟩ := h
    have hl2 : (qs.map fr).length = qs.length := List.length_map _
    have h0 : 0 < qs.length := List.length_pos_iff.mpr hs.ne
    walk_at "g"
    refine IFB.f (decide_eq_false (by rw [hl2]; omega)) ?_
    walk_at "w"
    refine lc_xsm (fun _ => D.bl true) (fun _ _ => trivial) ?_ ?_
    · rintro i x acc S2 hi w2
      obtain ⟨q, hq, rfl⟩ := fr_at hi
      walk_at "w"
      refine IFB.t rfl ?_
      walk_at "w"
      refine ⟨q, rfl, (hs.rb hN (List.mem_of_getElem? hq)).mono (by decide), ?_⟩
      exact lc_leafL hi w2 (by rw [hl2]; show _ ≤ 16777216; omega) rfl (Ext.refl _)
    · rintro S2 v ex hv
      walk_at "w"
      refine ⟨(qs.map fr).map fun _ => true, .inl ⟨_, rfl, by rw [sup_same, trues]⟩, ?_⟩
      rw [show ((qs.map fr).map fun _ => true).all id = true by simp]
      walk_at "g"
      refine lc_xsm (fun _ => D.bl true) (fun _ _ => trivial) ?_ ?_
      · rintro i x acc S3 hi w2
        obtain ⟨q, hq, rfl⟩ := fr_at hi
        walk_at "w"
        refine IFB.t rfl ?_
        walk_at "w"
        refine ⟨.int q.num, rfl, ?_⟩
        walk_at "w"
        exact lc_leafL hi w2 (by rw [hl2]; show _ ≤ 16777216; omega) (by rw [decide_eq_true (show 0 < q.num from num_pos' (hs.all q (List.mem_of_getElem? hq)).1)]) (Ext.refl _)
      · rintro S4 u ex4 hu
        walk_at "w"
        refine ⟨(qs.map fr).map fun _ => true, .inl ⟨_, rfl, by rw [sup_same, trues]⟩, ?_⟩
        rw [show ((qs.map fr).map fun _ => true).all id = true by simp]
        walk_at "g"
        refine .inl ⟨_, qs, N, rfl, .inl rfl, hs.pos, hN, fun q hq => ⟨Rat.le_of_lt (hs.all q hq).1, (hs.all q hq).2⟩, by rw [hs.sum]; decide +kernel, ?_⟩
        rw [hs.sum]
        refine eq_fr 1 ?_
        exact ⟨S, ((ex.trans (Ext.new hv _)).trans ex4).trans (Ext.new hu _), h⟩

theorem ok_is_shares {P : Program} {w : World} {K : PySem.W.Frag} {mg : Str → Option Value} {base : Heap} (T : Txt K mg) : FnOk P w K mg base (L2.CX P w) 5 T.a_is_shares T.fd_is_shares ["told"] (toSp K sp_is_shares) := by
  refine fnD T.F_is_shares sc_is_shares (fun ds S Q E h => ?_) (fun cdv A outer s H E RX hr => ⟨_, (pds_one (pd_ret (pd_call (takes_of rfl rfl rfl rfl) (ok_is_shares_of T) (hr.mono (by decide)) T.m_is_shares_of T.F_is_shares_of.kp T.d_is_shares_of (pda_cons (pd_var 0) pda_nil)))), fun ds S Q h => ?_⟩)
  · obtain ⟨_, _, rfl, _⟩ := h
    rfl
  · obtain ⟨qs, N, rfl, hs, hN, hl, h⟩ := h
    walk_at "w"
    exact ⟨qs, N, rfl, hs, hN, hl, h⟩

theorem ok_check_shares {P : Program} {w : World} {K : PySem.W.Frag} {mg : Str → Option Value} {base : Heap} (T : Txt K mg) : FnOk P w K mg base (L2.CX P w) 5 T.a_check_shares T.fd_check_shares ["shares"] (toSp K sp_check_shares) := by
  refine fnD T.F_check_shares sc_check_shares (fun ds S Q E h => ?_) (fun cdv A outer s H E RX hr => ⟨_, (pds_one (pd_ifS (pdt_not (pdt_tru (pd_call (takes_of rfl rfl rfl rfl) (ok_is_shares_of T) (hr.mono (by decide)) T.m_is_shares_of T.F_is_shares_of.kp T.d_is_shares_of (pda_cons (pd_var 0) pda_nil)))) (pds_one pd_never) pds_nil)), fun ds S Q h => ?_⟩)
  · obtain ⟨_, _, rfl, _⟩ := h
    rfl
  · obtain ⟨qs, N, rfl, hs, hN, hl, h⟩ := h
    walk_at "w"
    refine ⟨qs, N, rfl, hs, hN, hl, ?_⟩
    walk_at "g"
    exact h

theorem ok_are_things {P : Program} {w : World} {K : PySem.W.Frag} {mg : Str → Option Value} {base : Heap} (T : Txt K mg) : FnOk P w K mg base (L2.CX P w) 4 T.a_are_things T.fd_are_things ["shares", "told"] (toSp K sp_are_things) := by
  refine fnE T.F_are_things sc_are_things (fun ds S Q E h => ?_) (fun cdv A outer s H E RX hr => ⟨_, (pds_cons (pd_ifS (PDW.pt (pdw_or (pdt_not (pdt_tru (pd_isi1 .tup (pd_var 1) T.b_isinstance T.b_tuple))) (pdw_or (pdt_cmp (od_eq hr.units) (pd_blt cd_len T.b_len (by decide +kernel) (pda_cons (pd_var 1) pda_nil)) pd_int) (pdw_or1 (pdt_not (pdt_tru (pd_blt (cd_all rfl) T.b_all (by decide +kernel) (pda_cons (pd_lc (own := [("thing", 2)]) (p := .n 2) rfl sc_are_things.nd (pdi_it (pd_var 1)) (blkOk_by (N := ["shares", "told", "thing"]) (sc := defScope s_are_things) (own := [("thing", 2)]) (by decide +kernel)) (fun _ _ _ _ _ => (pg_name (i := 2) sc_are_things.nd rfl (by first | exact Or.inl rfl | exact Or.inr rfl))) (fun _ _ _ _ _ => pdts_nil) (fun _ _ _ _ _ => (pd_call takes0 (ok_is_below T) (hr.mono (by decide)) T.m_is_below T.F_is_below.kp T.d_is_below (pda_cons (pd_var 2) (pda_cons (pd_blt cd_len T.b_len (by decide +kernel) (pda_cons (pd_var 0) pda_nil)) pda_nil))))) pda_nil)))))))) (pds_one (pd_ret pd_bl)) pds_nil)
    (pds_one (pd_ret (pd_call (takes_of rfl rfl rfl rfl) (ok_is_ascending T) (hr.mono (by decide)) T.m_is_ascending T.F_is_ascending.kp T.d_is_ascending (pda_cons (pd_var 1) pda_nil))))), fun ds S Q h => ?_⟩)
  · obtain ⟨_, _, rfl, _⟩ := h
    rfl
  · obtain ⟨qs, ts, rfl, hn, hl, h⟩ := h
    have hl2 : (ts.map fun (t : Nat) => D.int (t : Int)).length = ts.length := List.length_map _
    have h0 : 0 < ts.length := List.length_pos_iff.mpr hn
    walk_at "g"
    refine IFB.f (decide_eq_false (by rw [hl2]; omega)) ?_
    walk_at "w"
    refine lc_xsm (ltN qs.length) (fun _ _ => trivial) ?_ ?_
    · rintro i x acc S2 hi w2
      have hi' := hi
      rw [List.getElem?_map] at hi'
      cases e : ts[i]? with
      | none => rw [e] at hi'; cases hi'
      | some t =>
        rw [e] at hi'
        cases (Option.some.inj hi')
        walk_at "w"
        refine IFB.t rfl ?_
        walk_at "w"
        refine ⟨(t : Int), ((qs.map fr).length : Int), rfl, by omega, ?_⟩
        rw [List.length_map]
        exact lc_leafL hi w2 (by rw [hl2]; show _ ≤ 16777216; omega) rfl (Ext.refl _)
    · rintro S2 v ex hv
      walk_at "w"
      have e9 : ((ts.map fun (t : Nat) => D.int (t : Int)).map (ltN qs.length)) = (ts.map fun t => decide (t < qs.length)).map D.bl := by
        rw [List.map_map, List.map_map]
        apply List.map_congr_left
        intro t _
        show D.bl _ = D.bl _
        congr 1
        rw [decide_eq_decide]
        omega
      refine ⟨ts.map fun t => decide (t < qs.length), .inl ⟨_, rfl, by rw [sup_same, e9]⟩, ?_⟩
      cases ha : (ts.map fun t => decide (t < qs.length)).all id with
      | false =>
        rw [ha] at h
        walk_at "g"
        exact ⟨S, ex.trans (Ext.new hv _), h⟩
      | true =>
        rw [ha] at h
        walk_at "g"
        refine ⟨ts, rfl, hn, hl, ?_⟩
        exact ⟨S, ex.trans (Ext.new hv _), h⟩

theorem ok_put_together_of {P : Program} {w : World} {K : PySem.W.Frag} {mg : Str → Option Value} {base : Heap} (T : Txt K mg) : FnOk P w K mg base (L2.CX P w) 4 T.a_put_together_of T.fd_put_together_of ["shares", "things"] (toSp K sp_put_together_of) := by
  refine fnE T.F_put_together_of sc_put_together_of (fun ds S Q E h => ?_) (fun cdv A outer s H E RX hr => ⟨_, (pds_cons (pd_set 3 sc_put_together_of.nd (pd_call (takes_of rfl rfl rfl rfl) (ok_sum_of_all T) (hr.mono (by decide)) T.m_sum_of_all T.F_sum_of_all.kp T.d_sum_of_all (pda_cons (pd_lc (own := [("thing", 2)]) (p := .n 2) rfl sc_put_together_of.nd (pdi_it (pd_var 1)) (blkOk_by (N := ["shares", "things", "thing", "total", "found", "share"]) (sc := defScope s_put_together_of) (own := [("thing", 2)]) (by decide +kernel)) (fun _ _ _ _ _ => (pg_name (i := 2) sc_put_together_of.nd rfl (by first | exact Or.inl rfl | exact Or.inr rfl))) (fun _ _ _ _ _ => pdts_nil) (fun _ _ _ _ _ => (pd_ix (pd_var 0) (pd_var 2)))) pda_nil)))
    (pds_cons (pd_set 4 sc_put_together_of.nd (pd_lst pda_nil))
    (pds_cons (pd_for (passes_of rfl) rfl (pdi_enum T.b_enumerate (pda_cons (pd_var 0) pda_nil)) (pdg_tup rfl (pdgs_cons (pdg_name 2 sc_put_together_of.nd) (pdgs_cons (pdg_name 5 sc_put_together_of.nd) pdgs_nil))) (pds_one (pd_ifS (pdt_cmp (od_eq hr.units) (pd_var 2) (pd_ix (pd_var 1) pd_int)) (pds_one (pd_expr (pd_lm PySem.F.slot_list_append PySem.F.type_list_append md_append (pd_var 4) (pda_cons (pd_var 3) pda_nil)))) (pds_one (pd_ifS (pdt_cmp od_notin (pd_var 2) (pd_var 1)) (pds_one (pd_expr (pd_lm PySem.F.slot_list_append PySem.F.type_list_append md_append (pd_var 4) (pda_cons (pd_var 5) pda_nil)))) pds_nil)))))
    (pds_one (pd_ret (pd_bltTy cd_tuple T.b_tuple (by decide +kernel) (pda_cons (pd_var 4) pda_nil))))))), fun ds S Q h => ?_⟩)
  · obtain ⟨_, _, rfl, _⟩ := h
    rfl
  · obtain ⟨N, ps, rfl, hs, hN, hm, hl, h⟩ := h
    walk_at "w"
    refine lc_xsm (pickD (ps.map (·.1))) (fun _ _ => trivial) ?_ ?_
    · rintro i x acc S2 hi w2
      have hi' := hi
      rw [List.getElem?_map] at hi'
      cases e : (idx 0 ps)[i]? with
      | none => rw [e] at hi'; cases hi'
      | some t =>
        rw [e] at hi'
        cases (Option.some.inj hi')
        obtain ⟨q, hq⟩ := (idx_mem ps 0 t).mp (by rw [Nat.zero_add]; exact List.mem_of_getElem? e)
        have hq2 : (ps.map (·.1))[t]? = some q := by rw [List.getElem?_map, hq]; rfl
        walk_at "w"
        refine IFB.t rfl ?_
        walk_at "w"
        refine ⟨fr q, atI_nat (by rw [List.getElem?_map, hq2]; rfl), ?_⟩
        exact lc_leafL hi w2 (by rw [List.length_map]; have := idx_len ps 0; show _ ≤ 16777216; omega) (by show fr q = fr _; rw [Int.toNat_natCast, hq2]; rfl) (Ext.refl _)
    · rintro S2 v ex hv
      rw [sel_vals]
      walk_at "w"
      refine .inl ⟨_, sel ps, N, rfl, .inr (.inl ⟨v, rfl, sup_same⟩), hs.pos, hN, fun q hq => ⟨Rat.le_of_lt (hs.all q (sel_mem hq)).1, (hs.all q (sel_mem hq)).2⟩, Rat.le_trans (show (sel ps).sum ≤ 1 from hs.sum ▸ sel_le fun q hq => Rat.le_of_lt (hs.all q hq).1) (by decide +kernel), ?_⟩
      walk_at "w"
      intro u hu
      walk_at "w"
      have ex1 := (ex.trans (Ext.new hv (.lst ((sel ps).map fr)))).trans (Ext.new hu (.lst []))
      have huS : S u = none := (ex.trans (Ext.new hv (.lst ((sel ps).map fr)))).free hu
      refine for_xs (fun i ρ' S' => S' u = some (.lst ((tog (sel ps).sum (ps.take i)).map fr)) ∧ Ext S S' ∧ ∃ o1 o2, ρ' = [some (shD (ps.map (·.1))), some (nts (idx 0 ps)), o1, some (fr (sel ps).sum), some (.ref u), o2]) ⟨by rw [List.take_zero, sup_same]; rfl, ex1, _, _, rfl⟩ (fun _ _ _ _ => trivial) ?_ ?_
      · rintro i x _ S3 hi ⟨e3, ex3, o1, o2, rfl⟩
        rw [enD_get, List.getElem?_map, List.getElem?_map] at hi
        cases e : ps[i]? with
        | none => rw [e] at hi; cases hi
        | some qb =>
          obtain ⟨q, b⟩ := qb
          rw [e] at hi
          cases (Option.some.inj hi)
          have hil : i < ps.length := by
            cases Nat.lt_or_ge i ps.length with
            | inl h => exact h
            | inr h2 => rw [List.getElem?_eq_none h2] at e; cases e
          have htk : ps.take (i + 1) = ps.take i ++ [(q, b)] := by rw [List.take_succ, e]; rfl
          have hts : ∃ t, (idx 0 ps).head? = some t := by
            cases hq : idx 0 ps with
            | nil =>
              obtain ⟨x, hx, hb⟩ := List.any_eq_true.mp hm
              obtain ⟨j, hj, rfl⟩ := List.mem_iff_getElem.mp hx
              have := (idx_mem ps 0 j).mpr ⟨ps[j].1, by rw [List.getElem?_eq_getElem hj, ← hb]⟩
              rw [hq] at this
              cases this
            | cons t _ => exact ⟨t, rfl⟩
          obtain ⟨t, ht⟩ := hts
          have ht0 : (idx 0 ps)[0]? = some t := by rw [← List.head?_eq_getElem?]; exact ht
          walk_at "w"
          refine ⟨rfl, ?_⟩
          walk_at "w"
          refine ⟨.int (t : Int), atI_nat (j := 0) (by rw [List.getElem?_map, ht0]; rfl), ?_⟩
          walk_at "w"
          have hhd := idx_head ps 0 i
          rw [Nat.zero_add, ht] at hhd
          have hlen : (tog (sel ps).sum (ps.take i)).length ≤ i := by
            have := tog_len (sel ps).sum (ps.take i)
            rw [List.length_take] at this
            omega
          refine IFB.p (fun c => ?_) (fun c => ?_)
          · have ct : t = i := by omega
            subst ct
            obtain ⟨⟨q', hq'⟩, hany⟩ := hhd.mp rfl
            rw [e] at hq'
            cases (Option.some.inj hq')
            walk_at "w"
            refine ⟨⟨_, e3⟩, ?_⟩
            walk_at "w"
            refine ⟨_, e3, by rw [List.length_map]; show _ < 16777216; omega, ?_⟩
            walk_at "w"
            exact ⟨by rw [sup_same, htk, tog_push, if_pos rfl, if_neg (by rw [hany]; decide), List.map_append]; rfl, ex3.wr huS, _, _, rfl⟩
          · have ct : t ≠ i := by omega
            walk_at "w"
            refine ⟨rfl, by simp [fb], ?_⟩
            have hin : inD (.int (i : Int)) ((idx 0 ps).map fun (t : Nat) => D.int (t : Int)) = b := by
              rw [inD_nat]
              have := idx_mem ps 0 i
              rw [Nat.zero_add, e] at this
              cases b with
              | true => exact decide_eq_true (this.mpr ⟨q, rfl⟩)
              | false => exact decide_eq_false fun z => by obtain ⟨_, z⟩ := this.mp z; cases z
            rw [hin]
            cases b with
            | true =>
              refine IFB.f rfl ?_
              walk_at "w"
              have hany : (ps.take i).any (·.2) = true := by
                cases hq : (ps.take i).any (·.2) with
                | true => rfl
                | false => exact absurd (Option.some.inj (hhd.mpr ⟨⟨q, e⟩, hq⟩)) ct
              exact ⟨by rw [e3, htk, tog_push, if_pos rfl, if_pos hany, List.append_nil], ex3, _, _, rfl⟩
            | false =>
              refine IFB.t rfl ?_
              walk_at "w"
              refine ⟨⟨_, e3⟩, ?_⟩
              walk_at "w"
              refine ⟨_, e3, by rw [List.length_map]; show _ < 16777216; omega, ?_⟩
              walk_at "w"
              exact ⟨by rw [sup_same, htk, tog_push, if_neg (show ¬ (false = true) by decide), List.map_append]; rfl, ex3.wr huS, _, _, rfl⟩
      · rintro _ S3 ⟨e3, ex3, o1, o2, rfl⟩
        rw [enD_len, List.length_map, List.length_map, List.take_length] at e3
        walk_at "w"
        refine ⟨_, .inl ⟨u, rfl, e3⟩, ?_⟩
        exact ⟨S, ex3, h⟩

theorem ok_put_together {P : Program} {w : World} {K : PySem.W.Frag} {mg : Str → Option Value} {base : Heap} (T : Txt K mg) : FnOk P w K mg base (L2.CX P w) 6 T.a_put_together T.fd_put_together ["shares", "things"] (toSp K sp_put_together) := by
  refine fnD T.F_put_together sc_put_together (fun ds S Q E h => ?_) (fun cdv A outer s H E RX hr => ⟨_, (pds_cons (pd_expr (pd_call (takes_of rfl rfl rfl rfl) (ok_check_shares T) (hr.mono (by decide)) T.m_check_shares T.F_check_shares.kp T.d_check_shares (pda_cons (pd_var 0) pda_nil)))
    (pds_cons (pd_ifS (pdt_not (pdt_tru (pd_call (takes_of rfl rfl rfl rfl) (ok_are_things T) (hr.mono (by decide)) T.m_are_things T.F_are_things.kp T.d_are_things (pda_cons (pd_var 0) (pda_cons (pd_var 1) pda_nil))))) (pds_one pd_never) pds_nil)
    (pds_one (pd_ret (pd_call (takes_of rfl rfl rfl rfl) (ok_put_together_of T) (hr.mono (by decide)) T.m_put_together_of T.F_put_together_of.kp T.d_put_together_of (pda_cons (pd_var 0) (pda_cons (pd_var 1) pda_nil))))))), fun ds S Q h => ?_⟩)
  · obtain ⟨_, _, rfl, _⟩ := h
    rfl
  · obtain ⟨N, ps, rfl, hs, hN, hm, hl, h⟩ := h
    walk_at "w"
    refine ⟨_, N, rfl, hs, hN, by rw [List.length_map]; exact hl, ?_⟩
    walk_at "w"
    have hlen := idx_len ps 0
    refine ⟨_, _, rfl, idx_ne hm, by omega, ?_⟩
    rw [ascD_true (idx_asc ps 0), show ((idx 0 ps).map fun t => decide (t < (ps.map (·.1)).length)).all id = true by
      rw [List.all_map, List.all_eq_true]
      intro t ht
      exact decide_eq_true (by rw [List.length_map]; exact idx_lt ps t ht)]
    walk_at "g"
    exact ⟨N, ps, rfl, hs, hN, hm, hl, h⟩

theorem ok_check_thing {P : Program} {w : World} {K : PySem.W.Frag} {mg : Str → Option Value} {base : Heap} (T : Txt K mg) : FnOk P w K mg base (L2.CX P w) 4 T.a_check_thing T.fd_check_thing ["shares", "thing"] (toSp K sp_check_thing) := by
  refine fnD T.F_check_thing sc_check_thing (fun ds S Q E h => ?_) (fun cdv A outer s H E RX hr => ⟨_, (pds_one (pd_ifS (pdt_not (pdt_tru (pd_call (takes_of rfl rfl rfl rfl) (ok_is_below T) (hr.mono (by decide)) T.m_is_below T.F_is_below.kp T.d_is_below (pda_cons (pd_var 1) (pda_cons (pd_blt cd_len T.b_len (by decide +kernel) (pda_cons (pd_var 0) pda_nil)) pda_nil))))) (pds_one pd_never) pds_nil)), fun ds S Q h => ?_⟩)
  · obtain ⟨_, _, rfl, _⟩ := h
    rfl
  · obtain ⟨qs, t, rfl, h0, h1, h⟩ := h
    walk_at "w"
    refine ⟨t, _, rfl, h0, ?_⟩
    rw [decide_eq_true (show t < ((qs.map fr).length : Int) by rw [List.length_map]; exact h1)]
    walk_at "g"
    exact h

theorem ok_parted {P : Program} {w : World} {K : PySem.W.Frag} {mg : Str → Option Value} {base : Heap} (T : Txt K mg) : FnOk P w K mg base (L2.CX P w) 6 T.a_parted T.fd_parted ["shares", "thing", "parts"] (toSp K sp_parted) := by
  refine fnE T.F_parted sc_parted (fun ds S Q E h => ?_) (fun cdv A outer s H E RX hr => ⟨_, (pds_cons (pd_expr (pd_call (takes_of rfl rfl rfl rfl) (ok_check_shares T) (hr.mono (by decide)) T.m_check_shares T.F_check_shares.kp T.d_check_shares (pda_cons (pd_var 0) pda_nil)))
    (pds_cons (pd_expr (pd_call (takes_of rfl rfl rfl rfl) (ok_check_shares T) (hr.mono (by decide)) T.m_check_shares T.F_check_shares.kp T.d_check_shares (pda_cons (pd_var 2) pda_nil)))
    (pds_cons (pd_expr (pd_call (takes_of rfl rfl rfl rfl) (ok_check_thing T) (hr.mono (by decide)) T.m_check_thing T.F_check_thing.kp T.d_check_thing (pda_cons (pd_var 0) (pda_cons (pd_var 1) pda_nil))))
    (pds_one (pd_ret (pd_bin od_add (pd_bin od_add (pd_slice (pd_var 0) pdo_none (pdo_some (pd_var 1))) (pd_bltTy cd_tuple T.b_tuple (by decide +kernel) (pda_cons (pd_lc (own := [("part", 3)]) (p := .n 3) rfl sc_parted.nd (pdi_it (pd_var 2)) (blkOk_by (N := ["shares", "thing", "parts", "part"]) (sc := defScope s_parted) (own := [("part", 3)]) (by decide +kernel)) (fun _ _ _ _ _ => (pg_name (i := 3) sc_parted.nd rfl (by first | exact Or.inl rfl | exact Or.inr rfl))) (fun _ _ _ _ _ => pdts_nil) (fun _ _ _ _ _ => (pd_call takes0 (ok_product T) (hr.mono (by decide)) T.m_product T.F_product.kp T.d_product (pda_cons (pd_ix (pd_var 0) (pd_var 1)) (pda_cons (pd_var 3) pda_nil))))) pda_nil))) (pd_slice (pd_var 0) (pdo_some (pd_bin od_add (pd_var 1) pd_int)) pdo_none))))))), fun ds S Q h => ?_⟩)
  · obtain ⟨_, _, _, _, _, rfl, _⟩ := h
    rfl
  · obtain ⟨qs, bs, N, M, t, rfl, hs, hs2, hN, hM, hl, hl2, ht, h⟩ := h
    walk_at "w"
    refine ⟨qs, N, rfl, hs, hN, by omega, ?_⟩
    walk_at "w"
    refine ⟨bs, M, rfl, hs2, hM, by omega, ?_⟩
    walk_at "w"
    refine ⟨qs, _, rfl, by omega, by omega, ?_⟩
    have hq : qs[t]? = some qs[t] := List.getElem?_eq_getElem ht
    walk_at "w"
    refine lc_xsm (mulD qs[t]) (fun _ _ => trivial) ?_ ?_
    · rintro i x acc S2 hi w2
      obtain ⟨q, hq2, rfl⟩ := fr_at hi
      walk_at "w"
      refine IFB.t rfl ?_
      walk_at "w"
      refine ⟨fr qs[t], atI_nat (by rw [List.getElem?_map, hq]; rfl), ?_⟩
      walk_at "w"
      refine ⟨qs[t], q, rfl, (hs.rb hN (List.mem_of_getElem? hq)).mono (by decide), (hs2.rb hM (List.mem_of_getElem? hq2)).mono (by decide), ?_⟩
      exact lc_leafL hi w2 (by rw [List.length_map]; show _ ≤ 16777216; omega) (mulD_fr _ _).symm (Ext.refl _)
    · rintro S2 v ex hv
      walk_at "w"
      refine ⟨_, .inl ⟨v, rfl, sup_same⟩, ?_⟩
      walk_at "w"
      refine ⟨by simp only [List.length_map, DL.cutD, List.length_take, List.length_drop]; show _ ≤ 16777216; omega, ?_⟩
      walk_at "w"
      refine ⟨by simp only [List.length_append, List.length_map, DL.cutD, List.length_take, List.length_drop]; show _ ≤ 16777216; omega, ?_⟩
      have e : DL.cutD (qs.map fr) none (some (t : Int)) ++ (bs.map fr).map (mulD qs[t]) ++ DL.cutD (qs.map fr) (some ((t : Int) + 1)) none = (qs.take t ++ bs.map (qs[t]?.getD 0 * ·) ++ qs.drop (t + 1)).map fr := by
        rw [cut_to (by rw [List.length_map]; omega), show ((t : Int) + 1) = ((t + 1 : Nat) : Int) by omega, cut_from (by rw [List.length_map]; omega), hq, List.map_append, List.map_append, List.map_take, List.map_drop, List.map_map, List.map_map]
        congr 2
        apply List.map_congr_left
        intro q _
        exact mulD_fr _ _
      rw [e]
      exact ⟨S, ex.trans (Ext.new hv _), h⟩

theorem ok_both_of {P : Program} {w : World} {K : PySem.W.Frag} {mg : Str → Option Value} {base : Heap} (T : Txt K mg) : FnOk P w K mg base (L2.CX P w) 3 T.a_both_of T.fd_both_of ["one", "other"] (toSp K sp_both_of) := by
  refine fnE T.F_both_of sc_both_of (fun ds S Q E h => ?_) (fun cdv A outer s H E RX hr => ⟨_, (pds_one (pd_ret (pd_bltTy cd_tuple T.b_tuple (by decide +kernel) (pda_cons (pd_lc2 (own := [("first", 2), ("second", 3)]) (vs1 := [3]) (p := .n 2) (p1 := .n 3) rfl sc_both_of.nd (pdi_it (pd_var 0)) (blkOk_by (N := ["one", "other", "first", "second"]) (sc := defScope s_both_of) (own := [("first", 2), ("second", 3)]) (by decide +kernel)) (fun _ _ _ _ _ => (pg_name (i := 2) sc_both_of.nd rfl (by first | exact Or.inl rfl | exact Or.inr rfl))) (fun _ _ _ _ _ => pdts_nil) (fun _ _ _ _ _ => (pdi_it (pd_var 1))) (fun _ _ _ _ _ => (pg_name (i := 3) sc_both_of.nd rfl (by first | exact Or.inl rfl | exact Or.inr rfl))) (fun _ _ _ _ _ => pdts_nil) (fun _ _ _ _ _ => (pd_call takes0 (ok_product T) (hr.mono (by decide)) T.m_product T.F_product.kp T.d_product (pda_cons (pd_var 2) (pda_cons (pd_var 3) pda_nil))))) pda_nil)))), fun ds S Q h => ?_⟩)
  · obtain ⟨_, _, _, _, rfl, _⟩ := h
    rfl
  · obtain ⟨as, bs, N, M, rfl, hs, hs2, hN, hM, hl, hl2, h⟩ := h
    walk_at "w"
    intro v hv
    refine ⟨fun i S' => S' v = some (.lst ((prods (as.take i) bs).map fr)) ∧ Ext S S', ⟨by rw [sup_same]; rfl, Ext.new hv _⟩, ?_⟩
    rintro i S1 ⟨e1, ex1⟩
    refine ⟨trivial, fun x hx => ?_, fun hi => ?_⟩
    · obtain ⟨a, ha, rfl⟩ := fr_at hx
      have hi : i < as.length := by
        cases Nat.lt_or_ge i as.length with
        | inl h => exact h
        | inr h2 => rw [List.getElem?_eq_none h2] at ha; cases ha
      have htk : prods (as.take (i + 1)) bs = prods (as.take i) bs ++ bs.map (a * ·) := by
        unfold prods
        rw [List.take_succ, ha, List.flatMap_append]
        simp
      have hpl : (prods (as.take i) bs).length ≤ i * bs.length := by
        have := prods_len (as.take i) bs
        rw [List.length_take, Nat.min_eq_left (by omega)] at this
        omega
      have hib : i * bs.length ≤ 1000 * 1000 := Nat.mul_le_mul (by omega) (by omega)
      walk_at "w"
      refine IFB.t rfl ?_
      walk_at "w"
      refine ⟨fun j S' => S' v = some (.lst ((prods (as.take i) bs ++ (bs.take j).map (a * ·)).map fr)) ∧ Ext S S', ⟨by rw [e1, List.take_zero, List.map_nil, List.append_nil], ex1⟩, ?_⟩
      rintro j S2 ⟨e2, ex2⟩
      refine ⟨trivial, fun y hy => ?_, fun hj => ?_⟩
      · obtain ⟨b, hb, rfl⟩ := fr_at hy
        walk_at "w"
        refine IFB.t rfl ?_
        walk_at "w"
        refine ⟨a, b, rfl, (hs.rb hN (List.mem_of_getElem? ha)).mono (by decide), (hs2.rb hM (List.mem_of_getElem? hb)).mono (by decide), ?_⟩
        refine ⟨_, e2, by rw [List.length_map, List.length_append, List.length_map, List.length_take]; show _ < 16777216; omega, ?_, ex2.wr hv⟩
        rw [sup_same, List.take_succ, hb, List.map_append, List.map_append, List.map_append, List.map_append]
        simp
      · subst hj
        rw [List.length_map, List.take_length] at e2
        exact ⟨by rw [e2, htk], ex2⟩
    · subst hi
      rw [List.length_map, List.take_length] at e1
      walk_at "w"
      refine ⟨_, .inl ⟨v, rfl, e1⟩, ?_⟩
      exact ⟨S, ex1, h⟩

theorem ok_both {P : Program} {w : World} {K : PySem.W.Frag} {mg : Str → Option Value} {base : Heap} (T : Txt K mg) : FnOk P w K mg base (L2.CX P w) 6 T.a_both T.fd_both ["one", "other"] (toSp K sp_both) := by
  refine fnD T.F_both sc_both (fun ds S Q E h => ?_) (fun cdv A outer s H E RX hr => ⟨_, (pds_cons (pd_expr (pd_call (takes_of rfl rfl rfl rfl) (ok_check_shares T) (hr.mono (by decide)) T.m_check_shares T.F_check_shares.kp T.d_check_shares (pda_cons (pd_var 0) pda_nil)))
    (pds_cons (pd_expr (pd_call (takes_of rfl rfl rfl rfl) (ok_check_shares T) (hr.mono (by decide)) T.m_check_shares T.F_check_shares.kp T.d_check_shares (pda_cons (pd_var 1) pda_nil)))
    (pds_one (pd_ret (pd_call (takes_of rfl rfl rfl rfl) (ok_both_of T) (hr.mono (by decide)) T.m_both_of T.F_both_of.kp T.d_both_of (pda_cons (pd_var 0) (pda_cons (pd_var 1) pda_nil))))))), fun ds S Q h => ?_⟩)
  · obtain ⟨_, _, _, _, rfl, _⟩ := h
    rfl
  · obtain ⟨as, bs, N, M, rfl, hs, hs2, hN, hM, hl, hl2, h⟩ := h
    walk_at "w"
    refine ⟨as, N, rfl, hs, hN, by omega, ?_⟩
    walk_at "w"
    refine ⟨bs, M, rfl, hs2, hM, by omega, ?_⟩
    walk_at "w"
    exact ⟨as, bs, N, M, rfl, hs, hs2, hN, hM, hl, hl2, h⟩
end K53
set_option Elab.async false
set_option linter.all false
set_option maxRecDepth 100000
set_option maxHeartbeats 4000000
namespace K53
open PySem PySem.Spec PyProof.Rows L2 DL
local macro_rules | `(tactic| walk_at "w") => `(tactic| conv => whnf)
local macro_rules | `(tactic| walk_at "g") => `(tactic| ((conv => whnf); repeat' (first | (refine IFB.t ?_ ?_; rfl; conv => whnf) | (refine IFB.f ?_ ?_; rfl; conv => whnf))))

/-! figures of a number, plain -/
def p2 (k : Nat) : Rat := ((2 ^ k : Int) : Rat)
theorem p2_pos (k : Nat) : 0 < p2 k := ratPos (pow2_pos k)
theorem p2_ne (k : Nat) : p2 k ≠ 0 := ratNe (pow2_pos k)
theorem p2_zero : p2 0 = 1 := rfl
theorem p2_add (a b : Nat) : p2 (a + b) = p2 a * p2 b := by
  unfold p2
  rw [← Rat.intCast_mul, ← Int.pow_add]
theorem p2_succ (k : Nat) : p2 (k + 1) = 2 * p2 k := by
  rw [p2_add, Rat.mul_comm]
  rfl
theorem p2_big {m : Nat} (h : 1 ≤ m) : 2 ≤ p2 m := by
  obtain ⟨k, rfl⟩ : ∃ k, m = k + 1 := ⟨m - 1, by omega⟩
  rw [p2_succ]
  have : (1 : Int) ≤ 2 ^ k := by have := pow2_pos k; omega
  have h2 := Rat.intCast_le_intCast.mpr this
  have h3 : (1 : Rat) ≤ p2 k := h2
  grind
theorem p2m_ne {m : Nat} (h : 1 ≤ m) : p2 m - 1 ≠ 0 := by
  have := p2_big h
  grind
def stp (r : Rat) : Int := if r + r < 1 then 0 else 1
theorem int_small {z : Int} (h1 : (-1 : Rat) < (z : Rat)) (h2 : (z : Rat) < 1) : z = 0 := by
  have a1 : ((-1 : Int) : Rat) < (z : Rat) := h1
  have a2 : (z : Rat) < ((1 : Int) : Rat) := h2
  have b1 := Rat.intCast_lt_intCast.mp a1
  have b2 := Rat.intCast_lt_intCast.mp a2
  omega
theorem restQ_lt (q : Rat) (k : Nat) : restQ q k < 1 := by
  unfold restQ
  have hd := den_pos' q
  have h1 : (q.num * 2 ^ k) % (q.den : Int) < (q.den : Int) := Int.emod_lt_of_pos _ hd
  have h2 := ratPos hd
  have h3 := ratNe hd
  have h4 := Rat.intCast_lt_intCast.mpr h1
  generalize (((q.num * 2 ^ k) % (q.den : Int) : Int) : Rat) = a at *
  generalize ((q.den : Int) : Rat) = b at *
  refine Rat.not_le.mp fun z => ?_
  have := Rat.mul_le_mul_of_nonneg_right z (Rat.le_of_lt h2)
  have e : a / b * b = a := by grind
  rw [e, Rat.one_mul] at this
  exact absurd h4 (Rat.not_lt.mpr this)
theorem frac_step {r s : Rat} {z : Int} (h0 : 0 ≤ r) (h1 : r < 1) (s0 : 0 ≤ s) (s1 : s < 1) (e : r + r - s = (z : Rat)) : s = r + r - (stp r : Rat) := by
  unfold stp
  split
  · rename_i c
    have : z = 0 := int_small (by rw [← e]; grind) (by rw [← e]; grind)
    subst this
    have : ((0 : Int) : Rat) = 0 := rfl
    grind
  · rename_i c
    have : z - 1 = 0 := int_small (by rw [Rat.intCast_sub, ← e]; have : ((1 : Int) : Rat) = 1 := rfl; grind) (by rw [Rat.intCast_sub, ← e]; have : ((1 : Int) : Rat) = 1 := rfl; grind)
    have hz : z = 1 := by omega
    subst hz
    grind
theorem rest_succ (u : Rat) (i : Nat) : restQ u (i + 1) = restQ u i + restQ u i - (stp (restQ u i) : Rat) := by
  refine frac_step (z := u.num * 2 ^ (i + 1) / (u.den : Int) - 2 * (u.num * 2 ^ i / (u.den : Int))) (restQ_nn u i) (restQ_lt u i) (restQ_nn u (i + 1)) (restQ_lt u (i + 1)) ?_
  rw [restQ_eq, restQ_eq, Rat.intCast_sub, Rat.intCast_mul]
  have : ((2 ^ (i + 1) : Int) : Rat) = 2 * ((2 ^ i : Int) : Rat) := p2_succ i
  have t : ((2 : Int) : Rat) = 2 := rfl
  rw [this, t]
  grind
theorem rest_rest (u : Rat) (i : Nat) : restQ (restQ u i) 1 = restQ u (i + 1) := by
  rw [rest_succ u i]
  refine frac_step (z := (restQ u i).num * 2 ^ 1 / ((restQ u i).den : Int)) (restQ_nn u i) (restQ_lt u i) (restQ_nn _ 1) (restQ_lt _ 1) ?_
  rw [restQ_eq (restQ u i) 1]
  have : ((2 ^ 1 : Int) : Rat) = 2 := rfl
  rw [this]
  grind
/-- the figures -/
def lineF (u : Rat) : Nat → Int
  | 0 => u.num / (u.den : Int)
  | i + 1 => stp (restQ u i)
def xQ (u : Rat) (i : Nat) : Rat := restQ u i / p2 i
theorem line_x (u : Rat) (i : Nat) : (lineF u (i + 1) : Rat) / p2 (i + 1) = xQ u i - xQ u (i + 1) := by
  unfold xQ
  have := rest_succ u i
  have h1 := p2_ne i
  rw [this, p2_succ]
  show (stp (restQ u i) : Rat) / _ = _
  generalize (stp (restQ u i) : Rat) = z
  generalize restQ u i = r
  generalize p2 i = p at *
  grind
theorem line_zero (u : Rat) : (lineF u 0 : Rat) = u - xQ u 0 := by
  unfold xQ
  rw [restQ_eq, p2_zero]
  show ((u.num / (u.den : Int) : Int) : Rat) = _
  have : ((2 ^ 0 : Int) : Rat) = 1 := rfl
  have e : u.num * 2 ^ 0 = u.num := by omega
  rw [this, e]
  grind
def val (p : Nat) : List Int → Rat
  | [] => 0
  | a :: l => (a : Rat) / p2 p + val (p + 1) l
def wal (p : Nat) : List Int → Rat
  | [] => 0
  | a :: l => (p : Rat) * ((a : Rat) / p2 p) + wal (p + 1) l
theorem val_app : ∀ (l k : List Int) (p : Nat), val p (l ++ k) = val p l + val (p + l.length) k
  | [], k, p => by show val p k = 0 + val (p + 0) k; rw [Rat.zero_add]; rfl
  | a :: l, k, p => by
    show _ / _ + val (p + 1) (l ++ k) = (_ / _ + val (p + 1) l) + val (p + (l.length + 1)) k
    rw [val_app l k (p + 1), show p + (l.length + 1) = p + 1 + l.length by omega]
    grind
theorem wal_app : ∀ (l k : List Int) (p : Nat), wal p (l ++ k) = wal p l + wal (p + l.length) k
  | [], k, p => by show wal p k = 0 + wal (p + 0) k; rw [Rat.zero_add]; rfl
  | a :: l, k, p => by
    show _ * _ + wal (p + 1) (l ++ k) = (_ * _ + wal (p + 1) l) + wal (p + (l.length + 1)) k
    rw [wal_app l k (p + 1), show p + (l.length + 1) = p + 1 + l.length by omega]
    grind
theorem val_shift : ∀ (l : List Int) (p d : Nat), val (p + d) l = val p l / p2 d
  | [], p, d => by show (0 : Rat) = 0 / _; have := p2_ne d; grind
  | a :: l, p, d => by
    show _ / p2 (p + d) + val (p + d + 1) l = (_ / p2 p + val (p + 1) l) / p2 d
    rw [show p + d + 1 = p + 1 + d by omega, val_shift l (p + 1) d, p2_add]
    have h1 := p2_ne p
    have h2 := p2_ne d
    generalize val (p + 1) l = v
    generalize p2 p = x at *
    generalize p2 d = y at *
    grind
def seg (u : Rat) (p m : Nat) : List Int := (List.range m).map fun i => lineF u (p + i)
theorem seg_succ (u : Rat) (p m : Nat) : seg u p (m + 1) = seg u p m ++ [lineF u (p + m)] := by
  unfold seg
  rw [List.range_succ, List.map_append]
  rfl
theorem seg_len (u : Rat) (p m : Nat) : (seg u p m).length = m := by unfold seg; rw [List.length_map, List.length_range]
theorem natR_succ (n : Nat) : ((n + 1 : Nat) : Rat) = (n : Rat) + 1 := by simp
theorem val_seg (u : Rat) (p : Nat) : ∀ m, val (p + 1) (seg u (p + 1) m) = xQ u p - xQ u (p + m)
  | 0 => by show (0 : Rat) = _; rw [Nat.add_zero]; grind
  | m + 1 => by
    rw [seg_succ, val_app, val_seg u p m, seg_len]
    show _ + ((lineF u (p + 1 + m) : Rat) / p2 (p + 1 + m) + 0) = _
    rw [show p + 1 + m = (p + m) + 1 by omega, line_x, show p + (m + 1) = p + m + 1 by omega]
    grind
def sumX (u : Rat) (p : Nat) : Nat → Rat
  | 0 => 0
  | m + 1 => sumX u p m + xQ u (p + m)
theorem wal_seg (u : Rat) (p : Nat) : ∀ m, wal (p + 1) (seg u (p + 1) m) = sumX u p m + (p : Rat) * xQ u p - ((p + m : Nat) : Rat) * xQ u (p + m)
  | 0 => by show (0 : Rat) = 0 + _ - _; rw [Nat.add_zero]; grind
  | m + 1 => by
    rw [seg_succ, wal_app, wal_seg u p m, seg_len]
    show _ + (((p + 1 + m : Nat) : Rat) * ((lineF u (p + 1 + m) : Rat) / p2 (p + 1 + m)) + 0) = (sumX u p m + xQ u (p + m)) + _ - _
    rw [show p + 1 + m = (p + m) + 1 by omega, line_x, show p + (m + 1) = p + m + 1 by omega, natR_succ]
    grind
theorem seg_head (u : Rat) (m : Nat) : seg u 0 (m + 1) = lineF u 0 :: seg u 1 m := by
  unfold seg
  rw [List.range_succ_eq_map, List.map_cons, List.map_map]
  congr 1
  apply List.map_congr_left
  intro i _
  show lineF u (0 + (i + 1)) = lineF u (1 + i)
  rw [show 0 + (i + 1) = 1 + i by omega]
theorem val_seg0 (u : Rat) (m : Nat) : val 0 (seg u 0 (m + 1)) = u - xQ u m := by
  rw [seg_head]
  show (lineF u 0 : Rat) / p2 0 + val (0 + 1) (seg u (0 + 1) m) = _
  rw [val_seg, line_zero, p2_zero, Nat.zero_add]
  grind
theorem wal_seg0 (u : Rat) (m : Nat) : wal 0 (seg u 0 (m + 1)) = sumX u 0 m - (m : Rat) * xQ u m := by
  rw [seg_head]
  show ((0 : Nat) : Rat) * _ + wal (0 + 1) (seg u (0 + 1) m) = _
  rw [wal_seg, Nat.zero_add]
  have : ((0 : Nat) : Rat) = 0 := rfl
  rw [this]
  grind
/-- the number and the cost that figures tell -/
def wQ (m : Nat) : Rat := p2 m / (p2 m - 1)
def numV (A G : List Int) : Rat := val 0 A + val A.length G * wQ G.length
def costV (A G : List Int) : Rat := wal 0 A + wal A.length G * wQ G.length + (G.length : Rat) * (val A.length G * wQ G.length) / (p2 G.length - 1)
theorem xQ_per {u : Rat} {j m : Nat} (h : restQ u (j + m) = restQ u j) : xQ u (j + m) = xQ u j / p2 m := by
  unfold xQ
  rw [h, p2_add]
  have h1 := p2_ne j
  have h2 := p2_ne m
  generalize p2 j = a at *
  generalize p2 m = b at *
  grind
theorem num_raw {u : Rat} {j m : Nat} (hm : 1 ≤ m) (h : restQ u (j + m) = restQ u j) : numV (seg u 0 (j + 1)) (seg u (j + 1) m) = u := by
  unfold numV
  rw [seg_len, seg_len, val_seg0, val_seg, xQ_per h]
  have h1 := p2m_ne hm
  have h2 := p2_ne m
  unfold wQ
  generalize xQ u j = x
  generalize p2 m = p at *
  have : (x - x / p) * (p / (p - 1)) = x := by grind
  rw [this]
  grind
theorem cost_raw {u : Rat} {j m : Nat} (hm : 1 ≤ m) (h : restQ u (j + m) = restQ u j) : costV (seg u 0 (j + 1)) (seg u (j + 1) m) = sumX u 0 j + sumX u j m * wQ m := by
  unfold costV
  rw [seg_len, seg_len, wal_seg0, wal_seg, val_seg, xQ_per h]
  have h1 := p2m_ne hm
  have h2 := p2_ne m
  have h3 : ((j + m : Nat) : Rat) = (j : Rat) + (m : Rat) := by simp
  unfold wQ
  rw [h3]
  generalize xQ u j = x
  generalize sumX u 0 j = s
  generalize sumX u j m = t
  generalize (j : Rat) = y
  generalize (m : Rat) = z
  generalize p2 m = p at *
  have e : (x - x / p) * (p / (p - 1)) = x := by grind
  rw [e]
  have e2 : (t + y * x - (y + z) * (x / p)) * (p / (p - 1)) = t * (p / (p - 1)) + y * x - z * x / (p - 1) := by grind
  rw [e2]
  grind
theorem num_rot (A G : List Int) (x : Int) : numV (A ++ [x]) (G ++ [x]) = numV A (x :: G) := by
  unfold numV
  rw [List.length_append, List.length_append, List.length_cons, val_app, val_app]
  show (val 0 A + ((x : Rat) / p2 (0 + A.length) + 0)) + (val (A.length + 1) G + ((x : Rat) / p2 (A.length + 1 + G.length) + 0)) * wQ (G.length + 1) = val 0 A + ((x : Rat) / p2 A.length + val (A.length + 1) G) * wQ (G.length + 1)
  have h1 := p2m_ne (m := G.length + 1) (by omega)
  have h2 := p2_ne (G.length + 1)
  have h3 := p2_ne A.length
  rw [Nat.zero_add, show A.length + 1 + G.length = A.length + (G.length + 1) by omega, p2_add]
  unfold wQ
  generalize val (A.length + 1) G = v
  generalize p2 A.length = a at *
  generalize p2 (G.length + 1) = p at *
  grind
theorem cost_rot (A G : List Int) (x : Int) : costV (A ++ [x]) (G ++ [x]) = costV A (x :: G) := by
  unfold costV
  rw [List.length_append, List.length_append, List.length_cons, val_app, wal_app, wal_app]
  show (wal 0 A + (((0 + A.length : Nat) : Rat) * ((x : Rat) / p2 (0 + A.length)) + 0)) + (wal (A.length + 1) G + (((A.length + 1 + G.length : Nat) : Rat) * ((x : Rat) / p2 (A.length + 1 + G.length)) + 0)) * wQ (G.length + 1) + ((G.length + 1 : Nat) : Rat) * ((val (A.length + 1) G + ((x : Rat) / p2 (A.length + 1 + G.length) + 0)) * wQ (G.length + 1)) / (p2 (G.length + 1) - 1) =
    wal 0 A + ((A.length : Rat) * ((x : Rat) / p2 A.length) + wal (A.length + 1) G) * wQ (G.length + 1) + ((G.length + 1 : Nat) : Rat) * (((x : Rat) / p2 A.length + val (A.length + 1) G) * wQ (G.length + 1)) / (p2 (G.length + 1) - 1)
  have h1 := p2m_ne (m := G.length + 1) (by omega)
  have h2 := p2_ne (G.length + 1)
  have h3 := p2_ne A.length
  have h4 : ((A.length + (G.length + 1) : Nat) : Rat) = (A.length : Rat) + ((G.length + 1 : Nat) : Rat) := by simp
  rw [Nat.zero_add, show A.length + 1 + G.length = A.length + (G.length + 1) by omega, p2_add, h4]
  unfold wQ
  generalize val (A.length + 1) G = v
  generalize wal (A.length + 1) G = y
  generalize wal 0 A = t
  generalize ((G.length + 1 : Nat) : Rat) = m
  generalize (A.length : Rat) = n
  generalize p2 A.length = a at *
  generalize p2 (G.length + 1) = p at *
  generalize (x : Rat) = z
  have e : z / (a * p) = z / a / p := by grind
  rw [e]
  generalize z / a = c
  generalize hq : p / (p - 1) = q
  have hq1 : c / p * q = c / (p - 1) := by rw [← hq]; grind
  have hq2 : c * q = c + c / (p - 1) := by rw [← hq]; grind
  have k1 : (y + ((n + m) * (c / p) + 0)) * q = y * q + (n + m) * (c / (p - 1)) := by
    rw [← hq1]; grind
  have k2 : (v + (c / p + 0)) * q = v * q + c / (p - 1) := by rw [← hq1]; grind
  have k3 : (n * c + y) * q = n * (c + c / (p - 1)) + y * q := by rw [← hq2]; grind
  have k4 : (c + v) * q = c + c / (p - 1) + v * q := by rw [← hq2]; grind
  rw [k1, k2, k3, k4]
  generalize hd : c / (p - 1) = d
  have hd2 : c = d * (p - 1) := by rw [← hd]; grind
  have k5 : m * (v * q + d) / (p - 1) = m * (v * q) / (p - 1) + m * d / (p - 1) := by grind
  have k6 : m * (c + d + v * q) / (p - 1) = m * d + m * d / (p - 1) + m * (v * q) / (p - 1) := by rw [hd2]; grind
  rw [k5, k6]
  grind
theorem num_long (A G : List Int) (h : 1 ≤ G.length) : numV (A ++ G) (G ++ G) = numV A G := by
  unfold numV
  rw [List.length_append, List.length_append, val_app, val_app, Nat.zero_add, show A.length + G.length + G.length = A.length + (G.length + G.length) by omega, val_shift G A.length G.length, val_shift G A.length (G.length + G.length), p2_add]
  have h1 := p2m_ne h
  have h2 := p2_ne G.length
  have h3 := p2m_ne (m := G.length + G.length) (by omega)
  unfold wQ
  rw [p2_add] at *
  have hb := p2_big h
  generalize val A.length G = v
  generalize val 0 A = t
  generalize p2 G.length = p at *
  have hp1 : p + 1 ≠ 0 := by grind
  have e : p * p - 1 = (p - 1) * (p + 1) := by grind
  rw [e] at *
  have k : (v / p + v / (p * p)) * (p * p / ((p - 1) * (p + 1))) = v / (p - 1) := by grind
  rw [k]
  grind
/-! shortened -/
def cutK (L : List Int) (m : Nat) : Nat → Nat
  | 0 => 0
  | a + 1 => if L[a]? = L[a + m]? then cutK L m a else a + 1
theorem cutK_le (L : List Int) (m : Nat) : ∀ a, cutK L m a ≤ a
  | 0 => Nat.le_refl _
  | a + 1 => by
    unfold cutK
    split
    · have := cutK_le L m a; omega
    · exact Nat.le_refl _
theorem cut_inv {α : Type} (F : List Int → List Int → α) (hF : ∀ A G x, F (A ++ [x]) (G ++ [x]) = F A (x :: G)) (L : List Int) (m : Nat) (hm : 1 ≤ m) : ∀ a, a + m ≤ L.length → F (L.take (cutK L m a)) ((L.drop (cutK L m a)).take m) = F (L.take a) ((L.drop a).take m)
  | 0, _ => rfl
  | a + 1, h => by
    unfold cutK
    split
    · rename_i e
      rw [cut_inv F hF L m hm a (by omega)]
      obtain ⟨k, rfl⟩ : ∃ k, m = k + 1 := ⟨m - 1, by omega⟩
      have ha : a < L.length := by omega
      have hb : a + (k + 1) < L.length := by omega
      rw [List.getElem?_eq_getElem ha, List.getElem?_eq_getElem hb] at e
      have e := Option.some.inj e
      have t1 : L.take (a + 1) = L.take a ++ [L[a]] := by rw [List.take_succ, List.getElem?_eq_getElem ha]; rfl
      have t2 : (L.drop (a + 1)).take (k + 1) = (L.drop (a + 1)).take k ++ [L[a]] := by
        rw [List.take_succ, List.getElem?_drop, show a + 1 + k = a + (k + 1) by omega, List.getElem?_eq_getElem hb, ← e]
        rfl
      have t3 : (L.drop a).take (k + 1) = L[a] :: (L.drop (a + 1)).take k := by rw [List.drop_eq_getElem_cons ha, List.take_succ_cons]
      rw [t1, t2, t3, hF]
    · rfl
end K53
set_option Elab.async false
set_option linter.all false
set_option maxRecDepth 100000
set_option maxHeartbeats 4000000
namespace K53
open PySem PySem.Spec PyProof.Rows L2 DL
local macro_rules | `(tactic| walk_at "w") => `(tactic| conv => whnf)
local macro_rules | `(tactic| walk_at "g") => `(tactic| ((conv => whnf); repeat' (first | (refine IFB.t ?_ ?_; rfl; conv => whnf) | (refine IFB.f ?_ ?_; rfl; conv => whnf))))
set_option exponentiation.threshold 9000
theorem sup_of {S S' : Sto} {p : Addr} {c : Cell} (h : DL.sup S p c = S') : S' p = some c ∧ (S p = none → Ext S S') ∧ ∀ b, b ≠ p → S' b = S b := by
  subst h
  exact ⟨sup_same, fun e => Ext.new e c, fun b hb => sup_ne hb⟩

theorem rb_mul {a b : Rat} {n m : Nat} (h1 : RB n a) (h2 : RB m b) : RB (n + m) (a * b) := by
  rw [← mul_fr]
  refine rb_div (Int.mul_pos (den_pos' a) (den_pos' b)) ?_ ?_
  · rw [Int.natAbs_mul, Nat.pow_add]; exact Nat.mul_lt_mul'' h1.1 h2.1
  · rw [Int.natAbs_mul, Int.natAbs_natCast, Int.natAbs_natCast, Nat.pow_add]; exact Nat.mul_lt_mul'' h1.2 h2.2

def figs (l : List Int) : D := .tup (l.map D.int)
theorem sIx_m1 (n d : Nat) : HT.sIx n d (some (-1)) = n - 1 := by
  show (if (-1 : Int) < 0 then ((-1 : Int) + (n : Int)).toNat else min (-1 : Int).toNat n) = n - 1
  rw [if_pos (by decide)]
  omega
theorem cut_m1 {xs : List D} (h : 0 < xs.length) : DL.cutD xs none (some (-1)) = xs.take (xs.length - 1) := by
  unfold DL.cutD
  rw [HT.sIx_none, sIx_m1]
  simp
theorem cut_l1 {xs : List D} (h : 0 < xs.length) : DL.cutD xs (some (-1)) none = xs.drop (xs.length - 1) := by
  unfold DL.cutD
  rw [HT.sIx_none, sIx_m1]
  rw [List.take_of_length_le (by rw [List.length_drop]; omega)]
theorem at_m1 {xs : List D} {x : D} (h : xs[xs.length - 1]? = some x) (h0 : 0 < xs.length) : atI xs (-1) = some x := by
  unfold atI
  have e : ixN xs.length (-1) = some (xs.length - 1) := by
    unfold ixN
    rw [if_neg (by decide), if_pos (by omega)]
    congr 1
    omega
  rw [e]
  exact h
theorem win {L : List Int} {a m : Nat} (h : a + m ≤ L.length) : ((L.drop a).take m).length = m := by rw [List.length_take, List.length_drop]; omega
theorem win_at {L : List Int} {a m i : Nat} (h : a + m ≤ L.length) (hi : i < m) : ((L.drop a).take m)[i]? = L[a + i]? := by rw [List.getElem?_take, if_pos hi, List.getElem?_drop]
theorem win_rot {L : List Int} {a k : Nat} (h : a + 1 + (k + 1) ≤ L.length) (e : L[a]? = L[a + (k + 1)]?) : (((L.drop (a + 1)).take (k + 1)).map D.int).drop k ++ (((L.drop (a + 1)).take (k + 1)).map D.int).take k = ((L.drop a).take (k + 1)).map D.int := by
  have ha : a < L.length := by omega
  have hb : a + (k + 1) < L.length := by omega
  rw [List.getElem?_eq_getElem ha, List.getElem?_eq_getElem hb] at e
  have e := Option.some.inj e
  have t2 : (L.drop (a + 1)).take (k + 1) = (L.drop (a + 1)).take k ++ [L[a]] := by
    rw [List.take_succ, List.getElem?_drop, show a + 1 + k = a + (k + 1) by omega, List.getElem?_eq_getElem hb, ← e]
    rfl
  have t3 : (L.drop a).take (k + 1) = L[a] :: (L.drop (a + 1)).take k := by rw [List.drop_eq_getElem_cons ha, List.take_succ_cons]
  have hl : ((L.drop (a + 1)).take k).length = k := win (by omega)
  rw [t2, t3, List.map_append, List.drop_append_of_le_length (by rw [List.length_map, hl]; exact Nat.le_refl _), List.take_append_of_le_length (by rw [List.length_map, hl]; exact Nat.le_refl _),
    List.drop_of_length_le (by rw [List.length_map, hl]; exact Nat.le_refl _), List.take_of_length_le (by rw [List.length_map, hl]; exact Nat.le_refl _)]
  rfl
def shortD (L : List Int) (a m : Nat) : D := .tup [figs (L.take (cutK L m a)), figs ((L.drop (cutK L m a)).take m)]
def sp_shortest : DSp := fun ds S Q _ => ∃ (L : List Int) (a m : Nat), ds = [figs (L.take a), figs ((L.drop a).take m)] ∧ a + m = L.length ∧ 1 ≤ m ∧ L.length ≤ 2000 ∧ Q (shortD L a m) S
/-! the first rest that comes again -/
structure RepAt (u : Rat) (j m : Nat) : Prop where
  m1 : 1 ≤ m
  per : restQ u (j + m) = restQ u j
  dis : ∀ i k, i < k → k < j + m → restQ u i ≠ restQ u k
theorem RepAt.uniq {u : Rat} {j m j' m' : Nat} (h : RepAt u j m) (h' : RepAt u j' m') : j = j' ∧ m = m' := by
  have a1 := h.m1
  have a2 := h'.m1
  have key : ∀ {j m j' m'}, RepAt u j m → RepAt u j' m' → ¬ j + m < j' + m' := fun {j m j' m'} h h' z => by
    have := h.m1
    exact h'.dis j (j + m) (by omega) z h.per.symm
  have e : j + m = j' + m' := by
    have k1 := key h h'
    have k2 := key h' h
    omega
  have e2 : j = j' := by
    have p1 := h.per
    have p2 := h'.per
    rw [e, p2] at p1
    rcases Nat.lt_trichotomy j j' with z | z | z
    · exact absurd p1.symm (h.dis j j' z (by omega))
    · exact z
    · exact absurd p1 (h.dis j' j z (by omega))
  omega
def kq (q : Rat) : NestedKey := .tup [.num q.num, .num (q.den : Int)]
theorem kq_inj {a b : Rat} (h : kq a = kq b) : a = b := by
  unfold kq at h
  injection h with h
  injection h with h1 h2
  injection h2 with h2 _
  injection h1 with h1
  injection h2 with h2
  exact Rat.ext h1 (by omega)
theorem kq_ok (q : Rat) : KeyOk (kq q) := ⟨⟨_, rfl⟩, rfl, by show (max 0 (max 0 0)) + 1 ≤ 8; decide⟩
theorem kq_fr (q : Rat) : ofN (kq q) = fr q := rfl
def kvs (u : Rat) (i : Nat) : List (NestedKey × D) := (List.range i).map fun j => (kq (restQ u j), D.int ((j + 1 : Nat) : Int))
theorem kvs_len (u : Rat) (i : Nat) : (kvs u i).length = i := by unfold kvs; rw [List.length_map, List.length_range]
theorem find_rg {α : Type} (f : Nat → α) (p : α → Bool) {i j : Nat} (hj : j < i) (h : p (f j) = true) (hn : ∀ k, k < j → p (f k) = false) : ((List.range i).map f).find? p = some (f j) := by
  induction i with
  | zero => omega
  | succ i ih =>
    rw [List.range_succ, List.map_append, List.find?_append]
    by_cases z : j < i
    · rw [ih z]; rfl
    · have e : j = i := by omega
      subst e
      rw [List.find?_eq_none.mpr (fun x hx => by
        obtain ⟨k, hk, rfl⟩ := List.mem_map.mp hx
        rw [hn k (List.mem_range.mp hk)]
        decide)]
      show [f j].find? p = _
      rw [List.find?_cons, h]
theorem kval_none {u q : Rat} {i : Nat} (h : ∀ j, j < i → restQ u j ≠ q) : nval (kvs u i) (kq q) = none := by
  unfold nval kvs
  rw [List.find?_eq_none.mpr (fun x hx => ?_)]
  · rfl
  · obtain ⟨j, hj, rfl⟩ := List.mem_map.mp hx
    intro z
    exact h j (List.mem_range.mp hj) (kq_inj (of_decide_eq_true z))
theorem kval_some {u q : Rat} {i j : Nat} (hj : j < i) (e : restQ u j = q) (h : ∀ k, k < j → restQ u k ≠ q) : nval (kvs u i) (kq q) = some (.int ((j + 1 : Nat) : Int)) := by
  unfold nval kvs
  rw [find_rg (fun j => (kq (restQ u j), D.int ((j + 1 : Nat) : Int))) (fun kv => decide (kv.1 = kq q)) hj (by show decide _ = true; rw [e]; exact decide_eq_true rfl) fun k hk => decide_eq_false fun z => h k hk (kq_inj z)]
  rfl
theorem kput {u : Rat} {i : Nat} (h : ∀ j, j < i → restQ u j ≠ restQ u i) : nput (kvs u i) (kq (restQ u i)) (.int ((i + 1 : Nat) : Int)) = kvs u (i + 1) := by
  have e := kval_none h
  unfold nput
  rw [nval_any, e]
  show kvs u i ++ _ = _
  unfold kvs
  rw [List.range_succ, List.map_append]
  rfl
theorem exists_first {P : Nat → Prop} [DecidablePred P] : ∀ n, (∃ j, j < n ∧ P j) → ∃ j, j < n ∧ P j ∧ ∀ k, k < j → ¬ P k
  | 0, ⟨_, h, _⟩ => by omega
  | n + 1, h => by
    by_cases z : ∃ j, j < n ∧ P j
    · obtain ⟨j, h1, h2, h3⟩ := exists_first n z
      exact ⟨j, by omega, h2, h3⟩
    · obtain ⟨j, h1, h2⟩ := h
      have e : j = n := by
        rcases Nat.lt_or_ge j n with q | q
        · exact absurd ⟨j, q, h2⟩ z
        · omega
      subst e
      exact ⟨j, h1, h2, fun k hk hp => z ⟨k, hk, hp⟩⟩
theorem nodup_le : ∀ (n : Nat) (l : List Nat), l.Nodup → (∀ x ∈ l, x < n) → l.length ≤ n
  | 0, [], _, _ => Nat.le_refl _
  | 0, x :: l, _, h => by have := h x (by simp); omega
  | n + 1, l, hn, h => by
    by_cases hm : n ∈ l
    · have := nodup_le n (l.erase n) (hn.erase n) fun x hx => by
        have h1 := hn.mem_erase_iff.mp hx
        have := h x h1.2
        have := h1.1
        omega
      rw [List.length_erase_of_mem hm] at this
      omega
    · have := nodup_le n l hn fun x hx => by
        have h1 := h x hx
        have : x ≠ n := fun z => hm (z ▸ hx)
        omega
      omega
theorem pigeon {u : Rat} (h : ∀ i k, i < k → k < u.den + 1 → restQ u i ≠ restQ u k) : False := by
  let R : Nat → Nat := fun i => ((u.num * 2 ^ i) % (u.den : Int)).toNat
  have hd := den_pos' u
  have hR : ∀ i, ((R i : Nat) : Int) = (u.num * 2 ^ i) % (u.den : Int) := fun i => Int.toNat_of_nonneg (Int.emod_nonneg _ (by omega))
  have hl : ∀ i, R i < u.den := fun i => by
    have := Int.emod_lt_of_pos (u.num * 2 ^ i) hd
    have := hR i
    omega
  have hnd : ((List.range (u.den + 1)).map R).Nodup := by
    rw [List.nodup_iff_pairwise_ne, List.pairwise_map]
    refine List.Pairwise.imp_of_mem ?_ List.pairwise_lt_range
    intro i k _ hk hik e
    refine h i k hik (List.mem_range.mp hk) ?_
    unfold restQ
    rw [← hR, ← hR, e]
  have := nodup_le u.den _ hnd fun x hx => by
    obtain ⟨i, _, rfl⟩ := List.mem_map.mp hx
    exact hl i
  rw [List.length_map, List.length_range] at this
  omega
theorem Uq.rest {u : Rat} (h : Uq u) (k : Nat) : Uq (restQ u k) := by
  refine ⟨restQ_nn u k, restQ_le u k, ?_⟩
  unfold restQ
  have h1 := h.den
  have h2 := low_den (t := u.num * 2 ^ k % (u.den : Int)) (den_pos' u)
  have h3 : ((u.den : Int)) / ((Nat.gcd (u.num * 2 ^ k % (u.den : Int)).natAbs ((u.den : Int)).natAbs : Nat) : Int) ≤ (u.den : Int) := Int.ediv_le_self _ (by have := den_pos' u; omega)
  rcases h1 with h1 | h1
  · left
    omega
  · rw [h1] at h2 h3 ⊢
    generalize hg : (Nat.gcd (u.num * 2 ^ k % ((729 : Nat) : Int)).natAbs (((729 : Nat) : Int)).natAbs) = g at *
    have gd : g ∣ 729 := by rw [← hg]; exact Nat.gcd_dvd_right _ _
    have gp : 0 < g := Nat.pos_of_dvd_of_pos gd (by decide)
    by_cases g1 : g = 1
    · right
      subst g1
      have : (((729 : Nat) : Int)) / ((1 : Nat) : Int) = 729 := by decide
      omega
    · left
      have e1 : (729 : Nat) / g ≤ 729 / 2 := Nat.div_le_div_left (by omega) (by decide)
      have e2 : (((729 : Nat) : Int)) / (g : Int) = (((729 : Nat) / g : Nat) : Int) := (Int.natCast_ediv _ _).symm
      omega
theorem rep_le {u : Rat} {j m : Nat} (hu : Uq u) (h : RepAt u j m) : j + m ≤ 512 := by
  rcases hu.den with h1 | h1
  · by_cases z : j + m ≤ u.den
    · omega
    · exact (pigeon (u := u) fun i k a b => h.dis i k a (by omega)).elim
  · by_cases z : j + m ≤ 486
    · omega
    · refine absurd ?_ (h.dis 0 486 (by decide) (by omega))
      unfold restQ
      rw [h1, show u.num * 2 ^ 0 = u.num by omega]
      have : (u.num * 2 ^ 486) % ((729 : Nat) : Int) = u.num % ((729 : Nat) : Int) := by
        rw [Int.mul_emod, show (2 : Int) ^ 486 % ((729 : Nat) : Int) = 1 by decide +kernel, Int.mul_one, Int.emod_emod_of_dvd _ (Int.dvd_refl _)]
      rw [this]
theorem fig_zero {u : Rat} (h : Uq u) : figI u 0 = lineF u 0 := by
  show u.num * 2 ^ 0 / (u.den : Int) % 2 = u.num / (u.den : Int)
  have h1 := num_nn h.nn
  have h2 := num_le h.le
  have h3 := den_pos' u
  rw [show u.num * 2 ^ 0 = u.num by omega]
  have a1 : 0 ≤ u.num / (u.den : Int) := Int.ediv_nonneg h1 (by omega)
  have a2 : u.num / (u.den : Int) ≤ 1 := by
    have := Int.ediv_le_ediv h3 h2
    rw [Int.ediv_self (by omega)] at this
    exact this
  omega
theorem stp_bit (r : Rat) : stp r = 0 ∨ stp r = 1 := by unfold stp; split <;> simp
theorem line_bit {u : Rat} (h : Uq u) : ∀ i, lineF u i = 0 ∨ lineF u i = 1
  | 0 => by
    have h1 := num_nn h.nn
    have h2 := num_le h.le
    have h3 := den_pos' u
    have a1 : 0 ≤ u.num / (u.den : Int) := Int.ediv_nonneg h1 (by omega)
    have a2 : u.num / (u.den : Int) ≤ 1 := by
      have := Int.ediv_le_ediv h3 h2
      rw [Int.ediv_self (by omega)] at this
      exact this
    show u.num / (u.den : Int) = 0 ∨ u.num / (u.den : Int) = 1
    omega
  | i + 1 => stp_bit _
def figD (u : Rat) (j m : Nat) : D := shortD (seg u 0 (j + 1 + m)) (j + 1) m
def sp_figures_of : DSp := fun ds S Q _ => ∃ u, ds = [fr u] ∧ Uq u ∧ ∀ j m, RepAt u j m → j + m ≤ 512 → Q (figD u j m) S
def sp_figures : DSp := sp_figures_of
theorem ok_shortest {P : Program} {w : World} {K : PySem.W.Frag} {mg : Str → Option Value} {base : Heap} (T : Txt K mg) : FnOk P w K mg base (L2.CX P w) 1 T.a_shortest T.fd_shortest ["ahead", "again"] (toSp K sp_shortest) := by
  refine fnD T.F_shortest sc_shortest (fun ds S Q E h => ?_) (fun cdv A outer s H E RX hr => ⟨_, (pds_cons (pd_for (passes_of rfl) rfl (pdi_range1 T.b_range (pda_cons (pd_blt cd_len T.b_len (by decide +kernel) (pda_cons (pd_var 0) pda_nil)) pda_nil)) (pdg_name 2 sc_shortest.nd) (pds_cons (pd_ifS (pdt_cmp (od_ne hr.units) (pd_ix (pd_var 0) (pd_neg pd_int)) (pd_ix (pd_var 1) (pd_neg pd_int))) (pds_one pd_break) pds_nil)
    (pds_one (pd_par 0 1 rfl sc_shortest.nd (pda_cons (pd_slice (pd_var 0) pdo_none (pdo_some (pd_neg pd_int))) (pda_cons (pd_bin od_add (pd_slice (pd_var 1) (pdo_some (pd_neg pd_int)) pdo_none) (pd_slice (pd_var 1) pdo_none (pdo_some (pd_neg pd_int)))) pda_nil)) rfl))))
    (pds_one (pd_ret (pd_tup (pda_cons (pd_var 0) (pda_cons (pd_var 1) pda_nil)))))), fun ds S Q h => ?_⟩)
  · obtain ⟨_, _, _, rfl, _⟩ := h
    rfl
  · obtain ⟨L, a, m, rfl, hl, hm, hb, h⟩ := h
    obtain ⟨k, rfl⟩ : ∃ k, m = k + 1 := ⟨m - 1, by omega⟩
    walk_at "w"
    have hta : ((L.take a).map D.int).length = a := by rw [List.length_map, List.length_take]; omega
    rw [hta]
    refine ⟨⟨by omega, by omega⟩, for_rg (fun i ρ' S' => S' = S ∧ i ≤ a ∧ cutK L (k + 1) (a - i) = cutK L (k + 1) a ∧ ∃ o, ρ' = [some (figs (L.take (a - i))), some (figs ((L.drop (a - i)).take (k + 1))), o]) ⟨rfl, Nat.zero_le _, rfl, _, rfl⟩ ?_ ?_⟩
    · rintro i _ _ hi ⟨rfl, -, hc, o, rfl⟩
      have hi : i < a := by omega
      obtain ⟨b, hbq⟩ : ∃ b, a - i = b + 1 := ⟨a - i - 1, by omega⟩
      rw [hbq] at hc ⊢
      have hbl : b + 1 + (k + 1) ≤ L.length := by omega
      have hb0 : b < L.length := by omega
      have hb1 : b + (k + 1) < L.length := by omega
      have l1 : ((L.take (b + 1)).map D.int).length = b + 1 := by rw [List.length_map, List.length_take]; omega
      have l2 : (((L.drop (b + 1)).take (k + 1)).map D.int).length = k + 1 := by rw [List.length_map, win hbl]
      walk_at "w"
      refine ⟨.int L[b], at_m1 (by rw [l1, Nat.add_sub_cancel, List.getElem?_map, List.getElem?_take, if_pos (by omega), List.getElem?_eq_getElem hb0]; rfl) (by rw [l1]; omega), ?_⟩
      walk_at "w"
      refine ⟨.int L[b + (k + 1)], at_m1 (by rw [l2, Nat.add_sub_cancel, List.getElem?_map, win_at hbl (by omega), show b + 1 + k = b + (k + 1) by omega, List.getElem?_eq_getElem hb1]; rfl) (by rw [l2]; omega), ?_⟩
      walk_at "w"
      have hcu : cutK L (k + 1) (b + 1) = if L[b]? = L[b + (k + 1)]? then cutK L (k + 1) b else b + 1 := rfl
      refine IFB.np (fun c => ?_) (fun c => ?_)
      · have ne : ¬ L[b]? = L[b + (k + 1)]? := fun z => c (by
          rw [List.getElem?_eq_getElem hb0, List.getElem?_eq_getElem hb1] at z
          exact Option.some.inj z)
        rw [hcu, if_neg ne] at hc
        walk_at "w"
        unfold shortD at h
        rw [← hc] at h
        exact h
      · have eq : L[b]? = L[b + (k + 1)]? := by rw [List.getElem?_eq_getElem hb0, List.getElem?_eq_getElem hb1, c]
        rw [hcu, if_pos eq] at hc
        walk_at "w"
        refine ⟨by rw [cut_l1 (by rw [l2]; omega), cut_m1 (by rw [l2]; omega), List.length_drop, List.length_take, l2]; show _ ≤ 16777216; omega, ?_⟩
        walk_at "w"
        refine ⟨rfl, by omega, by rw [show a - (i + 1) = b by omega]; exact hc, some (.int (0 + (i : Int))), ?_⟩
        rw [cut_m1 (by rw [l1]; omega), l1, Nat.add_sub_cancel, cut_l1 (by rw [l2]; omega), cut_m1 (by rw [l2]; omega), l2, Nat.add_sub_cancel, win_rot hbl eq, show a - (i + 1) = b by omega, ← List.map_take, List.take_take, Nat.min_eq_left (by omega)]
        rfl
    · rintro _ _ ⟨rfl, -, hc, o, rfl⟩
      rw [show (a : Int).toNat = a from Int.toNat_natCast _, Nat.sub_self] at hc
      rw [show (a : Int).toNat = a from Int.toNat_natCast _, Nat.sub_self]
      walk_at "w"
      unfold shortD at h
      rw [← hc] at h
      exact h

theorem ok_figures_of {P : Program} {w : World} {K : PySem.W.Frag} {mg : Str → Option Value} {base : Heap} (T : Txt K mg) : FnOk P w K mg base (L2.CX P w) 3 T.a_figures_of T.fd_figures_of ["number"] (toSp K sp_figures_of) := by
  refine fnE T.F_figures_of sc_figures_of (fun ds S Q E h => ?_) (fun cdv A outer s H E RX hr => ⟨_, (pds_cons (pd_par3 1 2 3 rfl sc_figures_of.nd (pda_cons (pd_lst (pda_cons (pd_call (takes_of rfl rfl rfl rfl) (ok_figure_of T) (hr.mono (by decide)) T.m_figure_of T.F_figure_of.kp T.d_figure_of (pda_cons (pd_var 0) (pda_cons pd_int pda_nil))) pda_nil)) (pda_cons pd_dnewN (pda_cons (pd_call (takes_of rfl rfl rfl rfl) (ok_rest_of T) (hr.mono (by decide)) T.m_rest_of T.F_rest_of.kp T.d_rest_of (pda_cons (pd_var 0) (pda_cons pd_int pda_nil))) pda_nil))) rfl)
    (pds_cons (pd_for (passes_of rfl) rfl (pdi_range1 T.b_range (pda_cons (pd_bin od_add (pd_ix (pd_var 0) pd_int) pd_int) pda_nil)) (pdg_name 4 sc_figures_of.nd) (pds_cons (pd_ifS (pdt_nin hr.units (pd_var 3) (pd_var 2)) (pds_one pd_break) pds_nil)
    (pds_cons (pd_nput hr.units (pd_var 2) (pd_var 3) (pd_blt cd_len T.b_len (by decide +kernel) (pda_cons (pd_var 1) pda_nil)))
    (pds_cons (pd_set 5 sc_figures_of.nd (pd_call (takes_of rfl rfl rfl rfl) (ok_product T) (hr.mono (by decide)) T.m_product T.F_product.kp T.d_product (pda_cons (pd_var 3) (pda_cons (pd_call (takes_of rfl rfl rfl rfl) (ok_whole T) (hr.mono (by decide)) T.m_whole T.F_whole.kp T.d_whole (pda_cons pd_int pda_nil)) pda_nil))))
    (pds_cons (pd_expr (pd_lm PySem.F.slot_list_append PySem.F.type_list_append md_append (pd_var 1) (pda_cons (pd_bltTy cd_int T.b_int (by decide +kernel) (pda_cons (pd_not (pd_call (takes_of rfl rfl rfl rfl) (ok_is_less T) (hr.mono (by decide)) T.m_is_less T.F_is_less.kp T.d_is_less (pda_cons (pd_var 5) (pda_cons (pd_glob (v := .ref T.z_ONE) (d := (.tup [.int 1, .int 1])) T.m_ONE rfl T.v_ONE) pda_nil)))) pda_nil)) pda_nil)))
    (pds_one (pd_set 3 sc_figures_of.nd (pd_call (takes_of rfl rfl rfl rfl) (ok_rest_of T) (hr.mono (by decide)) T.m_rest_of T.F_rest_of.kp T.d_rest_of (pda_cons (pd_var 3) (pda_cons pd_int pda_nil))))))))))
    (pds_cons (pd_set 6 sc_figures_of.nd (pd_nget hr.units (pd_var 2) (pd_var 3)))
    (pds_one (pd_ret (pd_call (takes_of rfl rfl rfl rfl) (ok_shortest T) (hr.mono (by decide)) T.m_shortest T.F_shortest.kp T.d_shortest (pda_cons (pd_bltTy cd_tuple T.b_tuple (by decide +kernel) (pda_cons (pd_slice (pd_var 1) pdo_none (pdo_some (pd_var 6))) pda_nil)) (pda_cons (pd_bltTy cd_tuple T.b_tuple (by decide +kernel) (pda_cons (pd_slice (pd_var 1) (pdo_some (pd_var 6)) pdo_none) pda_nil)) pda_nil)))))))), fun ds S Q h => ?_⟩)
  · obtain ⟨_, rfl, _⟩ := h
    rfl
  · obtain ⟨u, rfl, hu, h⟩ := h
    have hud := hu.dle
    walk_at "w"
    refine ⟨u, 0, rfl, hu, by decide, ?_⟩
    walk_at "w"
    intro p0 hp0
    generalize hSS : DL.sup S p0 _ = Sa
    obtain ⟨ea, xa, -⟩ := sup_of hSS
    have xa := xa hp0
    clear hSS
    walk_at "w"
    intro p1 hp1
    generalize hSS : DL.sup Sa p1 _ = Sb
    obtain ⟨eb, xb, -⟩ := sup_of hSS
    have xb := xb hp1
    clear hSS
    have hne : p0 ≠ p1 := fun z => by subst z; rw [ea] at hp1; cases hp1
    have hSp1 : S p1 = none := xa.free hp1
    walk_at "w"
    refine ⟨u, 0, rfl, hu.rb.mono (by decide), by decide, ?_⟩
    walk_at "w"
    refine ⟨_, rfl, ?_⟩
    walk_at "w"
    refine ⟨⟨by omega, by omega⟩, for_rg (fun i ρ' S' => S' p0 = some (.lst ((seg u 0 (i + 1)).map D.int)) ∧ S' p1 = some (.dN (kvs u i)) ∧ Ext S S' ∧ (∀ i' k, i' < k → k < i → restQ u i' ≠ restQ u k) ∧ ∃ o1 o2 o3, ρ' = [some (fr u), some (.ref p0), some (.ref p1), some (fr (restQ u i)), o1, o2, o3]) ⟨by rw [xb _ _ ea, fig_zero hu]; rfl, eb, xa.trans xb, fun _ k _ z => by omega, _, _, _, rfl⟩ ?_ ?_⟩
    · rintro i _ S1 hi ⟨e0, e1, x1, hdis, o1, o2, o3, rfl⟩
      have hi : i ≤ u.den := by omega
      walk_at "w"
      refine ⟨_, kq (restQ u i), e1, rfl, kq_ok _, ?_⟩
      by_cases hex : ∃ j, j < i ∧ restQ u j = restQ u i
      · obtain ⟨j, hj, hje, hjf⟩ := exists_first i hex
        walk_at "w"
        refine IFB.t (by rw [kval_some hj hje hjf]; rfl) ?_
        walk_at "g"
        refine ⟨_, _, e1, rfl, kq_ok _, .int ((j + 1 : Nat) : Int), kval_some hj hje hjf, ?_⟩
        walk_at "w"
        refine ⟨_, .inl ⟨p0, rfl, e0⟩, ?_⟩
        intro p2 hp2
        generalize hSS : DL.sup S1 p2 _ = S2
        obtain ⟨e2, x2, -⟩ := sup_of hSS
        have x2 := x2 hp2
        clear hSS
        walk_at "w"
        refine ⟨_, .inl ⟨p2, rfl, e2⟩, ?_⟩
        walk_at "w"
        refine ⟨_, .inl ⟨p0, rfl, x2 _ _ e0⟩, ?_⟩
        intro p3 hp3
        generalize hSS : DL.sup S2 p3 _ = S3
        obtain ⟨e3, x3, -⟩ := sup_of hSS
        have x3 := x3 hp3
        clear hSS
        walk_at "w"
        refine ⟨_, .inl ⟨p3, rfl, e3⟩, ?_⟩
        obtain ⟨m, rfl⟩ : ∃ m, i = j + m := ⟨i - j, by omega⟩
        have hLl : ((seg u 0 (j + m + 1)).map D.int).length = j + m + 1 := by rw [List.length_map, seg_len]
        have hap : (seg u 0 (j + m + 1)).length = j + 1 + m := by rw [seg_len]; omega
        rw [cut_to (by rw [hLl]; omega), cut_from (by rw [hLl]; omega), ← List.map_take, ← List.map_drop]
        walk_at "w"
        refine ⟨seg u 0 (j + m + 1), j + 1, m, ?_, by rw [seg_len]; omega, by omega, by rw [seg_len]; omega, ?_⟩
        · show [figs _, figs _] = [figs _, figs _]
          rw [List.take_of_length_le (l := (seg u 0 (j + m + 1)).drop (j + 1)) (by rw [List.length_drop, seg_len]; omega)]
        · have hR : RepAt u j m := ⟨by omega, hje.symm, fun i k h1 h2 => hdis i k h1 (by omega)⟩
          have hh := h j m hR (rep_le hu hR)
          unfold figD at hh
          rw [show j + 1 + m = j + m + 1 by omega] at hh
          exact ⟨S, ((x1.trans x2).trans x3), hh⟩
      · have hno : ∀ j, j < i → restQ u j ≠ restQ u i := fun j hj e => hex ⟨j, hj, e⟩
        have hur := hu.rest i
        walk_at "w"
        refine IFB.f (by rw [kval_none hno]; rfl) ?_
        walk_at "g"
        refine ⟨_, .inl ⟨p0, rfl, e0⟩, ?_⟩
        walk_at "w"
        refine ⟨_, kq (restQ u i), e1, rfl, kq_ok _, by rw [kvs_len]; show _ < 16777216; omega, ?_⟩
        rw [List.length_map, seg_len, kput hno]
        have x2 : Ext S (DL.sup S1 p1 (.dN (kvs u (i + 1)))) := x1.wr hSp1
        have f1 : DL.sup S1 p1 (.dN (kvs u (i + 1))) p1 = some (.dN (kvs u (i + 1))) := sup_same
        have f0 : DL.sup S1 p1 (.dN (kvs u (i + 1))) p0 = some (.lst ((seg u 0 (i + 1)).map D.int)) := by rw [sup_ne hne]; exact e0
        generalize DL.sup S1 p1 (.dN (kvs u (i + 1))) = S2 at *
        walk_at "w"
        refine ⟨2, rfl, ?_⟩
        walk_at "w"
        refine ⟨restQ u i, ((2 : Int) : Rat), rfl, hur.rb.mono (by decide), ⟨by decide, by decide⟩, ?_⟩
        walk_at "w"
        refine ⟨⟨_, f0⟩, ?_⟩
        walk_at "w"
        refine ⟨restQ u i * ((2 : Int) : Rat), 1, rfl, ?_, ⟨by decide, by decide⟩, ?_⟩
        · exact (rb_mul hur.rb (show RB 8 ((2 : Int) : Rat) from ⟨by decide, by decide⟩)).mono (by decide)
        walk_at "w"
        refine ⟨_, f0, by rw [List.length_map, seg_len]; show _ < 16777216; omega, ?_⟩
        walk_at "w"
        refine ⟨restQ u i, 1, rfl, hur.rb.mono (by decide), by decide, ?_⟩
        rw [rest_rest]
        walk_at "w"
        refine ⟨?_, by rw [sup_ne (fun z => hne z.symm)]; exact f1, ?_, fun i' k h1 h2 => ?_, _, _, _, rfl⟩
        · rw [sup_same, seg_succ u 0 (i + 1), List.map_append, Nat.zero_add]
          congr 3
          show [D.int (if (!decide (restQ u i * ((2 : Int) : Rat) < 1)) = true then 1 else 0)] = [D.int (stp (restQ u i))]
          congr 2
          have e2 : restQ u i * ((2 : Int) : Rat) = restQ u i + restQ u i := by
            have : ((2 : Int) : Rat) = 2 := rfl
            rw [this]
            grind
          rw [e2]
          unfold stp
          by_cases c : restQ u i + restQ u i < 1
          · rw [if_pos c, decide_eq_true c]; rfl
          · rw [if_neg c, decide_eq_false c]; rfl
        · exact x2.wr hp0
        · rcases Nat.lt_or_ge k i with z | z
          · exact hdis i' k h1 z
          · have : k = i := by omega
            subst this
            exact hno i' h1
    · rintro _ S1 ⟨e0, e1, x1, hdis, o1, o2, o3, rfl⟩
      exact (pigeon fun i k h1 h2 => hdis i k h1 (by omega)).elim

theorem ok_figures {P : Program} {w : World} {K : PySem.W.Frag} {mg : Str → Option Value} {base : Heap} (T : Txt K mg) : FnOk P w K mg base (L2.CX P w) 5 T.a_figures T.fd_figures ["number"] (toSp K sp_figures) := by
  refine fnD T.F_figures sc_figures (fun ds S Q E h => ?_) (fun cdv A outer s H E RX hr => ⟨_, (pds_cons (pd_expr (pd_call (takes_of rfl rfl rfl rfl) (ok_check_part T) (hr.mono (by decide)) T.m_check_part T.F_check_part.kp T.d_check_part (pda_cons (pd_var 0) pda_nil)))
    (pds_one (pd_ret (pd_call (takes_of rfl rfl rfl rfl) (ok_figures_of T) (hr.mono (by decide)) T.m_figures_of T.F_figures_of.kp T.d_figures_of (pda_cons (pd_var 0) pda_nil))))), fun ds S Q h => ?_⟩)
  · obtain ⟨_, rfl, _⟩ := h
    rfl
  · obtain ⟨u, rfl, hu, h⟩ := h
    walk_at "w"
    refine ⟨u, rfl, hu, ?_⟩
    walk_at "w"
    exact ⟨u, rfl, hu, h⟩
end K53
set_option Elab.async false
set_option linter.all false
set_option maxRecDepth 100000
set_option maxHeartbeats 4000000
namespace K53
open PySem PySem.Spec PyProof.Rows L2 DL
local macro_rules | `(tactic| walk_at "w") => `(tactic| conv => whnf)
local macro_rules | `(tactic| walk_at "g") => `(tactic| ((conv => whnf); repeat' (first | (refine IFB.t ?_ ?_; rfl; conv => whnf) | (refine IFB.f ?_ ?_; rfl; conv => whnf))))
set_option exponentiation.threshold 9000
theorem int_at {ms : List Int} {i : Nat} {x : D} (h : (ms.map D.int)[i]? = some x) : ∃ m, ms[i]? = some m ∧ x = .int m := by
  rw [List.getElem?_map] at h
  cases e : ms[i]? with
  | none => rw [e] at h; cases h
  | some m => rw [e] at h; exact ⟨m, rfl, (Option.some.inj h).symm⟩
/-- a comprehension that keeps some items -/
def WFl (xs : List D) (f : D → Bool) (S : Sto) : Nat → List D → Sto → Prop := fun i acc S' => i ≤ xs.length ∧ acc = (xs.take i).filter f ∧ Ext S S'
theorem nat_mul_lt {N M : Int} {a b : Nat} (h : N.natAbs < 2 ^ a) (h' : M.natAbs < 2 ^ b) {c : Nat} (hc : a + b ≤ c) : (N * M).natAbs < 2 ^ c := lt_up (wide_lt h h') hc
theorem rb_add {n m : Nat} {a b : Rat} (ha : RB n a) (hb : RB m b) : RB (n + m + 1) (a + b) := by
  rw [← add_fr]
  have b1 : ((b.den : Int)).natAbs < 2 ^ m := by rw [Int.natAbs_natCast]; exact hb.2
  have a1 : ((a.den : Int)).natAbs < 2 ^ n := by rw [Int.natAbs_natCast]; exact ha.2
  have h1 := nat_mul_lt ha.1 b1 (Nat.le_refl _)
  have h2 := nat_mul_lt hb.1 a1 (Nat.le_refl _)
  have h3 := nat_mul_lt a1 b1 (c := n + m + 1) (by omega)
  rw [Nat.add_comm m n] at h2
  have e : 2 ^ (n + m + 1) = 2 * 2 ^ (n + m) := by rw [Nat.pow_succ, Nat.mul_comm]
  exact rb_div (Int.mul_pos (den_pos' a) (den_pos' b)) (by rw [e]; omega) h3

theorem rb_quo {a b : Rat} {n m : Nat} (hb : 0 < b) (h1 : RB n a) (h2 : RB m b) : RB (n + m) (a / b) := by
  rw [← quo_eq hb]
  refine rb_div (Int.mul_pos (den_pos' a) (num_pos' hb)) ?_ ?_
  · rw [Int.natAbs_mul, Int.natAbs_natCast, Nat.pow_add]; exact Nat.mul_lt_mul'' h1.1 h2.2
  · rw [Int.natAbs_mul, Int.natAbs_natCast, Nat.pow_add]; exact Nat.mul_lt_mul'' h1.2 h2.1
def Bits (l : List Int) : Prop := ∀ a ∈ l, a = 0 ∨ a = 1
theorem en_map (f : Nat → Int → Rat) (F : D → D) (hF : ∀ (i : Nat) (a : Int), F (.tup [.int (i : Int), .int a]) = fr (f i a)) (l : List Int) : (enD (l.map D.int)).map F = (l.mapIdx f).map fr := by
  apply List.ext_getElem?
  intro i
  rw [List.getElem?_map, enD_get, List.getElem?_map, List.getElem?_map, List.getElem?_mapIdx]
  cases l[i]? with
  | none => rfl
  | some a => exact congrArg some (hF i a)
theorem val_sum : ∀ (l : List Int) (p : Nat), val p l = (l.mapIdx fun i (a : Int) => (a : Rat) / p2 (p + i)).sum
  | [], _ => rfl
  | a :: l, p => by
    rw [List.mapIdx_cons, List.sum_cons, show val p (a :: l) = (a : Rat) / p2 p + val (p + 1) l from rfl, val_sum l (p + 1)]
    have : (fun i (a : Int) => (a : Rat) / p2 (p + 1 + i)) = fun i (a : Int) => (a : Rat) / p2 (p + (i + 1)) := by
      funext i a
      rw [show p + 1 + i = p + (i + 1) by omega]
    rw [this]
    rfl
theorem wal_sum : ∀ (l : List Int) (p : Nat), wal p l = (l.mapIdx fun i (a : Int) => ((((p + i : Nat) : Int) * a : Int) : Rat) / p2 (p + i)).sum
  | [], _ => rfl
  | a :: l, p => by
    rw [List.mapIdx_cons, List.sum_cons, show wal p (a :: l) = (p : Rat) * ((a : Rat) / p2 p) + wal (p + 1) l from rfl, wal_sum l (p + 1)]
    have : (fun i (a : Int) => ((((p + 1 + i : Nat) : Int) * a : Int) : Rat) / p2 (p + 1 + i)) = fun i (a : Int) => ((((p + (i + 1) : Nat) : Int) * a : Int) : Rat) / p2 (p + (i + 1)) := by
      funext i a
      rw [show p + 1 + i = p + (i + 1) by omega]
    rw [this, Rat.intCast_mul, Nat.add_zero]
    have e : (((p : Nat) : Int) : Rat) = (p : Rat) := rfl
    have h2 := p2_ne p
    rw [e]
    congr 1
    grind
theorem mem_ix {f : Nat → Int → Rat} {l : List Int} {q : Rat} (h : q ∈ l.mapIdx f) : ∃ i a, i < l.length ∧ a ∈ l ∧ q = f i a := by
  obtain ⟨i, hi⟩ := List.mem_iff_getElem?.mp h
  rw [List.getElem?_mapIdx] at hi
  cases e : l[i]? with
  | none => rw [e] at hi; cases hi
  | some a =>
    rw [e] at hi
    exact ⟨i, a, (List.getElem?_eq_some_iff.mp e).1, List.mem_of_getElem? e, (Option.some.inj hi).symm⟩
theorem ov_p2 {k K : Nat} (h : k ≤ K) (a : Int) : Ov (2 ^ K) ((a : Rat) / p2 k) := by
  refine ⟨a * 2 ^ (K - k), ?_⟩
  have h1 := p2_ne k
  have h2 := p2_ne (K - k)
  have e : ((2 ^ K : Int) : Rat) = p2 k * p2 (K - k) := by rw [← p2_add, show k + (K - k) = K by omega]; rfl
  rw [e, Rat.intCast_mul]
  show _ = ((a : Rat) * p2 (K - k)) / _
  grind
theorem one_p2 (k : Nat) : 1 ≤ p2 k := by
  have : (1 : Int) ≤ 2 ^ k := by have := pow2_pos k; omega
  exact Rat.intCast_le_intCast.mpr this
theorem div_nn {a : Int} (h : 0 ≤ a) (k : Nat) : 0 ≤ (a : Rat) / p2 k := by
  rw [Rat.div_def]
  have h1 : ((0 : Int) : Rat) ≤ (a : Rat) := Rat.intCast_le_intCast.mpr h
  exact Rat.mul_nonneg h1 (Rat.le_of_lt (Rat.inv_pos.mpr (p2_pos k)))
theorem div_le' {a : Int} (h : 0 ≤ a) (k : Nat) : (a : Rat) / p2 k ≤ (a : Rat) := by
  have h1 := one_p2 k
  have h2 := p2_pos k
  have h3 := p2_ne k
  have h4 : ((0 : Int) : Rat) ≤ (a : Rat) := Rat.intCast_le_intCast.mpr h
  refine Rat.not_lt.mp fun z => ?_
  have := Rat.mul_lt_mul_of_pos_right z h2
  have e : (a : Rat) / p2 k * p2 k = (a : Rat) := by grind
  rw [e] at this
  have k2 := Rat.mul_le_mul_of_nonneg_left h1 h4
  rw [Rat.mul_one] at k2
  exact absurd k2 (Rat.not_le.mpr this)
theorem sum_le {c : Rat} : ∀ {qs : List Rat}, (∀ q ∈ qs, q ≤ c) → qs.sum ≤ (qs.length : Rat) * c
  | [], _ => by simp
  | q :: qs, h => by
    have h1 := h q (by simp)
    have h2 := sum_le (qs := qs) fun z hz => h z (List.mem_cons_of_mem _ hz)
    rw [List.sum_cons, List.length_cons, natR_succ]
    grind
theorem bit_le {a : Int} (h : a = 0 ∨ a = 1) : 0 ≤ a ∧ a ≤ 1 := by omega
theorem ix_sum {l : List Int} {f : Nat → Int → Rat} {K c : Nat} (hl : l.length ≤ 520) (hK : K ≤ 1100) (hc : c ≤ 2000) (h : ∀ i a, i < l.length → a ∈ l → 0 ≤ f i a ∧ f i a ≤ (c : Rat) ∧ Ov (2 ^ K) (f i a)) :
    (∀ q ∈ l.mapIdx f, 0 ≤ q ∧ Ov (2 ^ K) q) ∧ 0 ≤ (l.mapIdx f).sum ∧ (l.mapIdx f).sum ≤ 1048576 := by
  refine ⟨fun q hq => ?_, sum_nonneg fun q hq => ?_, ?_⟩
  · obtain ⟨i, a, hi, ha, rfl⟩ := mem_ix hq
    exact ⟨(h i a hi ha).1, (h i a hi ha).2.2⟩
  · obtain ⟨i, a, hi, ha, rfl⟩ := mem_ix hq
    exact (h i a hi ha).1
  · have h1 := sum_le (c := (c : Rat)) (qs := l.mapIdx f) fun q hq => by
      obtain ⟨i, a, hi, ha, rfl⟩ := mem_ix hq
      exact (h i a hi ha).2.1
    rw [List.length_mapIdx] at h1
    have h2 : (l.length : Rat) ≤ ((520 : Nat) : Rat) := natR_le hl
    have h3 : (c : Rat) ≤ ((2000 : Nat) : Rat) := natR_le hc
    have h4 : (0 : Rat) ≤ (c : Rat) := natR_le (Nat.zero_le c)
    have h5 := Rat.mul_le_mul_of_nonneg_right h2 h4
    have h6 := Rat.mul_le_mul_of_nonneg_left h3 (show (0 : Rat) ≤ ((520 : Nat) : Rat) by decide +kernel)
    refine Rat.le_trans h1 (Rat.le_trans h5 (Rat.le_trans h6 (by decide +kernel)))
theorem val_ix {l : List Int} {p : Nat} (hb : Bits l) (hl : l.length ≤ 520) (hp : p ≤ 520) : (∀ q ∈ l.mapIdx fun i (a : Int) => (a : Rat) / p2 (p + i), 0 ≤ q ∧ Ov (2 ^ (p + l.length)) q) ∧ 0 ≤ val p l ∧ val p l ≤ 1048576 := by
  rw [val_sum]
  refine ix_sum (c := 1) (K := p + l.length) hl (by omega) (by decide) fun i a hi ha => ⟨div_nn (bit_le (hb a ha)).1 _, Rat.le_trans (div_le' (bit_le (hb a ha)).1 _) ?_, ov_p2 (by omega) a⟩
  exact Rat.intCast_le_intCast.mpr (bit_le (hb a ha)).2
theorem wal_ix {l : List Int} {p : Nat} (hb : Bits l) (hl : l.length ≤ 520) (hp : p ≤ 520) : (∀ q ∈ l.mapIdx fun i (a : Int) => ((((p + i : Nat) : Int) * a : Int) : Rat) / p2 (p + i), 0 ≤ q ∧ Ov (2 ^ (p + l.length)) q) ∧ 0 ≤ wal p l ∧ wal p l ≤ 1048576 := by
  rw [wal_sum]
  have hx : ∀ i a, i < l.length → a ∈ l → 0 ≤ ((p + i : Nat) : Int) * a ∧ ((p + i : Nat) : Int) * a ≤ 2000 := fun i a hi ha => by
    have := bit_le (hb a ha)
    have h1 : ((p + i : Nat) : Int) * a ≤ 1040 * 1 := Int.mul_le_mul (by omega) this.2 this.1 (by decide)
    have h2 : 0 ≤ ((p + i : Nat) : Int) * a := Int.mul_nonneg (by omega) this.1
    exact ⟨h2, by omega⟩
  refine ix_sum (c := 2000) (K := p + l.length) hl (by omega) (by decide) fun i a hi ha => ⟨div_nn (hx i a hi ha).1 _, Rat.le_trans (div_le' (hx i a hi ha).1 _) ?_, ov_p2 (by omega) _⟩
  exact Rat.intCast_le_intCast.mpr (hx i a hi ha).2
theorem pow_abs (K : Nat) : ((2 : Int) ^ K).natAbs < 2 ^ (K + 1) := pow2_lt K
theorem val_rb {l : List Int} {p : Nat} (hb : Bits l) (hl : l.length ≤ 520) (hp : p ≤ 520) : RB (p + l.length + 21) (val p l) := by
  obtain ⟨h1, h2, h3⟩ := val_ix (p := p) hb hl hp
  refine (ov_rb2 (pow2_pos _) (pow_abs (p + l.length)) ?_ h2 h3).mono (by omega)
  rw [val_sum]
  exact ov_sum (pow2_pos _) fun q hq => (h1 q hq).2
theorem wal_rb {l : List Int} {p : Nat} (hb : Bits l) (hl : l.length ≤ 520) (hp : p ≤ 520) : RB (p + l.length + 21) (wal p l) := by
  obtain ⟨h1, h2, h3⟩ := wal_ix (p := p) hb hl hp
  refine (ov_rb2 (pow2_pos _) (pow_abs (p + l.length)) ?_ h2 h3).mono (by omega)
  rw [wal_sum]
  exact ov_sum (pow2_pos _) fun q hq => (h1 q hq).2
theorem wQ_eq (m : Nat) : wQ m = ((2 ^ m : Int) : Rat) / ((2 ^ m - 1 : Int) : Rat) := by
  unfold wQ p2
  rw [Rat.intCast_sub]
  rfl
theorem pm_pos {m : Nat} (h : 1 ≤ m) : (0 : Int) < 2 ^ m - 1 := by
  obtain ⟨k, rfl⟩ : ∃ k, m = k + 1 := ⟨m - 1, by omega⟩
  have := pow2_pos k
  rw [Int.pow_succ]
  omega
theorem wQ_rb {m : Nat} (h : 1 ≤ m) : RB (m + 1) (wQ m) := by
  rw [wQ_eq]
  have h1 := pow2_lt m
  have h2 := pm_pos h
  exact rb_div h2 h1 (by omega)
def sp_sum_of_figures : DSp := fun ds S Q _ => ∃ (l : List Int) (p : Nat), ds = [figs l, .int (p : Int)] ∧ Bits l ∧ l.length ≤ 520 ∧ p ≤ 520 ∧ p + l.length ≤ 900 ∧ Q (fr (val p l)) S
def sp_again_and_again : DSp := fun ds S Q _ => ∃ (q : Rat) (m : Nat), ds = [fr q, .int (m : Int)] ∧ RB 1700 q ∧ 1 ≤ m ∧ m ≤ 520 ∧ Q (fr (q * wQ m)) S
def sp_number_of : DSp := fun ds S Q _ => ∃ A G, ds = [.tup [figs A, figs G]] ∧ Bits A ∧ Bits G ∧ A.length ≤ 520 ∧ 1 ≤ G.length ∧ G.length ≤ 520 ∧ Q (fr (numV A G)) S
def sp_rest : DSp := fun ds S Q _ => ∃ (u : Rat) (k : Nat), ds = [fr u, .int (k : Int)] ∧ Uq u ∧ k ≤ 2000 ∧ Q (fr (restQ u k)) S
def costQ (u : Rat) (j m : Nat) : Rat := sumX u 0 j + sumX u j m * wQ m
def sp_cost_of : DSp := fun ds S Q _ => ∃ u, ds = [fr u] ∧ Uq u ∧ ∀ j m, RepAt u j m → j + m ≤ 512 → Q (fr (costQ u j m)) S
def sp_cost : DSp := sp_cost_of
theorem num_vrb {A G : List Int} (h1 : Bits A) (h2 : Bits G) (h3 : A.length ≤ 520) (h4 : 1 ≤ G.length) (h5 : G.length ≤ 520) : RB 2900 (numV A G) := by
  unfold numV
  exact (rb_add (val_rb h1 h3 (by decide)) (rb_mul (val_rb h2 h5 h3) (wQ_rb h4))).mono (by omega)
def fv (p : Nat) : D → D
  | .tup [.int i, .int a] => fr ((a : Rat) / p2 (p + i.toNat))
  | d => d
def fw (p : Nat) : D → D
  | .tup [.int i, .int a] => fr (((((p + i.toNat : Nat) : Int) * a : Int) : Rat) / p2 (p + i.toNat))
  | d => d
theorem en_at {l : List Int} {i : Nat} {x : D} (h : (enD (l.map D.int))[i]? = some x) : ∃ a, l[i]? = some a ∧ x = .tup [.int (i : Int), .int a] := by
  rw [enD_get, List.getElem?_map] at h
  cases e : l[i]? with
  | none => rw [e] at h; cases h
  | some a => rw [e] at h; exact ⟨a, rfl, (Option.some.inj h).symm⟩
structure Fig (u : Rat) (j m : Nat) (A G : List Int) : Prop where
  eq : figD u j m = .tup [figs A, figs G]
  la : A.length + m ≤ 513
  lg : G.length = m
  ba : Bits A
  bg : Bits G
  num : numV A G = u
  cost : costV A G = costQ u j m
theorem fig_facts {u : Rat} {j m : Nat} (hu : Uq u) (h : RepAt u j m) (hl : j + m ≤ 512) : ∃ A G, Fig u j m A G := by
  have hm := h.m1
  have hc := cutK_le (seg u 0 (j + 1 + m)) m (j + 1)
  have hL : (seg u 0 (j + 1 + m)).length = j + 1 + m := seg_len _ _ _
  have bits : Bits (seg u 0 (j + 1 + m)) := fun a ha => by
    obtain ⟨i, _, rfl⟩ := List.mem_map.mp ha
    exact line_bit hu _
  have t1 : (seg u 0 (j + 1 + m)).take (j + 1) = seg u 0 (j + 1) := by
    unfold seg
    rw [← List.map_take, List.take_range, Nat.min_eq_left (by omega)]
  have t2 : ((seg u 0 (j + 1 + m)).drop (j + 1)).take m = seg u (j + 1) m := by
    apply List.ext_getElem?
    intro i
    unfold seg
    rw [List.getElem?_take, List.getElem?_drop, List.getElem?_map, List.getElem?_map]
    by_cases hi : i < m
    · rw [if_pos hi, List.getElem?_range (by omega), List.getElem?_range hi]
      show some (lineF u (0 + (j + 1 + i))) = some (lineF u (j + 1 + i))
      rw [Nat.zero_add]
    · rw [if_neg hi, List.getElem?_eq_none (by rw [List.length_range]; omega)]
      rfl
  refine ⟨(seg u 0 (j + 1 + m)).take (cutK (seg u 0 (j + 1 + m)) m (j + 1)), ((seg u 0 (j + 1 + m)).drop (cutK (seg u 0 (j + 1 + m)) m (j + 1))).take m, rfl, by rw [List.length_take, hL]; omega, by rw [List.length_take, List.length_drop, hL]; omega,
    fun a ha => bits a (List.mem_of_mem_take ha), fun a ha => bits a (List.mem_of_mem_drop (List.mem_of_mem_take ha)), ?_, ?_⟩
  · rw [cut_inv numV num_rot _ m hm (j + 1) (by omega), t1, t2, num_raw hm h.per]
  · rw [cut_inv costV cost_rot _ m hm (j + 1) (by omega), t1, t2, cost_raw hm h.per]
    rfl
theorem wal_take {l : List Int} {p i : Nat} {a : Int} (h : l[i]? = some a) : wal p (l.take (i + 1)) = wal p (l.take i) + ((((p + i : Nat) : Int) * a : Int) : Rat) / p2 (p + i) := by
  have hi := (List.getElem?_eq_some_iff.mp h).1
  rw [List.take_succ, h, wal_app, List.length_take, Nat.min_eq_left (by omega)]
  show _ + (((p + i : Nat) : Rat) * ((a : Rat) / p2 (p + i)) + 0) = _
  rw [Rat.intCast_mul]
  have e : (((p + i : Nat) : Int) : Rat) = ((p + i : Nat) : Rat) := rfl
  have h2 := p2_ne (p + i)
  rw [e]
  grind
theorem bits_take {l : List Int} (h : Bits l) (n : Nat) : Bits (l.take n) := fun a ha => h a (List.mem_of_mem_take ha)

def sp_figure : DSp := fun ds S Q _ => ∃ (u : Rat) (k : Nat), ds = [fr u, .int (k : Int)] ∧ Uq u ∧ k ≤ 2000 ∧ Q (.int (figI u k)) S
theorem ok_sum_of_figures {P : Program} {w : World} {K : PySem.W.Frag} {mg : Str → Option Value} {base : Heap} (T : Txt K mg) : FnOk P w K mg base (L2.CX P w) 4 T.a_sum_of_figures T.fd_sum_of_figures ["some", "begin"] (toSp K sp_sum_of_figures) := by
  refine fnE T.F_sum_of_figures sc_sum_of_figures (fun ds S Q E h => ?_) (fun cdv A outer s H E RX hr => ⟨_, (pds_one (pd_ret (pd_call (takes_of rfl rfl rfl rfl) (ok_sum_of_all T) (hr.mono (by decide)) T.m_sum_of_all T.F_sum_of_all.kp T.d_sum_of_all (pda_cons (pd_lc (own := [("at", 2), ("a", 3)]) (p := .t [.n 2, .n 3]) rfl sc_sum_of_figures.nd (pdi_enum T.b_enumerate (pda_cons (pd_var 0) pda_nil)) (blkOk_by (N := ["some", "begin", "at", "a"]) (sc := defScope s_sum_of_figures) (own := [("at", 2), ("a", 3)]) (by decide +kernel)) (fun _ _ _ _ _ => (pg_tup rfl (pgs_cons (pg_name (i := 2) sc_sum_of_figures.nd rfl (by first | exact Or.inl rfl | exact Or.inr rfl)) (pgs_cons (pg_name (i := 3) sc_sum_of_figures.nd rfl (by first | exact Or.inl rfl | exact Or.inr rfl)) pgs_nil)))) (fun _ _ _ _ _ => pdts_nil) (fun _ _ _ _ _ => (pd_call takes0 (ok_by_halves T) (hr.mono (by decide)) T.m_by_halves T.F_by_halves.kp T.d_by_halves (pda_cons (pd_call takes0 (ok_whole T) (hr.mono (by decide)) T.m_whole T.F_whole.kp T.d_whole (pda_cons (pd_var 3) pda_nil)) (pda_cons (pd_bin od_add (pd_var 1) (pd_var 2)) pda_nil))))) pda_nil)))), fun ds S Q h => ?_⟩)
  · obtain ⟨_, _, rfl, _⟩ := h
    rfl
  · obtain ⟨l, p, rfl, hb, hl, hp, hpl, h⟩ := h
    walk_at "w"
    refine lc_xsm (fv p) (fun _ _ => trivial) ?_ ?_
    · rintro i x acc S2 hi w2
      obtain ⟨a, ha, rfl⟩ := en_at hi
      have hb' := bit_le (hb a (List.mem_of_getElem? ha))
      have hil := (List.getElem?_eq_some_iff.mp ha).1
      walk_at "w"
      refine IFB.t rfl ?_
      walk_at "w"
      refine ⟨a, rfl, ?_⟩
      walk_at "w"
      refine ⟨(a : Rat), p + i, by rw [show ((p + i : Nat) : Int) = (p : Int) + (i : Int) by omega], ⟨?_, by show 1 < _; decide⟩, by omega, ?_⟩
      · show a.natAbs < _
        exact Nat.lt_of_le_of_lt (show a.natAbs ≤ 1 by omega) (by decide)
      exact lc_leafL hi w2 (by rw [enD_len, List.length_map]; show _ ≤ 16777216; omega) (by show fr _ = fr _; rw [Int.toNat_natCast]; rfl) (Ext.refl _)
    · rintro S2 v ex hv
      obtain ⟨h1, h2, h3⟩ := val_ix (p := p) hb hl hp
      rw [val_sum] at h3
      rw [en_map (fun i (a : Int) => (a : Rat) / p2 (p + i)) (fv p) (fun i a => by show fr _ = fr _; rw [Int.toNat_natCast]) l]
      walk_at "w"
      refine .inl ⟨_, _, 2 ^ (p + l.length), rfl, .inr (.inl ⟨v, rfl, sup_same⟩), pow2_pos _, lt_up (pow_abs _) (by omega), h1, h3, ?_⟩
      rw [← val_sum]
      exact ⟨S, ex.trans (Ext.new hv _), h⟩

theorem ok_again_and_again {P : Program} {w : World} {K : PySem.W.Frag} {mg : Str → Option Value} {base : Heap} (T : Txt K mg) : FnOk P w K mg base (L2.CX P w) 3 T.a_again_and_again T.fd_again_and_again ["first", "many"] (toSp K sp_again_and_again) := by
  refine fnD T.F_again_and_again sc_again_and_again (fun ds S Q E h => ?_) (fun cdv A outer s H E RX hr => ⟨_, (pds_one (pd_ret (pd_call (takes_of rfl rfl rfl rfl) (ok_quotient T) (hr.mono (by decide)) T.m_quotient T.F_quotient.kp T.d_quotient (pda_cons (pd_var 0) (pda_cons (pd_call (takes_of rfl rfl rfl rfl) (ok_lowest T) (hr.mono (by decide)) T.m_lowest T.F_lowest.kp T.d_lowest (pda_cons (pd_bin od_sub (pd_call (takes_of rfl rfl rfl rfl) (ok_power T) (hr.mono (by decide)) T.m_power T.F_power.kp T.d_power (pda_cons pd_int (pda_cons (pd_var 1) pda_nil))) pd_int) (pda_cons (pd_call (takes_of rfl rfl rfl rfl) (ok_power T) (hr.mono (by decide)) T.m_power T.F_power.kp T.d_power (pda_cons pd_int (pda_cons (pd_var 1) pda_nil))) pda_nil))) pda_nil))))), fun ds S Q h => ?_⟩)
  · obtain ⟨_, _, rfl, _⟩ := h
    rfl
  · obtain ⟨q, m, rfl, hq, hm, hm2, h⟩ := h
    have hp := pm_pos hm
    have hp2 := pow2_pos m
    have ha := pow2_lt m
    walk_at "w"
    refine ⟨m, rfl, by omega, ?_⟩
    walk_at "w"
    refine ⟨m, rfl, by omega, ?_⟩
    walk_at "w"
    refine ⟨_, _, rfl, hp2, lt_up ha (by omega), ?_⟩
    walk_at "w"
    refine ⟨q, ((2 ^ m - 1 : Int) : Rat) / ((2 ^ m : Int) : Rat), rfl, hq.mono (by decide), (rb_div hp2 (show (2 ^ m - 1 : Int).natAbs < 2 ^ (m + 1) by omega) ha).mono (by omega), by rw [Rat.div_def]; exact Rat.mul_pos (ratPos hp) (Rat.inv_pos.mpr (ratPos hp2)), ?_⟩
    have e : q / (((2 ^ m - 1 : Int) : Rat) / ((2 ^ m : Int) : Rat)) = q * wQ m := by
      rw [wQ_eq]
      have h1 := ratNe hp
      have h2 := ratNe hp2
      generalize ((2 ^ m - 1 : Int) : Rat) = x at *
      generalize ((2 ^ m : Int) : Rat) = y at *
      grind
    rw [e]
    exact h

theorem ok_figure {P : Program} {w : World} {K : PySem.W.Frag} {mg : Str → Option Value} {base : Heap} (T : Txt K mg) : FnOk P w K mg base (L2.CX P w) 5 T.a_figure T.fd_figure ["number", "k"] (toSp K sp_figure) := by
  refine fnD T.F_figure sc_figure (fun ds S Q E h => ?_) (fun cdv A outer s H E RX hr => ⟨_, (pds_cons (pd_expr (pd_call (takes_of rfl rfl rfl rfl) (ok_check_part T) (hr.mono (by decide)) T.m_check_part T.F_check_part.kp T.d_check_part (pda_cons (pd_var 0) pda_nil)))
    (pds_cons (pd_expr (pd_call (takes_of rfl rfl rfl rfl) (ok_check_natural T) (hr.mono (by decide)) T.m_check_natural T.F_check_natural.kp T.d_check_natural (pda_cons (pd_var 1) pda_nil)))
    (pds_one (pd_ret (pd_call (takes_of rfl rfl rfl rfl) (ok_figure_of T) (hr.mono (by decide)) T.m_figure_of T.F_figure_of.kp T.d_figure_of (pda_cons (pd_var 0) (pda_cons (pd_var 1) pda_nil))))))), fun ds S Q h => ?_⟩)
  · obtain ⟨_, _, rfl, _⟩ := h
    rfl
  · obtain ⟨u, k, rfl, hu, hk, h⟩ := h
    walk_at "w"
    refine ⟨u, rfl, hu, ?_⟩
    walk_at "w"
    refine ⟨(k : Int), rfl, by omega, ?_⟩
    walk_at "w"
    exact ⟨u, k, rfl, hu, hk, h⟩

theorem ok_rest {P : Program} {w : World} {K : PySem.W.Frag} {mg : Str → Option Value} {base : Heap} (T : Txt K mg) : FnOk P w K mg base (L2.CX P w) 5 T.a_rest T.fd_rest ["number", "k"] (toSp K sp_rest) := by
  refine fnD T.F_rest sc_rest (fun ds S Q E h => ?_) (fun cdv A outer s H E RX hr => ⟨_, (pds_cons (pd_expr (pd_call (takes_of rfl rfl rfl rfl) (ok_check_part T) (hr.mono (by decide)) T.m_check_part T.F_check_part.kp T.d_check_part (pda_cons (pd_var 0) pda_nil)))
    (pds_cons (pd_expr (pd_call (takes_of rfl rfl rfl rfl) (ok_check_natural T) (hr.mono (by decide)) T.m_check_natural T.F_check_natural.kp T.d_check_natural (pda_cons (pd_var 1) pda_nil)))
    (pds_one (pd_ret (pd_call (takes_of rfl rfl rfl rfl) (ok_rest_of T) (hr.mono (by decide)) T.m_rest_of T.F_rest_of.kp T.d_rest_of (pda_cons (pd_var 0) (pda_cons (pd_var 1) pda_nil))))))), fun ds S Q h => ?_⟩)
  · obtain ⟨_, _, rfl, _⟩ := h
    rfl
  · obtain ⟨u, k, rfl, hu, hk, h⟩ := h
    walk_at "w"
    refine ⟨u, rfl, hu, ?_⟩
    walk_at "w"
    refine ⟨(k : Int), rfl, by omega, ?_⟩
    walk_at "w"
    exact ⟨u, k, rfl, hu.rb.mono (by decide), hk, h⟩

theorem ok_cost_of {P : Program} {w : World} {K : PySem.W.Frag} {mg : Str → Option Value} {base : Heap} (T : Txt K mg) : FnOk P w K mg base (L2.CX P w) 5 T.a_cost_of T.fd_cost_of ["number"] (toSp K sp_cost_of) := by
  refine fnE T.F_cost_of sc_cost_of (fun ds S Q E h => ?_) (fun cdv A outer s H E RX hr => ⟨_, (pds_cons (pd_asg (pd_call (takes_of rfl rfl rfl rfl) (ok_figures_of T) (hr.mono (by decide)) T.m_figures_of T.F_figures_of.kp T.d_figures_of (pda_cons (pd_var 0) pda_nil)) (pdg_tup rfl (pdgs_cons (pdg_name 1 sc_cost_of.nd) (pdgs_cons (pdg_name 2 sc_cost_of.nd) pdgs_nil))))
    (pds_cons (pd_set 5 sc_cost_of.nd (pd_call (takes_of rfl rfl rfl rfl) (ok_sum_of_all T) (hr.mono (by decide)) T.m_sum_of_all T.F_sum_of_all.kp T.d_sum_of_all (pda_cons (pd_lc (own := [("k", 3), ("a", 4)]) (p := .t [.n 3, .n 4]) rfl sc_cost_of.nd (pdi_enum T.b_enumerate (pda_cons (pd_var 1) pda_nil)) (blkOk_by (N := ["number", "ahead", "again", "k", "a", "total", "many", "later", "at", "worth", "more"]) (sc := defScope s_cost_of) (own := [("k", 3), ("a", 4)]) (by decide +kernel)) (fun _ _ _ _ _ => (pg_tup rfl (pgs_cons (pg_name (i := 3) sc_cost_of.nd rfl (by first | exact Or.inl rfl | exact Or.inr rfl)) (pgs_cons (pg_name (i := 4) sc_cost_of.nd rfl (by first | exact Or.inl rfl | exact Or.inr rfl)) pgs_nil)))) (fun _ _ _ _ _ => pdts_nil) (fun _ _ _ _ _ => (pd_call takes0 (ok_by_halves T) (hr.mono (by decide)) T.m_by_halves T.F_by_halves.kp T.d_by_halves (pda_cons (pd_call takes0 (ok_whole T) (hr.mono (by decide)) T.m_whole T.F_whole.kp T.d_whole (pda_cons (pd_bin od_mul (pd_var 3) (pd_var 4)) pda_nil)) (pda_cons (pd_var 3) pda_nil))))) pda_nil)))
    (pds_cons (pd_set 6 sc_cost_of.nd (pd_blt cd_len T.b_len (by decide +kernel) (pda_cons (pd_var 2) pda_nil)))
    (pds_cons (pd_set 7 sc_cost_of.nd (pd_glob (v := .ref T.z_ZERO) (d := (.tup [.int 0, .int 1])) T.m_ZERO rfl T.v_ZERO))
    (pds_cons (pd_for (passes_of rfl) rfl (pdi_enum T.b_enumerate (pda_cons (pd_var 2) pda_nil)) (pdg_tup rfl (pdgs_cons (pdg_name 8 sc_cost_of.nd) (pdgs_cons (pdg_name 4 sc_cost_of.nd) pdgs_nil))) (pds_cons (pd_set 3 sc_cost_of.nd (pd_bin od_add (pd_blt cd_len T.b_len (by decide +kernel) (pda_cons (pd_var 1) pda_nil)) (pd_var 8)))
    (pds_one (pd_set 7 sc_cost_of.nd (pd_call (takes_of rfl rfl rfl rfl) (ok_sum_of_two T) (hr.mono (by decide)) T.m_sum_of_two T.F_sum_of_two.kp T.d_sum_of_two (pda_cons (pd_var 7) (pda_cons (pd_call (takes_of rfl rfl rfl rfl) (ok_by_halves T) (hr.mono (by decide)) T.m_by_halves T.F_by_halves.kp T.d_by_halves (pda_cons (pd_call (takes_of rfl rfl rfl rfl) (ok_whole T) (hr.mono (by decide)) T.m_whole T.F_whole.kp T.d_whole (pda_cons (pd_bin od_mul (pd_var 3) (pd_var 4)) pda_nil)) (pda_cons (pd_var 3) pda_nil))) pda_nil)))))))
    (pds_cons (pd_set 9 sc_cost_of.nd (pd_call (takes_of rfl rfl rfl rfl) (ok_again_and_again T) (hr.mono (by decide)) T.m_again_and_again T.F_again_and_again.kp T.d_again_and_again (pda_cons (pd_call (takes_of rfl rfl rfl rfl) (ok_sum_of_figures T) (hr.mono (by decide)) T.m_sum_of_figures T.F_sum_of_figures.kp T.d_sum_of_figures (pda_cons (pd_var 2) (pda_cons (pd_blt cd_len T.b_len (by decide +kernel) (pda_cons (pd_var 1) pda_nil)) pda_nil))) (pda_cons (pd_var 6) pda_nil))))
    (pds_cons (pd_set 10 sc_cost_of.nd (pd_call (takes_of rfl rfl rfl rfl) (ok_quotient T) (hr.mono (by decide)) T.m_quotient T.F_quotient.kp T.d_quotient (pda_cons (pd_call (takes_of rfl rfl rfl rfl) (ok_product T) (hr.mono (by decide)) T.m_product T.F_product.kp T.d_product (pda_cons (pd_call (takes_of rfl rfl rfl rfl) (ok_whole T) (hr.mono (by decide)) T.m_whole T.F_whole.kp T.d_whole (pda_cons (pd_var 6) pda_nil)) (pda_cons (pd_var 9) pda_nil))) (pda_cons (pd_call (takes_of rfl rfl rfl rfl) (ok_whole T) (hr.mono (by decide)) T.m_whole T.F_whole.kp T.d_whole (pda_cons (pd_bin od_sub (pd_call (takes_of rfl rfl rfl rfl) (ok_power T) (hr.mono (by decide)) T.m_power T.F_power.kp T.d_power (pda_cons pd_int (pda_cons (pd_var 6) pda_nil))) pd_int) pda_nil)) pda_nil))))
    (pds_one (pd_ret (pd_call (takes_of rfl rfl rfl rfl) (ok_sum_of_all T) (hr.mono (by decide)) T.m_sum_of_all T.F_sum_of_all.kp T.d_sum_of_all (pda_cons (pd_lst (pda_cons (pd_var 5) (pda_cons (pd_call (takes_of rfl rfl rfl rfl) (ok_again_and_again T) (hr.mono (by decide)) T.m_again_and_again T.F_again_and_again.kp T.d_again_and_again (pda_cons (pd_var 7) (pda_cons (pd_var 6) pda_nil))) (pda_cons (pd_var 10) pda_nil)))) pda_nil))))))))))), fun ds S Q h => ?_⟩)
  · obtain ⟨_, rfl, _⟩ := h
    rfl
  · obtain ⟨u, rfl, hu, h⟩ := h
    walk_at "w"
    refine ⟨u, rfl, hu, fun j m hr hjm => ?_⟩
    have h := h j m hr hjm
    obtain ⟨A, G, hf⟩ := fig_facts hu hr hjm
    have hla := hf.la
    have hlg := hf.lg
    have hm := hr.m1
    have hA := hf.ba
    have hG := hf.bg
    have hc := hf.cost
    rw [hf.eq]
    walk_at "w"
    refine ⟨rfl, ?_⟩
    walk_at "w"
    refine lc_xsm (fw 0) (fun _ _ => trivial) ?_ ?_
    · rintro i x acc S2 hi w2
      obtain ⟨a, ha, rfl⟩ := en_at hi
      have hb' := bit_le (hA a (List.mem_of_getElem? ha))
      have hil := (List.getElem?_eq_some_iff.mp ha).1
      have q1 : ((i : Nat) : Int) * a ≤ 1040 * 1 := Int.mul_le_mul (by omega) hb'.2 hb'.1 (by decide)
      have q2 : 0 ≤ ((i : Nat) : Int) * a := Int.mul_nonneg (by omega) hb'.1
      walk_at "w"
      refine IFB.t rfl ?_
      walk_at "w"
      refine ⟨small_l (by omega) (by omega), ?_⟩
      walk_at "w"
      refine ⟨_, rfl, ?_⟩
      walk_at "w"
      refine ⟨((((i : Nat) : Int) * a : Int) : Rat), i, rfl, ⟨?_, by show 1 < _; decide⟩, by omega, ?_⟩
      · show (((i : Nat) : Int) * a).natAbs < _
        exact Nat.lt_of_le_of_lt (show _ ≤ 1040 by omega) (by decide)
      exact lc_leafL hi w2 (by rw [enD_len, List.length_map]; show _ ≤ 16777216; omega) (by show fr _ = fr _; rw [Int.toNat_natCast, Nat.zero_add]; rfl) (Ext.refl _)
    · rintro S2 v ex hv
      obtain ⟨h1, h2, h3⟩ := wal_ix (p := 0) hA (by omega) (by decide)
      rw [wal_sum] at h3
      rw [en_map (fun i (a : Int) => ((((0 + i : Nat) : Int) * a : Int) : Rat) / p2 (0 + i)) (fw 0) (fun i a => by show fr _ = fr _; rw [Int.toNat_natCast]) A]
      have x2 := ex.trans (Ext.new hv (.lst ((A.mapIdx fun i (a : Int) => ((((0 + i : Nat) : Int) * a : Int) : Rat) / p2 (0 + i)).map fr)))
      walk_at "w"
      refine .inl ⟨_, _, 2 ^ (0 + A.length), rfl, .inr (.inl ⟨v, rfl, sup_same⟩), pow2_pos _, lt_up (pow_abs _) (by omega), h1, h3, ?_⟩
      rw [← wal_sum]
      generalize DL.sup S2 v _ = S3 at *
      walk_at "w"
      rw [List.length_map]
      refine for_xs (fun i ρ' S' => S' = S3 ∧ ∃ o1 o2 o3 o4 o5, ρ' = [some (fr u), some (figs A), some (figs G), o1, o2, some (fr (wal 0 A)), some (.int (G.length : Int)), some (fr (wal A.length (G.take i))), o3, o4, o5]) ⟨rfl, _, _, _, _, _, by rw [List.take_zero]; rfl⟩ (fun _ _ _ _ => trivial) ?_ ?_
      · rintro i x _ _ hi ⟨rfl, o1, o2, o3, o4, o5, rfl⟩
        obtain ⟨a, ha, rfl⟩ := en_at hi
        have hb' := bit_le (hG a (List.mem_of_getElem? ha))
        have hil := (List.getElem?_eq_some_iff.mp ha).1
        have q1 : ((A.length + i : Nat) : Int) * a ≤ 1040 * 1 := Int.mul_le_mul (by omega) hb'.2 hb'.1 (by decide)
        have q2 : 0 ≤ ((A.length + i : Nat) : Int) * a := Int.mul_nonneg (by omega) hb'.1
        walk_at "w"
        refine ⟨rfl, ?_⟩
        walk_at "w"
        rw [List.length_map, show (A.length : Int) + (i : Int) = ((A.length + i : Nat) : Int) by omega]
        refine ⟨small_l (by omega) (by omega), ?_⟩
        walk_at "w"
        refine ⟨_, rfl, ?_⟩
        walk_at "w"
        refine ⟨((((A.length + i : Nat) : Int) * a : Int) : Rat), A.length + i, rfl, ⟨?_, by show 1 < _; decide⟩, by omega, ?_⟩
        · show (((A.length + i : Nat) : Int) * a).natAbs < _
          exact Nat.lt_of_le_of_lt (show _ ≤ 1040 by omega) (by decide)
        have rb1 := wal_rb (p := A.length) (bits_take hG i) (by rw [List.length_take]; omega) (by omega)
        have rb2 : RB 1100 (((((A.length + i : Nat) : Int) * a : Int) : Rat) / ((2 ^ (A.length + i) : Int) : Rat)) := rb_div (pow2_pos _) (Nat.lt_of_le_of_lt (show _ ≤ 1040 by omega) (by decide)) (lt_up (pow2_lt _) (by omega))
        walk_at "w"
        refine ⟨_, _, rfl, rb1.mono (by rw [List.length_take]; omega), rb2.mono (by decide), ?_⟩
        rw [show wal A.length (G.take i) + ((((A.length + i : Nat) : Int) * a : Int) : Rat) / ((2 ^ (A.length + i) : Int) : Rat) = wal A.length (G.take (i + 1)) from (wal_take ha).symm]
        walk_at "w"
        exact ⟨rfl, _, _, _, _, _, rfl⟩
      · rintro _ _ ⟨rfl, o1, o2, o3, o4, o5, rfl⟩
        rw [enD_len, List.length_map, List.take_length]
        have hp := pm_pos hm
        have rbV := val_rb (p := A.length) hG (by omega) (by omega)
        have rbW := wQ_rb hm
        have rbVW := rb_mul rbV rbW
        have rbL := wal_rb (p := A.length) hG (by omega) (by omega)
        have rbT := wal_rb (p := 0) hA (by omega) (by decide)
        walk_at "w"
        rw [List.length_map]
        refine ⟨G, A.length, rfl, hG, by omega, by omega, by omega, ?_⟩
        walk_at "w"
        refine ⟨_, G.length, rfl, rbV.mono (by omega), by omega, by omega, ?_⟩
        walk_at "w"
        refine ⟨_, rfl, ?_⟩
        have rbM : RB 10 (((G.length : Int)) : Rat) := ⟨by show _ < 1024; have : ((((G.length : Int)) : Rat)).num = (G.length : Int) := rfl; rw [this]; omega, by show 1 < 1024; decide⟩
        have rbP : RB (m + 1) (((2 ^ m - 1 : Int)) : Rat) := ⟨by show (2 ^ m - 1 : Int).natAbs < _; have := pow2_lt m; omega, by show 1 < _; exact Nat.one_lt_two_pow (by omega)⟩
        walk_at "w"
        rw [hlg] at *
        refine ⟨_, _, rfl, rbM.mono (by decide), rbVW.mono (by omega), ?_⟩
        walk_at "w"
        refine ⟨m, rfl, by omega, ?_⟩
        walk_at "w"
        refine ⟨_, rfl, ?_⟩
        walk_at "w"
        have rbQ := rb_mul rbM rbVW
        refine ⟨_, _, rfl, rbQ.mono (by omega), rbP.mono (by omega), ratPos hp, ?_⟩
        have rbR := rb_quo (ratPos hp) rbQ rbP
        walk_at "w"
        refine ⟨_, m, rfl, rbL.mono (by omega), hm, by omega, ?_⟩
        have rbLW := rb_mul rbL rbW
        walk_at "w"
        intro p7 hp7
        generalize hSS : DL.sup _ p7 _ = S7
        obtain ⟨e7, x7, -⟩ := sup_of hSS
        have x7 := x7 hp7
        clear hSS
        walk_at "w"
        have x1 := rb_add rbT rbLW
        have x3 := rb_add x1 rbR
        refine .inr ⟨p7, [wal 0 A, wal A.length G * wQ m, (((m : Nat) : Int) : Rat) * (val A.length G * wQ m) / ((2 ^ m - 1 : Int) : Rat)], rfl, e7, fun q hq => ?_, fun i => ?_, ?_⟩
        · rcases List.mem_cons.mp hq with rfl | hq
          · exact rbT.mono (by omega)
          rcases List.mem_cons.mp hq with rfl | hq
          · exact rbLW.mono (by omega)
          · cases List.mem_singleton.mp hq
            exact rbR.mono (by omega)
        · match i with
          | 0 => rw [List.take_zero, List.sum_nil]; exact ⟨by decide, by decide⟩
          | 1 => show RB 3000 (List.sum [_]); rw [List.sum_cons, List.sum_nil, Rat.add_zero]; exact rbT.mono (by omega)
          | 2 => show RB 3000 (List.sum [_, _]); rw [List.sum_cons, List.sum_cons, List.sum_nil, Rat.add_zero]; exact x1.mono (by omega)
          | i + 3 => rw [List.take_of_length_le (by show 3 ≤ _; omega), List.sum_cons, List.sum_cons, List.sum_cons, List.sum_nil, Rat.add_zero, ← Rat.add_assoc]; exact x3.mono (by omega)
        · rw [List.sum_cons, List.sum_cons, List.sum_cons, List.sum_nil, Rat.add_zero, ← Rat.add_assoc]
          have e : wal 0 A + wal A.length G * wQ m + (((m : Nat) : Int) : Rat) * (val A.length G * wQ m) / ((2 ^ m - 1 : Int) : Rat) = costQ u j m := by
            rw [← hc]
            unfold costV
            rw [hf.lg]
            have : ((2 ^ m - 1 : Int) : Rat) = p2 m - 1 := by rw [Rat.intCast_sub]; rfl
            rw [this]
            rfl
          rw [e]
          exact ⟨S, x2.trans x7, h⟩

theorem ok_cost {P : Program} {w : World} {K : PySem.W.Frag} {mg : Str → Option Value} {base : Heap} (T : Txt K mg) : FnOk P w K mg base (L2.CX P w) 6 T.a_cost T.fd_cost ["number"] (toSp K sp_cost) := by
  refine fnD T.F_cost sc_cost (fun ds S Q E h => ?_) (fun cdv A outer s H E RX hr => ⟨_, (pds_cons (pd_expr (pd_call (takes_of rfl rfl rfl rfl) (ok_check_part T) (hr.mono (by decide)) T.m_check_part T.F_check_part.kp T.d_check_part (pda_cons (pd_var 0) pda_nil)))
    (pds_one (pd_ret (pd_call (takes_of rfl rfl rfl rfl) (ok_cost_of T) (hr.mono (by decide)) T.m_cost_of T.F_cost_of.kp T.d_cost_of (pda_cons (pd_var 0) pda_nil))))), fun ds S Q h => ?_⟩)
  · obtain ⟨_, rfl, _⟩ := h
    rfl
  · obtain ⟨u, rfl, hu, h⟩ := h
    walk_at "w"
    refine ⟨u, rfl, hu, ?_⟩
    walk_at "w"
    exact ⟨u, rfl, hu, h⟩
end K53
set_option Elab.async false
set_option linter.all false
set_option maxRecDepth 100000
set_option maxHeartbeats 4000000
namespace K53
open PySem PySem.Spec PyProof.Rows L2 DL
/-! the cost of a number, plain: what the sums of its rests come to -/
def sN (u : Rat) (n : Nat) : Rat := sumX u 0 n
theorem sN_zero (u : Rat) : sN u 0 = 0 := rfl
theorem sN_succ (u : Rat) (n : Nat) : sN u (n + 1) = sN u n + xQ u n := by
  show sumX u 0 n + xQ u (0 + n) = _
  rw [Nat.zero_add]
  rfl
theorem xQ_nn (u : Rat) (i : Nat) : 0 ≤ xQ u i := by
  unfold xQ
  rw [Rat.div_def]
  exact Rat.mul_nonneg (restQ_nn u i) (Rat.le_of_lt (Rat.inv_pos.mpr (p2_pos i)))
theorem div_pos_le {a b c : Rat} (hc : 0 < c) (h : a ≤ b) : a / c ≤ b / c := by
  rw [Rat.div_def, Rat.div_def]
  exact Rat.mul_le_mul_of_nonneg_right h (Rat.le_of_lt (Rat.inv_pos.mpr hc))
theorem xQ_le (u : Rat) (i : Nat) : xQ u i ≤ 1 / p2 i := div_pos_le (p2_pos i) (Rat.le_of_lt (restQ_lt u i))
theorem inv_two (p : Nat) : 1 / p2 p = 2 / p2 p - 2 / p2 (p + 1) := by
  rw [p2_succ]
  have := p2_ne p
  generalize p2 p = x at *
  grind
theorem sumX_nn (u : Rat) (p : Nat) : ∀ m, 0 ≤ sumX u p m
  | 0 => Rat.le_refl
  | m + 1 => Rat.add_nonneg (sumX_nn u p m) (xQ_nn u (p + m))
theorem sumX_le (u : Rat) (p : Nat) : ∀ m, sumX u p m ≤ 2 / p2 p - 2 / p2 (p + m)
  | 0 => by
    show (0 : Rat) ≤ 2 / p2 p - 2 / p2 (p + 0)
    rw [Nat.add_zero, Rat.sub_self]
    exact Rat.le_refl
  | m + 1 => by
    have h1 := sumX_le u p m
    have h2 := xQ_le u (p + m)
    have h3 := inv_two (p + m)
    show sumX u p m + xQ u (p + m) ≤ 2 / p2 p - 2 / p2 (p + m + 1)
    grind
theorem sumX_add (u : Rat) (p a : Nat) : ∀ b, sumX u p (a + b) = sumX u p a + sumX u (p + a) b
  | 0 => by show sumX u p a = sumX u p a + 0; rw [Rat.add_zero]
  | b + 1 => by
    show sumX u p (a + b) + xQ u (p + (a + b)) = sumX u p a + (sumX u (p + a) b + xQ u (p + a + b))
    rw [sumX_add u p a b, Nat.add_assoc p a b, Rat.add_assoc]
/-- what the sums of the rests come to -/
def Nu (u v : Rat) : Prop := ∀ n, sN u n ≤ v ∧ v ≤ sN u n + 2 / p2 n
theorem rest_per {u : Rat} {j m : Nat} (h : restQ u (j + m) = restQ u j) : ∀ i, restQ u (j + m + i) = restQ u (j + i)
  | 0 => h
  | i + 1 => by
    show restQ u ((j + m + i) + 1) = restQ u ((j + i) + 1)
    rw [rest_succ, rest_succ, rest_per h i]
theorem sumX_per {u : Rat} {j m : Nat} (h : restQ u (j + m) = restQ u j) : ∀ l, sumX u (j + m) l = sumX u j l / p2 m
  | 0 => by show (0 : Rat) = 0 / p2 m; rw [Rat.div_def, Rat.zero_mul]
  | l + 1 => by
    show sumX u (j + m) l + xQ u (j + m + l) = (sumX u j l + xQ u (j + l)) / p2 m
    rw [sumX_per h l]
    unfold xQ
    rw [rest_per h l, show j + m + l = j + l + m by omega, p2_add (j + l) m]
    have h1 := p2_ne (j + l)
    have h2 := p2_ne m
    generalize p2 (j + l) = x at *
    generalize p2 m = y at *
    grind
/-- k rounds -/
theorem sumX_rounds {u : Rat} {j m : Nat} (hm : 1 ≤ m) (h : restQ u (j + m) = restQ u j) : ∀ k, sumX u j (m * k) = sumX u j m * wQ m * (1 - 1 / p2 (m * k))
  | 0 => by
    show (0 : Rat) = _
    have : p2 (m * 0) = 1 := rfl
    rw [this]
    grind
  | k + 1 => by
    rw [Nat.mul_succ, Nat.add_comm (m * k) m, sumX_add, sumX_per h, sumX_rounds hm h k, p2_add]
    have h1 := p2_ne (m * k)
    have h2 := p2_ne m
    have h3 := p2m_ne hm
    unfold wQ
    generalize p2 (m * k) = x at *
    generalize p2 m = y at *
    grind
theorem wQ_nn {m : Nat} (h : 1 ≤ m) : 0 < wQ m := by
  unfold wQ
  have h1 := p2_big h
  rw [Rat.div_def]
  exact Rat.mul_pos (p2_pos m) (Rat.inv_pos.mpr (by grind))
theorem sN_mono (u : Rat) (n : Nat) : ∀ k, sN u n ≤ sN u (n + k) := fun k => by
  unfold sN
  rw [sumX_add]
  have := sumX_nn u (0 + n) k
  grind
theorem nu_cost {u : Rat} {j m : Nat} (hm : 1 ≤ m) (h : restQ u (j + m) = restQ u j) : Nu u (costQ u j m) := by
  have hw := wQ_nn hm
  have h0 := sumX_nn u j m
  have hP := Rat.mul_nonneg h0 (Rat.le_of_lt hw)
  have key : ∀ k, costQ u j m = sN u (j + m * k) + sumX u j m * wQ m / p2 (m * k) := fun k => by
    unfold sN costQ
    rw [sumX_add, Nat.zero_add, sumX_rounds hm h k]
    have h1 := p2_ne (m * k)
    grind
  have small : sumX u j m * wQ m ≤ 2 / p2 j := by
    have h1 := sumX_le u j m
    have h2 := Rat.mul_le_mul_of_nonneg_right h1 (Rat.le_of_lt hw)
    have e : (2 / p2 j - 2 / p2 (j + m)) * wQ m = 2 / p2 j := by
      unfold wQ
      rw [p2_add]
      have q1 := p2_ne j
      have q2 := p2_ne m
      have q3 := p2m_ne hm
      generalize p2 j = x at *
      generalize p2 m = y at *
      grind
    rw [e] at h2
    exact h2
  intro n
  have hn : n ≤ j + m * n := by
    have := Nat.mul_le_mul_right n hm
    omega
  obtain ⟨d, hd⟩ : ∃ d, j + m * n = n + d := ⟨j + m * n - n, by omega⟩
  have e1 := key n
  have hx : 0 ≤ sumX u j m * wQ m / p2 (m * n) := by
    rw [Rat.div_def]
    exact Rat.mul_nonneg hP (Rat.le_of_lt (Rat.inv_pos.mpr (p2_pos _)))
  have hm1 := sN_mono u n d
  rw [← hd] at hm1
  refine ⟨by rw [e1]; grind, ?_⟩
  have t1 : sN u (j + m * n) ≤ sN u n + (2 / p2 n - 2 / p2 (n + d)) := by
    rw [hd]
    unfold sN
    rw [sumX_add, Nat.zero_add]
    have := sumX_le u n d
    grind
  have t2 : sumX u j m * wQ m / p2 (m * n) ≤ 2 / p2 (j + m * n) := by
    have := div_pos_le (p2_pos (m * n)) small
    rw [p2_add]
    have q1 := p2_ne j
    have q2 := p2_ne (m * n)
    have e : 2 / p2 j / p2 (m * n) = 2 / (p2 j * p2 (m * n)) := by grind
    rw [← e]
    exact this
  rw [e1, hd]
  rw [hd] at t1 t2
  grind
/-! the limit -/
theorem p2_ge : ∀ n : Nat, ((n : Nat) : Rat) + 1 ≤ p2 n
  | 0 => by decide +kernel
  | n + 1 => by
    rw [p2_succ]
    have h1 := p2_ge n
    have h2 : (0 : Rat) ≤ ((n : Nat) : Rat) := by
      have := Rat.intCast_le_intCast.mpr (Int.natCast_nonneg n)
      exact_mod_cast this
    have e : ((n + 1 : Nat) : Rat) = (n : Rat) + 1 := by simp
    rw [e]
    grind
theorem lim {x c : Rat} (hc : 0 ≤ c) (h : ∀ n, x ≤ c / p2 n) : x ≤ 0 := by
  refine Rat.not_lt.mp fun hx => ?_
  -- x > 0: a great n
  have hxn := num_pos' hx
  have hxd := den_pos' x
  have hcn : 0 ≤ c.num := num_nn hc
  -- n = c.num * x.den
  have h1 := h (c.num.toNat * x.den)
  have h2 := p2_ge (c.num.toNat * x.den)
  have hp := p2_pos (c.num.toNat * x.den)
  have h3 := Rat.mul_le_mul_of_nonneg_right h1 (Rat.le_of_lt hp)
  have e : c / p2 (c.num.toNat * x.den) * p2 (c.num.toNat * x.den) = c := by
    have := Rat.ne_of_gt hp
    grind
  rw [e] at h3
  have h4 := Rat.mul_le_mul_of_nonneg_left h2 (Rat.le_of_lt hx)
  have h5 : x * (((c.num.toNat * x.den : Nat) : Rat) + 1) ≤ c := by grind
  have ex := num_div_den' x
  have ec := num_div_den' c
  have n1 : ((c.num.toNat : Nat) : Rat) = ((c.num : Int) : Rat) := by
    have : ((c.num.toNat : Int)) = c.num := Int.toNat_of_nonneg hcn
    have h := congrArg (fun z : Int => (z : Rat)) this
    exact_mod_cast h
  have n2 : ((c.num.toNat * x.den : Nat) : Rat) = ((c.num : Int) : Rat) * ((x.den : Int) : Rat) := by
    rw [← n1]
    exact_mod_cast (by simp : ((c.num.toNat * x.den : Nat) : Rat) = ((c.num.toNat : Nat) : Rat) * ((x.den : Nat) : Rat))
  rw [n2] at h5
  have g1 := ratPos hxn
  have g2 := ratPos hxd
  have one_x : (1 : Rat) ≤ ((x.num : Int) : Rat) := by
    have : ((1 : Int) : Rat) ≤ ((x.num : Int) : Rat) := Rat.intCast_le_intCast.mpr hxn
    exact this
  have one_c : (1 : Rat) ≤ ((c.den : Int) : Rat) := by
    have : ((1 : Int) : Rat) ≤ ((c.den : Int) : Rat) := Rat.intCast_le_intCast.mpr (den_pos' c)
    exact this
  have c0 : (0 : Rat) ≤ ((c.num : Int) : Rat) := by
    have : ((0 : Int) : Rat) ≤ ((c.num : Int) : Rat) := Rat.intCast_le_intCast.mpr hcn
    exact this
  have cd : c * ((c.den : Int) : Rat) = ((c.num : Int) : Rat) := by
    have := ratNe (den_pos' c)
    have e3 : ((c.num : Int) : Rat) / ((c.den : Int) : Rat) = c := ec
    generalize ((c.num : Int) : Rat) = y at *
    generalize ((c.den : Int) : Rat) = z at *
    subst e3
    grind
  have cle : c ≤ ((c.num : Int) : Rat) := by
    have q := Rat.mul_le_mul_of_nonneg_left one_c hc
    rw [cd, Rat.mul_one] at q
    exact q
  have xd : x * ((x.den : Int) : Rat) = ((x.num : Int) : Rat) := by
    have := ratNe hxd
    have e3 : ((x.num : Int) : Rat) / ((x.den : Int) : Rat) = x := ex
    rw [← e3]
    grind
  have big : ((c.num : Int) : Rat) ≤ x * (((c.num : Int) : Rat) * ((x.den : Int) : Rat)) := by
    have q := Rat.mul_le_mul_of_nonneg_right one_x c0
    have e2 : x * (((c.num : Int) : Rat) * ((x.den : Int) : Rat)) = ((x.num : Int) : Rat) * ((c.num : Int) : Rat) := by
      rw [← xd]
      grind
    rw [e2]
    grind
  grind
end K53
set_option Elab.async false
set_option linter.all false
set_option maxRecDepth 100000
set_option maxHeartbeats 4000000
set_option exponentiation.threshold 9000
namespace K53
open PySem PySem.Spec PyProof.Rows L2 DL
/-! each number has its rests' rounds; the cost is one -/
theorem rep_ex (u : Rat) : ∃ j m, RepAt u j m := by
  have hex : ∃ k, k < u.den + 1 ∧ ∃ i, i < k ∧ restQ u i = restQ u k := by
    refine Classical.byContradiction fun z => pigeon (u := u) fun i k h1 h2 e => z ⟨k, h2, i, h1, e⟩
  have : DecidablePred fun k => ∃ i, i < k ∧ restQ u i = restQ u k := fun k => Classical.propDecidable _
  obtain ⟨k, hk, ⟨i, hi, he⟩, hf⟩ := exists_first (P := fun k => ∃ i, i < k ∧ restQ u i = restQ u k) _ hex
  refine ⟨i, k - i, ⟨by omega, by rw [show i + (k - i) = k by omega]; exact he.symm, fun a b hab hb e => ?_⟩⟩
  exact hf b (by omega) ⟨a, hab, e⟩
theorem le_lim {x y c : Rat} (hc : 0 ≤ c) (h : ∀ n, x ≤ y + c / p2 n) : x ≤ y := by
  have := lim (x := x - y) hc fun n => by have := h n; grind
  grind
theorem nu_uniq {u v w : Rat} (h : Nu u v) (h' : Nu u w) : v = w := by
  have two : (0 : Rat) ≤ 2 := by decide +kernel
  have a := le_lim (x := v) (y := w) two fun n => by have h1 := (h n).2; have h2 := (h' n).1; grind
  have b := le_lim (x := w) (y := v) two fun n => by have h1 := (h' n).2; have h2 := (h n).1; grind
  grind
theorem nu_ex (u : Rat) : ∃ v, Nu u v := by
  obtain ⟨j, m, h⟩ := rep_ex u
  exact ⟨_, nu_cost h.m1 h.per⟩
noncomputable def nuQ (u : Rat) : Rat := Classical.choose (nu_ex u)
theorem nuQ_nu (u : Rat) : Nu u (nuQ u) := Classical.choose_spec (nu_ex u)
theorem nuQ_per {u : Rat} {j m : Nat} (hm : 1 ≤ m) (h : restQ u (j + m) = restQ u j) : costQ u j m = nuQ u := nu_uniq (nu_cost hm h) (nuQ_nu u)
theorem nuQ_nn (u : Rat) : 0 ≤ nuQ u := (nuQ_nu u 0).1
theorem nuQ_le (u : Rat) : nuQ u ≤ 2 := by
  have := (nuQ_nu u 0).2
  have e : sN u 0 + 2 / p2 0 = 2 := by rw [sN_zero, p2_zero]; decide +kernel
  rwa [e] at this
/-! all numbers over one bottom -/
structure Dok (M : Nat) : Prop where
  pos : 0 < M
  den : M ≤ 512 ∨ M = 729
theorem ov_den {M : Nat} (h : 0 < M) {u : Rat} (o : Ov (M : Int) u) : u.den ∣ M := by
  obtain ⟨k, rfl⟩ := o
  have h1 := low_den (t := k) (b := (M : Int)) (by omega)
  have h2 : (((Nat.gcd k.natAbs ((M : Int)).natAbs : Nat) : Int)) ∣ (M : Int) := by
    have := Nat.gcd_dvd_right k.natAbs ((M : Int)).natAbs
    rw [Int.natAbs_natCast] at this ⊢
    exact Int.natCast_dvd_natCast.mpr this
  refine Int.natCast_dvd_natCast.mp ?_
  rw [← h1]
  exact ⟨_, (Int.ediv_mul_cancel h2).symm⟩
theorem Dok.uq {M : Nat} (h : Dok M) {u : Rat} (h0 : 0 ≤ u) (h1 : u ≤ 1) (o : Ov (M : Int) u) : Uq u := by
  refine ⟨h0, h1, ?_⟩
  have hd := ov_den h.pos o
  have hp := h.pos
  rcases h.den with z | z
  · exact .inl (Nat.le_trans (Nat.le_of_dvd h.pos hd) z)
  · rw [z] at hd
    by_cases e : u.den = 729
    · exact .inr e
    · left
      obtain ⟨c, hc⟩ := hd
      have hc1 : c ≠ 1 := fun z => by subst z; omega
      have hc0 : c ≠ 0 := fun z => by subst z; omega
      have : u.den * 2 ≤ u.den * c := Nat.mul_le_mul_left _ (by omega)
      omega
theorem one_over {M : Nat} (h : 0 < M) : ((1 : Rat) / ((M : Int) : Rat)).num = 1 ∧ ((1 : Rat) / ((M : Int) : Rat)).den = M := by
  have hb : (0 : Int) < (M : Int) := by omega
  have h1 := low_den (t := 1) hb
  have h2 := low_num (t := 1) hb
  have g : Nat.gcd (1 : Int).natAbs ((M : Int)).natAbs = 1 := Nat.gcd_one_left _
  rw [g] at h1 h2
  have e : ((1 : Int) : Rat) = 1 := rfl
  rw [e] at h1 h2
  constructor
  · rw [← h2]; exact Int.ediv_one _
  · have : ((M : Int)) / ((1 : Nat) : Int) = (M : Int) := Int.ediv_one _
    omega
theorem pow_per {M : Nat} (h : 0 < M) {j m : Nat} (e : restQ ((1 : Rat) / ((M : Int) : Rat)) (j + m) = restQ ((1 : Rat) / ((M : Int) : Rat)) j) : (2 : Int) ^ (j + m) % (M : Int) = 2 ^ j % (M : Int) := by
  obtain ⟨h1, h2⟩ := one_over h
  unfold restQ at e
  rw [h1, h2, Int.one_mul, Int.one_mul] at e
  have hM : (((M : Int)) : Rat) ≠ 0 := ratNe (by omega)
  have e2 := congrArg (· * (((M : Int)) : Rat)) e
  have c : ∀ z : Int, (z : Rat) / (((M : Int)) : Rat) * (((M : Int)) : Rat) = (z : Rat) := fun z => by grind
  simp only [c] at e2
  exact Rat.intCast_inj.mp e2
theorem rest_of_pow {M : Nat} (h : 0 < M) {j m : Nat} (e : (2 : Int) ^ (j + m) % (M : Int) = 2 ^ j % (M : Int)) {u : Rat} (o : Ov (M : Int) u) : restQ u (j + m) = restQ u j := by
  have hd := ov_den h o
  have hd' : (u.den : Int) ∣ (M : Int) := Int.natCast_dvd_natCast.mpr hd
  have e1 : (2 : Int) ^ (j + m) % (u.den : Int) = 2 ^ j % (u.den : Int) := by
    rw [← Int.emod_emod_of_dvd _ hd', e, Int.emod_emod_of_dvd _ hd']
  unfold restQ
  rw [Int.mul_emod, e1, ← Int.mul_emod]
theorem Dok.per {M : Nat} (h : Dok M) : ∃ j m, 1 ≤ m ∧ j + m ≤ 512 ∧ ∀ u, Ov (M : Int) u → restQ u (j + m) = restQ u j := by
  obtain ⟨j, m, hr⟩ := rep_ex ((1 : Rat) / ((M : Int) : Rat))
  have hd := (one_over h.pos).2
  have hu : Uq ((1 : Rat) / ((M : Int) : Rat)) := ⟨by
    rw [Rat.div_def, Rat.one_mul]
    exact Rat.le_of_lt (Rat.inv_pos.mpr (ratPos (by have := h.pos; omega))), div_le_one (a := 1) (by have := h.pos; omega) (by have := h.pos; omega), by rw [hd]; exact h.den⟩
  exact ⟨j, m, hr.m1, rep_le hu hr, fun u o => rest_of_pow h.pos (pow_per h.pos hr.per) o⟩
theorem ov_divP {N : Int} {q : Rat} (h : 0 < N) (o : Ov N q) (i k : Nat) (hik : i ≤ k) : Ov (N * 2 ^ k) (q / p2 i) := by
  obtain ⟨a, rfl⟩ := o
  refine ⟨a * 2 ^ (k - i), ?_⟩
  have h1 := p2_ne i
  have h2 := ratNe h
  have e : (((2 : Int) ^ k : Int) : Rat) = p2 i * p2 (k - i) := by rw [← p2_add, show i + (k - i) = k by omega]; rfl
  have e2 : ((a * 2 ^ (k - i) : Int) : Rat) = (a : Rat) * p2 (k - i) := by rw [Rat.intCast_mul]; rfl
  have h3 := p2_ne (k - i)
  rw [e2, Rat.intCast_mul, e]
  grind
theorem ov_sumX {M : Nat} (h : 0 < M) {u : Rat} (o : Ov (M : Int) u) (p k : Nat) : ∀ n, p + n ≤ k + 1 → Ov ((M : Int) * 2 ^ k) (sumX u p n)
  | 0, _ => ov_zero _
  | n + 1, hn => by
    have h1 := ov_sumX h o p k n (by omega)
    have hM : (0 : Int) < (M : Int) := by omega
    exact ov_add (Int.mul_pos hM (pow2_pos k)) h1 (ov_divP hM (ov_rest hM o (p + n)) (p + n) k (by omega))
theorem Dok.ov {M : Nat} (h : Dok M) : ∃ N : Int, 0 < N ∧ N.natAbs < 2 ^ 540 ∧ ∀ u, Ov (M : Int) u → Ov N (nuQ u) := by
  obtain ⟨j, m, hm, hjm, hp⟩ := h.per
  have hM : (0 : Int) < (M : Int) := by have := h.pos; omega
  have hq := pm_pos hm
  have hN : (0 : Int) < (M : Int) * 2 ^ j * (2 ^ m - 1) := Int.mul_pos (Int.mul_pos hM (pow2_pos j)) hq
  refine ⟨(M : Int) * 2 ^ j * (2 ^ m - 1), hN, ?_, fun u o => ?_⟩
  · have a1 : ((M : Int)).natAbs < 2 ^ 10 := by
      rw [Int.natAbs_natCast]
      show _ < 1024
      have := h.den
      omega
    have a2 := pow2_lt j
    have a3 : ((2 : Int) ^ m - 1).natAbs < 2 ^ (m + 1) := by have := pow2_lt m; omega
    exact lt_up (wide_lt (wide_lt a1 a2) a3) (by omega)
  · rw [← nuQ_per hm (hp u o)]
    unfold costQ
    have o1 : Ov ((M : Int) * 2 ^ j) (sumX u 0 j) := ov_sumX h.pos o 0 j j (by omega)
    -- the round
    obtain ⟨a, ha⟩ : Ov ((M : Int) * 2 ^ (j + m - 1)) (sumX u j m) := ov_sumX h.pos o j (j + m - 1) m (by omega)
    have o2 : Ov ((M : Int) * 2 ^ j * (2 ^ m - 1)) (sumX u j m * wQ m) := by
      refine ⟨a * 2, ?_⟩
      rw [ha, wQ_eq]
      have e1 : ((2 : Int) ^ m : Int) = 2 ^ (m - 1) * 2 := by
        have hm' : m - 1 + 1 = m := by omega
        conv => lhs; rw [← hm', Int.pow_succ]
      have e2 : ((2 : Int) ^ (j + m - 1) : Int) = 2 ^ j * 2 ^ (m - 1) := by rw [← Int.pow_add, show j + (m - 1) = j + m - 1 by omega]
      have n1 := ratNe hq
      have n2 := ratNe hM
      have n3 := ratNe (pow2_pos j)
      have n4 := ratNe (pow2_pos (m - 1))
      have x1 : (((2 : Int) ^ m : Int) : Rat) = (((2 : Int) ^ (m - 1) : Int) : Rat) * 2 := by rw [e1, Rat.intCast_mul]; rfl
      have x2 : (((M : Int) * 2 ^ (j + m - 1) : Int) : Rat) = ((M : Int) : Rat) * ((((2 : Int) ^ j : Int) : Rat) * (((2 : Int) ^ (m - 1) : Int) : Rat)) := by rw [e2, Rat.intCast_mul, Rat.intCast_mul]
      have x3 : (((M : Int) * 2 ^ j * (2 ^ m - 1) : Int) : Rat) = ((M : Int) : Rat) * (((2 : Int) ^ j : Int) : Rat) * (((2 : Int) ^ m - 1 : Int) : Rat) := by rw [Rat.intCast_mul, Rat.intCast_mul]
      have x4 : ((a * 2 : Int) : Rat) = (a : Rat) * 2 := by rw [Rat.intCast_mul]; rfl
      rw [x1, x2, x3, x4]
      generalize (((2 : Int) ^ m - 1 : Int) : Rat) = q at *
      generalize (((2 : Int) ^ j : Int) : Rat) = pj at *
      generalize (((2 : Int) ^ (m - 1) : Int) : Rat) = pm at *
      generalize ((M : Int) : Rat) = MM at *
      grind
    obtain ⟨b, hb⟩ := o1
    have o3 : Ov ((M : Int) * 2 ^ j * (2 ^ m - 1)) (sumX u 0 j) := by
      refine ⟨b * (2 ^ m - 1), ?_⟩
      rw [hb, Rat.intCast_mul b, Rat.intCast_mul ((M : Int) * 2 ^ j)]
      have n1 := ratNe hq
      have n2 := ratNe (Int.mul_pos hM (pow2_pos j))
      generalize (((2 : Int) ^ m - 1 : Int) : Rat) = q at *
      generalize (((M : Int) * 2 ^ j : Int) : Rat) = pj at *
      grind
    exact ov_add hN o3 o2
/-! the least mean -/
noncomputable def HQ (qs : List Rat) : Rat := (qs.map nuQ).sum
theorem HQ_nil : HQ [] = 0 := rfl
theorem HQ_cons (q : Rat) (qs : List Rat) : HQ (q :: qs) = nuQ q + HQ qs := by unfold HQ; rw [List.map_cons, List.sum_cons]
theorem sum_app (xs ys : List Rat) : (xs ++ ys).sum = xs.sum + ys.sum := by
  induction xs with
  | nil => simp [Rat.zero_add]
  | cons x xs ih => rw [List.cons_append, List.sum_cons, List.sum_cons, ih, Rat.add_assoc]
theorem HQ_app (xs ys : List Rat) : HQ (xs ++ ys) = HQ xs + HQ ys := by
  unfold HQ
  rw [List.map_append, sum_app]
theorem HQ_nn (qs : List Rat) : 0 ≤ HQ qs := sum_nonneg fun q hq => by obtain ⟨x, _, rfl⟩ := List.mem_map.mp hq; exact nuQ_nn x
theorem HQ_le : ∀ qs : List Rat, HQ qs ≤ 2 * (qs.length : Rat)
  | [] => by rw [HQ_nil]; decide +kernel
  | q :: qs => by
    rw [HQ_cons, List.length_cons, natR_succ]
    have := nuQ_le q
    have := HQ_le qs
    grind
theorem frac_sub (a b : Rat) (k : Nat) : restQ (a + b) k ≤ restQ a k + restQ b k := by
  have h1 := restQ_eq (a + b) k
  have h2 := restQ_eq a k
  have h3 := restQ_eq b k
  have e : restQ (a + b) k - (restQ a k + restQ b k) = ((a.num * 2 ^ k / (a.den : Int) + b.num * 2 ^ k / (b.den : Int) - (a + b).num * 2 ^ k / ((a + b).den : Int) : Int) : Rat) := by
    rw [Rat.intCast_sub, Rat.intCast_add, h1, h2, h3]
    grind
  have hlt := restQ_lt (a + b) k
  have n1 := restQ_nn a k
  have n2 := restQ_nn b k
  have z : ((a.num * 2 ^ k / (a.den : Int) + b.num * 2 ^ k / (b.den : Int) - (a + b).num * 2 ^ k / ((a + b).den : Int) : Int) : Rat) < ((1 : Int) : Rat) := by
    rw [← e]
    show _ < (1 : Rat)
    grind
  have z2 := Rat.intCast_lt_intCast.mp z
  have z3 : ((a.num * 2 ^ k / (a.den : Int) + b.num * 2 ^ k / (b.den : Int) - (a + b).num * 2 ^ k / ((a + b).den : Int) : Int) : Rat) ≤ ((0 : Int) : Rat) := Rat.intCast_le_intCast.mpr (by omega)
  rw [← e] at z3
  have : ((0 : Int) : Rat) = 0 := rfl
  grind
theorem sN_sub (a b : Rat) : ∀ n, sN (a + b) n ≤ sN a n + sN b n
  | 0 => by rw [sN_zero, sN_zero, sN_zero]; decide +kernel
  | n + 1 => by
    rw [sN_succ, sN_succ, sN_succ]
    have h1 := sN_sub a b n
    have h2 : xQ (a + b) n ≤ xQ a n + xQ b n := by
      have := div_pos_le (p2_pos n) (frac_sub a b n)
      unfold xQ
      have e : restQ a n / p2 n + restQ b n / p2 n = (restQ a n + restQ b n) / p2 n := by
        rw [Rat.div_def, Rat.div_def, Rat.div_def, Rat.add_mul]
      rw [e]
      exact this
    grind
theorem nu_sub (a b : Rat) : nuQ (a + b) ≤ nuQ a + nuQ b := by
  refine le_lim (c := 2) (by decide +kernel) fun n => ?_
  have h1 := (nuQ_nu (a + b) n).2
  have h2 := (nuQ_nu a n).1
  have h3 := (nuQ_nu b n).1
  have h4 := sN_sub a b n
  grind
theorem rest_int (z : Int) (k : Nat) : restQ ((z : Int) : Rat) k = 0 := by
  unfold restQ
  have e1 : (((z : Int) : Rat)).num = z := rfl
  have e2 : (((z : Int) : Rat)).den = 1 := rfl
  rw [e1, e2]
  have : z * 2 ^ k % ((1 : Nat) : Int) = 0 := Int.emod_one _
  rw [this]
  decide +kernel
theorem sN_int (z : Int) : ∀ n, sN ((z : Int) : Rat) n = 0
  | 0 => rfl
  | n + 1 => by
    rw [sN_succ, sN_int z n]
    unfold xQ
    rw [rest_int, Rat.div_def, Rat.zero_mul, Rat.add_zero]
theorem nu_int (z : Int) : nuQ ((z : Int) : Rat) = 0 := by
  refine nu_uniq (nuQ_nu _) fun n => ⟨by rw [sN_int]; exact Rat.le_refl, ?_⟩
  rw [sN_int, Rat.zero_add, Rat.div_def]
  exact Rat.mul_nonneg (by decide +kernel) (Rat.le_of_lt (Rat.inv_pos.mpr (p2_pos n)))
theorem nu_zero : nuQ 0 = 0 := nu_int 0
theorem nu_one : nuQ 1 = 0 := nu_int 1
theorem nu_sum : ∀ qs : List Rat, nuQ qs.sum ≤ HQ qs
  | [] => by rw [List.sum_nil, nu_zero, HQ_nil]; exact Rat.le_refl
  | q :: qs => by
    rw [List.sum_cons, HQ_cons]
    have := nu_sub q qs.sum
    have := nu_sum qs
    grind

def unsel (ps : List (Rat × Bool)) : List Rat := (ps.filter (!·.2)).map (·.1)
theorem H_sel : ∀ ps : List (Rat × Bool), HQ (ps.map (·.1)) = HQ (sel ps) + HQ (unsel ps)
  | [] => by show HQ [] = HQ [] + HQ []; rw [HQ_nil, Rat.add_zero]
  | (q, false) :: ps => by
    show HQ (q :: ps.map (·.1)) = HQ (sel ps) + HQ (q :: unsel ps)
    rw [HQ_cons, HQ_cons, H_sel ps]
    grind
  | (q, true) :: ps => by
    show HQ (q :: ps.map (·.1)) = HQ (q :: sel ps) + HQ (unsel ps)
    rw [HQ_cons, HQ_cons, H_sel ps]
    grind
theorem H_tog (T : Rat) : ∀ ps : List (Rat × Bool), ps.any (·.2) = true → HQ (tog T ps) = nuQ T + HQ (unsel ps)
  | [], h => by cases h
  | (q, false) :: ps, h => by
    show HQ (q :: tog T ps) = nuQ T + HQ (q :: unsel ps)
    rw [HQ_cons, HQ_cons, H_tog T ps (by simpa using h)]
    grind
  | (q, true) :: ps, _ => by
    show HQ (T :: unsel ps) = nuQ T + HQ (unsel ps)
    rw [HQ_cons]
theorem H_together (ps : List (Rat × Bool)) (h : ps.any (·.2) = true) : HQ (tog (sel ps).sum ps) ≤ HQ (ps.map (·.1)) := by
  rw [H_tog _ ps h, H_sel ps]
  have := nu_sum (sel ps)
  grind
/-! a thing parted -/
theorem rest_cong {a b : Rat} {i k : Nat} {z : Int} (h : restQ a i - restQ b k = (z : Rat)) : restQ a i = restQ b k := by
  have h1 := restQ_nn a i
  have h2 := restQ_lt a i
  have h3 := restQ_nn b k
  have h4 := restQ_lt b k
  have := int_small (z := z) (by rw [← h]; grind) (by rw [← h]; grind)
  subst this
  have e : ((0 : Int) : Rat) = 0 := rfl
  rw [e] at h
  grind
theorem rest_two (u : Rat) (i : Nat) : restQ (u + u) i = restQ u (i + 1) := by
  refine rest_cong (z := u.num * 2 ^ (i + 1) / (u.den : Int) - (u + u).num * 2 ^ i / ((u + u).den : Int)) ?_
  rw [restQ_eq, restQ_eq, Rat.intCast_sub]
  have e : (((2 : Int) ^ (i + 1) : Int) : Rat) = (((2 : Int) ^ i : Int) : Rat) * 2 := by rw [Int.pow_succ, Rat.intCast_mul]; rfl
  rw [e]
  grind
theorem rest_plus1 (u : Rat) (i : Nat) : restQ (1 + u) i = restQ u i := by
  refine rest_cong (z := 2 ^ i + u.num * 2 ^ i / (u.den : Int) - (1 + u).num * 2 ^ i / ((1 + u).den : Int)) ?_
  rw [restQ_eq, restQ_eq, Rat.intCast_sub, Rat.intCast_add]
  grind
theorem rest_0 {u : Rat} (h0 : 0 ≤ u) (h1 : u < 1) : restQ u 0 = u := by
  have e := restQ_eq u 0
  have p : (((2 : Int) ^ 0 : Int) : Rat) = 1 := rfl
  rw [p, Rat.mul_one] at e
  have h3 := restQ_nn u 0
  have h4 := restQ_lt u 0
  have hz : ((u.num * 2 ^ 0 / (u.den : Int) : Int) : Rat) = u - restQ u 0 := by grind
  have := int_small (z := u.num * 2 ^ 0 / (u.den : Int)) (by rw [hz]; grind) (by rw [hz]; grind)
  rw [this] at e
  have e0 : ((0 : Int) : Rat) = 0 := rfl
  rw [e0] at e
  grind
theorem sN_plus1 (u : Rat) : ∀ n, sN (1 + u) n = sN u n
  | 0 => rfl
  | n + 1 => by
    rw [sN_succ, sN_succ, sN_plus1 u n]
    unfold xQ
    rw [rest_plus1]
theorem sN_shift (u : Rat) : ∀ n, sN u (n + 1) = restQ u 0 + sN (u + u) n / 2
  | 0 => by
    rw [sN_succ, sN_zero, sN_zero]
    unfold xQ
    rw [p2_zero]
    grind
  | n + 1 => by
    rw [sN_succ, sN_shift u n, sN_succ (u + u) n]
    unfold xQ
    rw [rest_two, p2_succ]
    have := p2_ne n
    grind
theorem sum_mono {α : Type} {f g : α → Rat} : ∀ {l : List α}, (∀ x ∈ l, f x ≤ g x) → (l.map f).sum ≤ (l.map g).sum
  | [], _ => Rat.le_refl
  | x :: l, h => by
    rw [List.map_cons, List.map_cons, List.sum_cons, List.sum_cons]
    have h1 := h x (by simp)
    have h2 := sum_mono (l := l) fun y hy => h y (List.mem_cons_of_mem _ hy)
    grind
theorem sum_plus {α : Type} (f g : α → Rat) : ∀ l : List α, (l.map fun x => f x + g x).sum = (l.map f).sum + (l.map g).sum
  | [] => by show (0 : Rat) = 0 + 0; rw [Rat.add_zero]
  | x :: l => by
    rw [List.map_cons, List.map_cons, List.map_cons, List.sum_cons, List.sum_cons, List.sum_cons, sum_plus f g l]
    grind
theorem sum_const {α : Type} (c : Rat) : ∀ l : List α, (l.map fun _ => c).sum = (l.length : Rat) * c
  | [] => by show (0 : Rat) = ((0 : Nat) : Rat) * c; rw [show ((0 : Nat) : Rat) = 0 from rfl, Rat.zero_mul]
  | x :: l => by
    rw [List.map_cons, List.sum_cons, sum_const c l, List.length_cons, natR_succ]
    grind
theorem sum_half {α : Type} (f : α → Rat) : ∀ l : List α, (l.map fun x => f x / 2).sum = (l.map f).sum / 2
  | [] => by show (0 : Rat) = 0 / 2; decide +kernel
  | x :: l => by
    rw [List.map_cons, List.map_cons, List.sum_cons, List.sum_cons, sum_half f l]
    grind
theorem sN_le_nu (u : Rat) (n : Nat) : sN u n ≤ nuQ u := (nuQ_nu u n).1
theorem part_le {bs : List Rat} (hb : ∀ b ∈ bs, 0 ≤ b ∧ b ≤ 1) (hs : bs.sum = 1) : ∀ (n : Nat) (s : Rat), 0 ≤ s → s ≤ 1 → (bs.map fun b => sN (s * b) n).sum ≤ sN s n + s * HQ bs
  | 0, s, h0, _ => by
    have : (bs.map fun b => sN (s * b) 0).sum = 0 := by
      rw [show (fun b => sN (s * b) 0) = fun _ => (0 : Rat) from rfl, sum_const, Rat.mul_zero]
    rw [this, sN_zero, Rat.zero_add]
    exact Rat.mul_nonneg h0 (HQ_nn bs)
  | n + 1, s, h0, h1 => by
    by_cases hs1 : s = 1
    · subst hs1
      have e : (fun b : Rat => sN (1 * b) (n + 1)) = fun b => sN b (n + 1) := by funext b; rw [Rat.one_mul]
      rw [e]
      have a := sum_mono (l := bs) (f := fun b => sN b (n + 1)) (g := nuQ) fun b _ => sN_le_nu b _
      have c : sN 1 (n + 1) = 0 := sN_int 1 _
      rw [c, Rat.zero_add, Rat.one_mul]
      exact a
    · have hlt : s < 1 := Rat.not_le.mp fun z => hs1 (Rat.le_antisymm h1 z)
      have key : (bs.map fun b => sN (s * b) (n + 1)).sum = s + (bs.map fun b => sN ((s + s) * b) n).sum / 2 := by
        have e : (bs.map fun b => sN (s * b) (n + 1)) = bs.map fun b => s * b + sN ((s + s) * b) n / 2 := List.map_congr_left fun b hbm => by
          have hb1 := (hb b hbm).1
          have hb2 := (hb b hbm).2
          have m0 := Rat.mul_nonneg h0 hb1
          have m1 := Rat.mul_le_mul_of_nonneg_left hb2 h0
          rw [sN_shift, rest_0 m0 (by grind), Rat.add_mul]
        rw [e, sum_plus, sum_half, sum_mul, hs, Rat.mul_one]
      rw [key, sN_shift, rest_0 h0 hlt]
      by_cases hh : s + s ≤ 1
      · have ih := part_le hb hs n (s + s) (by grind) hh
        have : (bs.map fun b => sN ((s + s) * b) n).sum / 2 ≤ (sN (s + s) n + (s + s) * HQ bs) / 2 := div_pos_le (by decide +kernel) ih
        grind
      · have ht : ∃ t, s + s = 1 + t := ⟨s + s - 1, by grind⟩
        obtain ⟨t, ht⟩ := ht
        have t0 : 0 ≤ t := by grind
        have t1 : t ≤ 1 := by grind
        have ih := part_le hb hs n t t0 t1
        have a := sum_mono (l := bs) (f := fun b => sN ((s + s) * b) n) (g := fun b => nuQ b + sN (t * b) n) fun b _ => by
          have e : (s + s) * b = b + t * b := by rw [ht, Rat.add_mul, Rat.one_mul]
          show sN ((s + s) * b) n ≤ nuQ b + sN (t * b) n
          rw [e]
          have x1 := sN_sub b (t * b) n
          have x2 := sN_le_nu b n
          grind
        rw [sum_plus] at a
        have e2 : (bs.map nuQ).sum = HQ bs := rfl
        rw [e2] at a
        have e3 : sN (s + s) n = sN t n := by rw [ht, sN_plus1]
        rw [e3]
        have : (bs.map fun b => sN ((s + s) * b) n).sum / 2 ≤ (HQ bs + (sN t n + t * HQ bs)) / 2 := div_pos_le (by decide +kernel) (by grind)
        have e4 : s * HQ bs = (1 + t) * HQ bs / 2 := by rw [← ht]; grind
        rw [e4]
        grind
theorem H_part {bs : List Rat} (hb : ∀ b ∈ bs, 0 ≤ b ∧ b ≤ 1) (hs : bs.sum = 1) {s : Rat} (h0 : 0 ≤ s) (h1 : s ≤ 1) : HQ (bs.map fun b => s * b) ≤ nuQ s + s * HQ bs := by
  have hl : (0 : Rat) ≤ (bs.length : Rat) * 2 := by
    have : (0 : Rat) ≤ (bs.length : Rat) := natR_le (Nat.zero_le _)
    grind
  refine le_lim hl fun n => ?_
  unfold HQ
  rw [List.map_map]
  have a := sum_mono (l := bs) (f := nuQ ∘ fun b => s * b) (g := fun b => sN (s * b) n + 2 / p2 n) fun b _ => (nuQ_nu (s * b) n).2
  rw [sum_plus, sum_const] at a
  have b := part_le hb hs n s h0 h1
  have c := sN_le_nu s n
  have e : (bs.length : Rat) * 2 / p2 n = (bs.length : Rat) * (2 / p2 n) := by rw [Rat.div_def, Rat.div_def, Rat.mul_assoc]
  rw [e]
  unfold HQ at b
  grind
theorem H_prods {bs : List Rat} (hb : ∀ b ∈ bs, 0 ≤ b ∧ b ≤ 1) (hs : bs.sum = 1) : ∀ as : List Rat, (∀ a ∈ as, 0 ≤ a ∧ a ≤ 1) → HQ (prods as bs) ≤ HQ as + as.sum * HQ bs
  | [], _ => by
    show HQ [] ≤ HQ [] + ([] : List Rat).sum * HQ bs
    rw [List.sum_nil, Rat.zero_mul, Rat.add_zero]
    exact Rat.le_refl
  | a :: as, h => by
    have e : prods (a :: as) bs = (bs.map fun b => a * b) ++ prods as bs := rfl
    rw [e, HQ_app, HQ_cons, List.sum_cons, Rat.add_mul]
    have h1 := H_part hb hs (h a (by simp)).1 (h a (by simp)).2
    have h2 := H_prods hb hs as fun x hx => h x (List.mem_cons_of_mem _ hx)
    grind
theorem Sh.all01 {N : Int} {qs : List Rat} (s : Sh N qs) : ∀ b ∈ qs, 0 ≤ b ∧ b ≤ 1 := fun b hb => ⟨Rat.le_of_lt (s.all b hb).1, s.le1 hb⟩
theorem H_both {N M : Int} {as bs : List Rat} (s : Sh N as) (t : Sh M bs) : HQ (prods as bs) ≤ HQ as + HQ bs := by
  have := H_prods (Sh.all01 t) t.sum as (Sh.all01 s)
  rw [s.sum, Rat.one_mul] at this
  exact this
theorem H_parted {M : Int} {qs bs : List Rat} {t : Nat} (hq : ∀ q ∈ qs, 0 ≤ q ∧ q ≤ 1) (s : Sh M bs) (ht : t < qs.length) : HQ (qs.take t ++ bs.map (qs[t]?.getD 0 * ·) ++ qs.drop (t + 1)) ≤ HQ qs + qs[t]?.getD 0 * HQ bs := by
  have e : qs = qs.take t ++ (qs[t] :: qs.drop (t + 1)) := by rw [← List.drop_eq_getElem_cons ht, List.take_append_drop]
  rw [List.getElem?_eq_getElem ht, Option.getD_some]
  have hm := hq _ (List.getElem_mem ht)
  have hp := H_part (Sh.all01 s) s.sum hm.1 hm.2
  have e2 : HQ qs = HQ (qs.take t) + (nuQ qs[t] + HQ (qs.drop (t + 1))) := by
    conv => lhs; rw [e]
    rw [HQ_app, HQ_cons]
  rw [HQ_app, HQ_app, e2]
  grind
end K53
set_option Elab.async false
set_option linter.all false
set_option maxRecDepth 100000
set_option maxHeartbeats 4000000
set_option exponentiation.threshold 9000
namespace K53
open PySem PySem.Spec PyProof.Rows L2 DL
/-! doublings -/
def st1 (p : Nat × Nat) : Nat × Nat := if p.1 % 2 = 0 then (p.1 / 2, p.2 + 1) else p
def it1 (n : Nat) : Nat → Nat × Nat
  | 0 => (n, 0)
  | k + 1 => st1 (it1 n k)
def st2 (odd : Nat) (p : Nat × Nat) : Nat × Nat := if p.1 = 1 % odd then p else (2 * p.1 % odd, p.2 + 1)
def it2 (odd : Nat) : Nat → Nat × Nat
  | 0 => (2 % odd, 1)
  | k + 1 => st2 odd (it2 odd k)
def dA (n : Nat) : Nat := (it1 n (Nat.log2 n + 1)).2
def dO (n : Nat) : Nat := (it1 n (Nat.log2 n + 1)).1
def dR (n : Nat) : Nat := (it2 (dO n) (dO n)).2
theorem it1_inv {n : Nat} (h : 0 < n) : ∀ k, 0 < (it1 n k).1 ∧ n = 2 ^ (it1 n k).2 * (it1 n k).1 ∧ (it1 n k).2 ≤ k ∧ ((it1 n k).1 % 2 = 1 ∨ (it1 n k).2 = k)
  | 0 => ⟨h, by show n = 2 ^ 0 * n; omega, Nat.le_refl _, .inr rfl⟩
  | k + 1 => by
    obtain ⟨h1, h2, h3, h4⟩ := it1_inv h k
    show 0 < (st1 (it1 n k)).1 ∧ n = 2 ^ (st1 (it1 n k)).2 * (st1 (it1 n k)).1 ∧ (st1 (it1 n k)).2 ≤ k + 1 ∧ ((st1 (it1 n k)).1 % 2 = 1 ∨ (st1 (it1 n k)).2 = k + 1)
    generalize it1 n k = p at *
    obtain ⟨o, c⟩ := p
    unfold st1
    by_cases z : o % 2 = 0
    · rw [if_pos z]
      refine ⟨by show 0 < o / 2; have : 0 < o := h1; omega, ?_, by show c + 1 ≤ k + 1; have : c ≤ k := h3; omega, ?_⟩
      · show n = 2 ^ (c + 1) * (o / 2)
        have h2 : n = 2 ^ c * o := h2
        have e : 2 * (o / 2) = o := by omega
        rw [Nat.pow_succ, Nat.mul_assoc, e]
        exact h2
      · rcases h4 with h4 | h4
        · have : o % 2 = 1 := h4; omega
        · exact .inr (by show c + 1 = k + 1; have : c = k := h4; omega)
    · rw [if_neg z]
      exact ⟨h1, h2, by have : c ≤ k := h3; show c ≤ k + 1; omega, .inl (by show o % 2 = 1; omega)⟩
theorem dO_pos {n : Nat} (h : 0 < n) : 0 < dO n := (it1_inv h _).1
theorem d_eq {n : Nat} (h : 0 < n) : n = 2 ^ dA n * dO n := (it1_inv h _).2.1
theorem dO_le {n : Nat} (h : 0 < n) : dO n ≤ n := by
  have h1 := d_eq h
  have h2 : 1 ≤ 2 ^ dA n := Nat.one_le_two_pow
  have := Nat.mul_le_mul_right (dO n) h2
  omega
theorem dO_odd {n : Nat} (h : 0 < n) : dO n % 2 = 1 := by
  obtain ⟨h1, h2, h3, h4⟩ := it1_inv h (Nat.log2 n + 1)
  rcases h4 with h4 | h4
  · exact h4
  · exfalso
    have h5 : n < 2 ^ (Nat.log2 n + 1) := Nat.lt_log2_self
    rw [h4] at h2
    have := Nat.mul_le_mul_left (2 ^ (Nat.log2 n + 1)) h1
    omega
theorem dA_le {n : Nat} (h : 0 < n) (h1 : n ≤ 1000) : dA n ≤ 10 := by
  have h2 := (it1_inv h (Nat.log2 n + 1)).2.2.1
  have h3 : Nat.log2 n < 10 := (Nat.log2_lt (by omega)).mpr (by omega)
  show (it1 n (Nat.log2 n + 1)).2 ≤ 10
  omega
theorem it2_inv {o : Nat} (h : 0 < o) : ∀ k, 1 ≤ (it2 o k).2 ∧ (it2 o k).2 ≤ k + 1 ∧ (it2 o k).1 = 2 ^ (it2 o k).2 % o ∧ ((it2 o k).1 = 1 % o ∨ ((it2 o k).2 = k + 1 ∧ ∀ i, 1 ≤ i → i ≤ k → 2 ^ i % o ≠ 1 % o))
  | 0 => ⟨Nat.le_refl _, Nat.le_refl _, rfl, .inr ⟨rfl, fun i a b => by omega⟩⟩
  | k + 1 => by
    obtain ⟨h1, h2, h3, h4⟩ := it2_inv h k
    show 1 ≤ (st2 o (it2 o k)).2 ∧ (st2 o (it2 o k)).2 ≤ k + 1 + 1 ∧ (st2 o (it2 o k)).1 = 2 ^ (st2 o (it2 o k)).2 % o ∧ ((st2 o (it2 o k)).1 = 1 % o ∨ ((st2 o (it2 o k)).2 = k + 1 + 1 ∧ ∀ i, 1 ≤ i → i ≤ k + 1 → 2 ^ i % o ≠ 1 % o))
    generalize it2 o k = p at *
    obtain ⟨x, r⟩ := p
    have h3 : x = 2 ^ r % o := h3
    unfold st2
    by_cases z : x = 1 % o
    · rw [if_pos z]
      exact ⟨h1, by have : r ≤ k + 1 := h2; show r ≤ k + 1 + 1; omega, h3, .inl z⟩
    · rw [if_neg z]
      rcases h4 with h4 | ⟨h4, h5⟩
      · exact absurd h4 z
      have h4 : r = k + 1 := h4
      refine ⟨by show 1 ≤ r + 1; omega, by show r + 1 ≤ k + 1 + 1; omega, ?_, .inr ⟨by show r + 1 = k + 1 + 1; omega, fun i a b => ?_⟩⟩
      · show 2 * x % o = 2 ^ (r + 1) % o
        rw [h3, Nat.pow_succ, Nat.mul_comm (2 ^ r) 2, Nat.mul_mod_mod]
      · by_cases q : i = k + 1
        · subst q
          rw [← h4, ← h3]
          exact z
        · exact h5 i a (by omega)
theorem dR_le {n : Nat} (h : 0 < n) (h1 : n ≤ 1000) : 1 ≤ dR n ∧ dR n ≤ 1001 := by
  obtain ⟨a, b, _⟩ := it2_inv (dO_pos h) (dO n)
  have := dO_le h
  show 1 ≤ (it2 (dO n) (dO n)).2 ∧ (it2 (dO n) (dO n)).2 ≤ 1001
  omega
theorem cop2 {o : Nat} (ho : o % 2 = 1) (j : Nat) : Nat.Coprime o (2 ^ j) := by
  apply Nat.Coprime.pow_right
  have h2 : Nat.gcd o 2 ≤ 2 := Nat.le_of_dvd (by decide) (Nat.gcd_dvd_right _ _)
  have h1 : Nat.gcd o 2 ∣ o := Nat.gcd_dvd_left _ _
  have h3 : Nat.gcd o 2 ∣ 2 := Nat.gcd_dvd_right _ _
  show Nat.gcd o 2 = 1
  rcases (show Nat.gcd o 2 = 0 ∨ Nat.gcd o 2 = 1 ∨ Nat.gcd o 2 = 2 by omega) with e | e | e
  · rw [e] at h3; have := Nat.eq_zero_of_zero_dvd h3; omega
  · exact e
  · rw [e] at h1; have := Nat.mod_eq_zero_of_dvd h1; omega
theorem dvd_of_mods {a b o : Nat} (h : b % o = a % o) : o ∣ b - a := Nat.dvd_of_mod_eq_zero (Nat.sub_mod_eq_zero_of_mod_eq h)
theorem mods_of_dvd {a b o : Nat} (hab : a ≤ b) (h : o ∣ b - a) : b % o = a % o := by
  obtain ⟨c, hc⟩ := h
  have e : b = a + o * c := by omega
  rw [e, Nat.add_mul_mod_self_left]
theorem odd_round {o : Nat} (h : 0 < o) (ho : o % 2 = 1) : ∃ m, 1 ≤ m ∧ m ≤ o ∧ 2 ^ m % o = 1 % o := by
  obtain ⟨j, m, hr⟩ := rep_ex ((1 : Rat) / ((o : Int) : Rat))
  have e := pow_per h hr.per
  have hl : j + m ≤ o := by
    by_cases z : j + m ≤ o
    · exact z
    · refine (pigeon (u := (1 : Rat) / ((o : Int) : Rat)) fun i k a b => hr.dis i k a ?_).elim
      rw [(one_over h).2] at b
      omega
  refine ⟨m, hr.m1, by omega, ?_⟩
  have e2 : 2 ^ (j + m) % o = 2 ^ j % o := by exact_mod_cast e
  have e3 : o ∣ 2 ^ (j + m) - 2 ^ j := dvd_of_mods e2
  have e4 : 2 ^ (j + m) - 2 ^ j = (2 ^ m - 1) * 2 ^ j := by rw [Nat.sub_mul, Nat.one_mul, ← Nat.pow_add, Nat.add_comm m j]
  rw [e4] at e3
  have e5 := (cop2 ho j).dvd_of_dvd_mul_right e3
  exact mods_of_dvd Nat.one_le_two_pow e5
theorem d_round {n : Nat} (h : 0 < n) : 2 ^ dR n % dO n = 1 % dO n := by
  obtain ⟨m, m1, m2, e⟩ := odd_round (dO_pos h) (dO_odd h)
  obtain ⟨_, _, h3, h4⟩ := it2_inv (dO_pos h) (dO n)
  rcases h4 with h4 | ⟨_, h4⟩
  · rw [← h4, h3]
    rfl
  · exact absurd e (h4 m m1 m2)
theorem d_per {n : Nat} (h : 0 < n) : (2 : Int) ^ (dA n + dR n) % (n : Int) = 2 ^ dA n % (n : Int) := by
  have e1 : dO n ∣ 2 ^ dR n - 1 := dvd_of_mods (d_round h)
  have e2 : n ∣ 2 ^ (dA n + dR n) - 2 ^ dA n := by
    have e4 : 2 ^ (dA n + dR n) - 2 ^ dA n = 2 ^ dA n * (2 ^ dR n - 1) := by rw [Nat.mul_sub, Nat.mul_one, ← Nat.pow_add]
    rw [e4]
    have := Nat.mul_dvd_mul_left (2 ^ dA n) e1
    rwa [← d_eq h] at this
  have e3 : 2 ^ (dA n + dR n) % n = 2 ^ dA n % n := mods_of_dvd (Nat.pow_le_pow_right (by decide) (by omega)) e2
  exact_mod_cast e3
theorem den_per (u : Rat) : restQ u (dA u.den + dR u.den) = restQ u (dA u.den) := by
  have h : 0 < u.den := u.den_pos
  exact rest_of_pow h (d_per h) ⟨u.num, ratDiv u⟩
/-! the sums of the rests, in integers -/
def rI (u : Rat) (i : Nat) : Int := u.num * 2 ^ i % (u.den : Int)
theorem restQ_rI (u : Rat) (i : Nat) : restQ u i = (rI u i : Rat) / ((u.den : Int) : Rat) := rfl
theorem rI_zero (u : Rat) : rI u 0 = u.num % (u.den : Int) := by unfold rI; rw [show u.num * 2 ^ 0 = u.num by omega]
theorem rI_succ (u : Rat) (i : Nat) : 2 * rI u i % (u.den : Int) = rI u (i + 1) := by
  unfold rI
  have e : u.num * 2 ^ (i + 1) = 2 * (u.num * 2 ^ i) := by rw [Int.pow_succ]; grind
  rw [e, Int.mul_emod 2 (u.num * 2 ^ i % (u.den : Int)), Int.emod_emod_of_dvd _ (Int.dvd_refl _), ← Int.mul_emod]
theorem rI_nn (u : Rat) (i : Nat) : 0 ≤ rI u i := Int.emod_nonneg _ (by have := den_pos' u; omega)
theorem rI_lt (u : Rat) (i : Nat) : rI u i < (u.den : Int) := Int.emod_lt_of_pos _ (den_pos' u)
def ahI (u : Rat) (p : Nat) : Nat → Int
  | 0 => 0
  | i + 1 => 2 * (ahI u p i + rI u (p + i))
theorem ahI_nn (u : Rat) (p : Nat) : ∀ i, 0 ≤ ahI u p i
  | 0 => Int.le_refl _
  | i + 1 => by
    have := ahI_nn u p i
    have := rI_nn u (p + i)
    show 0 ≤ 2 * (ahI u p i + rI u (p + i))
    omega
theorem ahI_le (u : Rat) (p : Nat) : ∀ i, ahI u p i + 2 * (u.den : Int) ≤ (u.den : Int) * 2 ^ (i + 1)
  | 0 => by show 0 + 2 * (u.den : Int) ≤ (u.den : Int) * 2 ^ 1; omega
  | i + 1 => by
    have h1 := ahI_le u p i
    have h2 := rI_lt u (p + i)
    show 2 * (ahI u p i + rI u (p + i)) + 2 * (u.den : Int) ≤ (u.den : Int) * 2 ^ (i + 1 + 1)
    have e : (u.den : Int) * 2 ^ (i + 1 + 1) = 2 * ((u.den : Int) * 2 ^ (i + 1)) := by rw [Int.pow_succ]; grind
    omega
theorem ahI_lt {u : Rat} (h : u.den ≤ 1000) (p i : Nat) : (ahI u p i).natAbs < 2 ^ (i + 12) := by
  have h1 := ahI_le u p i
  have h2 := ahI_nn u p i
  have h3 := den_pos' u
  have h4 : (u.den : Int) * 2 ^ (i + 1) ≤ 1024 * 2 ^ (i + 1) := Int.mul_le_mul_of_nonneg_right (by omega) (Int.le_of_lt (pow2_pos _))
  have e : (1024 : Int) * 2 ^ (i + 1) = 2 ^ (i + 11) := by rw [show i + 11 = 10 + (i + 1) by omega, Int.pow_add 2 10]; rfl
  have e2 : ((2 : Int) ^ (i + 11)) = ((2 ^ (i + 11) : Nat) : Int) := by simp
  have h5 : (2 : Nat) ^ (i + 11) < 2 ^ (i + 12) := Nat.pow_lt_pow_right (by decide) (by omega)
  omega
theorem ahI_sum (u : Rat) (p : Nat) : ∀ i, (ahI u p i : Rat) = ((u.den : Int) : Rat) * p2 (p + i) * sumX u p i
  | 0 => by show ((0 : Int) : Rat) = _ * (0 : Rat); rw [Rat.mul_zero]; rfl
  | i + 1 => by
    show ((2 * (ahI u p i + rI u (p + i)) : Int) : Rat) = ((u.den : Int) : Rat) * p2 (p + i + 1) * (sumX u p i + xQ u (p + i))
    rw [Rat.intCast_mul, Rat.intCast_add, ahI_sum u p i, p2_succ]
    unfold xQ
    rw [restQ_rI]
    have h1 := ratNe (den_pos' u)
    have h2 := p2_ne (p + i)
    have e : ((2 : Int) : Rat) = 2 := rfl
    rw [e]
    grind
theorem toss_eq {u : Rat} {a r : Nat} (hr : 1 ≤ r) (h : restQ u (a + r) = restQ u a) : ((ahI u 0 a * (2 ^ r - 1) + ahI u a r : Int) : Rat) / (((u.den : Int) * 2 ^ a * (2 ^ r - 1) : Int) : Rat) = nuQ u := by
  rw [← nuQ_per hr h, Rat.intCast_add, Rat.intCast_mul, Rat.intCast_mul, Rat.intCast_mul, ahI_sum, ahI_sum, Nat.zero_add]
  have e1 : (((2 : Int) ^ a : Int) : Rat) = p2 a := rfl
  have e2 : (((2 : Int) ^ r - 1 : Int) : Rat) = p2 r - 1 := by rw [Rat.intCast_sub]; rfl
  rw [e1, e2, p2_add]
  unfold costQ wQ
  have h1 := ratNe (den_pos' u)
  have h2 := p2_ne a
  have h3 := p2m_ne hr
  generalize ((u.den : Int) : Rat) = d at *
  generalize p2 a = x at *
  generalize p2 r = y at *
  grind
/-! sizes -/
theorem Dok.rb {M : Nat} (h : Dok M) {u : Rat} (o : Ov (M : Int) u) : RB 560 (nuQ u) := by
  obtain ⟨N, h1, h2, h3⟩ := h.ov
  refine ov_rb2 h1 h2 (h3 u o) (nuQ_nn u) (Rat.le_trans (nuQ_le u) (by decide +kernel))
theorem Dok.rbH {M : Nat} (h : Dok M) {qs : List Rat} (o : ∀ q ∈ qs, Ov (M : Int) q) (hl : qs.length ≤ 10000) : RB 560 (HQ qs) := by
  obtain ⟨N, h1, h2, h3⟩ := h.ov
  refine ov_rb2 h1 h2 (ov_sum h1 fun q hq => ?_) (HQ_nn qs) (Rat.le_trans (HQ_le qs) ?_)
  · obtain ⟨x, hx, rfl⟩ := List.mem_map.mp hq
    exact h3 x (o x hx)
  · have := natR_le hl
    have e : ((10000 : Nat) : Rat) = 10000 := rfl
    rw [e] at this
    have : (2 : Rat) * (qs.length : Rat) ≤ 20000 := by grind
    exact Rat.le_trans this (by decide +kernel)
theorem fr_one {n : Nat} (h : 0 < n) : D.tup [.int 1, .int (n : Int)] = fr ((1 : Rat) / ((n : Int) : Rat)) := by
  obtain ⟨h1, h2⟩ := one_over h
  unfold fr
  rw [h1, h2]
theorem Dok.uq1 {n : Nat} (h : Dok n) : Uq ((1 : Rat) / ((n : Int) : Rat)) := by
  have hp := h.pos
  exact h.uq (by rw [Rat.div_def, Rat.one_mul]; exact Rat.le_of_lt (Rat.inv_pos.mpr (ratPos (by omega)))) (div_le_one (a := 1) (by omega) (by omega)) ⟨1, rfl⟩
end K53
set_option Elab.async false
set_option linter.all false
set_option maxRecDepth 100000
set_option maxHeartbeats 4000000
namespace K53
open PySem PySem.Spec PyProof.Rows L2 DL
local macro_rules | `(tactic| walk_at "w") => `(tactic| conv => whnf)
local macro_rules | `(tactic| walk_at "g") => `(tactic| ((conv => whnf); repeat' (first | (refine IFB.t ?_ ?_; rfl; conv => whnf) | (refine IFB.f ?_ ?_; rfl; conv => whnf))))
set_option exponentiation.threshold 9000

def pw (qs : List Rat) : Nat → List Rat
  | 0 => [1]
  | k + 1 => prods (pw qs k) qs
theorem one_prods (as : List Rat) : prods [1] as = as := by
  unfold prods
  simp
theorem pw_one (qs : List Rat) : pw qs 1 = qs := one_prods qs
theorem sh_one : Sh 1 [1] := ⟨by decide, by simp, fun q hq => by cases List.mem_singleton.mp hq; exact ⟨by decide +kernel, ov_one (by decide)⟩, by decide +kernel⟩
theorem pw_len (qs : List Rat) : ∀ k, (pw qs k).length = qs.length ^ k
  | 0 => rfl
  | k + 1 => by
    show (prods (pw qs k) qs).length = _
    rw [prods_len, pw_len qs k, Nat.pow_succ]
theorem pw_sh {N : Int} {qs : List Rat} (h : Sh N qs) (hN : N.natAbs < 2 ^ 100) : ∀ k, ∃ M, Sh M (pw qs k) ∧ M.natAbs < 2 ^ (100 * k + 1)
  | 0 => ⟨1, sh_one, by decide⟩
  | k + 1 => by
    obtain ⟨M, s, hM⟩ := pw_sh h hN k
    exact ⟨M * N, s.prods h, lt_up (wide_lt hM hN) (by omega)⟩
theorem pw_le {qs : List Rat} (h : qs.length ≤ 22) {k : Nat} (hk : k ≤ 3) : (pw qs k).length ≤ 10648 := by
  rw [pw_len]
  have h1 : qs.length ^ k ≤ 22 ^ k := Nat.pow_le_pow_left h k
  have h2 : 22 ^ k ≤ 22 ^ 3 := Nat.pow_le_pow_right (by decide) hk
  exact Nat.le_trans h1 (Nat.le_trans h2 (by decide))
theorem pw_le2 {qs : List Rat} (h : qs.length ≤ 22) {k : Nat} (hk : k ≤ 2) : (pw qs k).length ≤ 484 := by
  rw [pw_len]
  have h1 : qs.length ^ k ≤ 22 ^ k := Nat.pow_le_pow_left h k
  have h2 : 22 ^ k ≤ 22 ^ 2 := Nat.pow_le_pow_right (by decide) hk
  exact Nat.le_trans h1 (Nat.le_trans h2 (by decide))
def sp_check_throws : DSp := fun ds S Q _ => ∃ n, ds = [.int n] ∧ 1 ≤ n ∧ Q .non S
def sp_many_of : DSp := fun ds S Q _ => ∃ (qs : List Rat) (N : Int) (k : Nat), ds = [shD qs, .int (k : Int)] ∧ Sh N qs ∧ N.natAbs < 2 ^ 100 ∧ qs.length ≤ 22 ∧ 1 ≤ k ∧ k ≤ 3 ∧ Q (shD (pw qs k)) S
def sp_many : DSp := sp_many_of

theorem pw_shk {N : Int} {qs : List Rat} (h : Sh N qs) : ∀ k, Sh (N ^ k) (pw qs k)
  | 0 => by rw [show N ^ 0 = 1 by simp]; exact sh_one
  | k + 1 => by rw [Int.pow_succ]; exact (pw_shk h k).prods h
def sp_doublings : DSp := fun ds S Q _ => ∃ n : Nat, ds = [.int n] ∧ 0 < n ∧ n ≤ 1000 ∧ Q (.tup [.int (dA n), .int (dR n)]) S
def sp_toss_cost : DSp := fun ds S Q _ => ∃ u, ds = [fr u] ∧ Uq u ∧ Q (fr (nuQ u)) S
noncomputable def eV (n : Nat) : Rat := ((n : Int) : Rat) * nuQ ((1 : Rat) / ((n : Int) : Rat))
def sp_even_of : DSp := fun ds S Q _ => ∃ n : Nat, ds = [.int (n : Int)] ∧ Dok n ∧ Q (fr (eV n)) S
def sp_even_mean : DSp := sp_even_of
def sp_shuffle_mean : DSp := fun ds S Q _ => ∃ n : Nat, ds = [.int (n : Int)] ∧ 0 < n ∧ n ≤ 5 ∧ Q (fr (eV (Builtin.Math.factorialNat n))) S
def sp_lot_mean : DSp := fun ds S Q _ => ∃ n k : Nat, ds = [.int (n : Int), .int (k : Int)] ∧ 0 < n ∧ n ≤ 5 ∧ k ≤ n ∧ Q (fr (eV (PySem.W.mcComb n k).toNat)) S
structure Pts (M : Nat) (qs : List Rat) : Prop where
  ok : Dok M
  all : ∀ q ∈ qs, 0 ≤ q ∧ q ≤ 1 ∧ Ov (M : Int) q
  len : qs.length ≤ 1000
theorem Pts.of {M : Nat} {qs : List Rat} (h : Dok M) (s : Sh (M : Int) qs) (l : qs.length ≤ 1000) : Pts M qs := ⟨h, fun q hq => ⟨Rat.le_of_lt (s.all q hq).1, s.le1 hq, (s.all q hq).2⟩, l⟩
theorem Pts.uq {M : Nat} {qs : List Rat} (h : Pts M qs) {q : Rat} (hq : q ∈ qs) : Uq q := h.ok.uq (h.all q hq).1 (h.all q hq).2.1 (h.all q hq).2.2
theorem Pts.rb {M : Nat} {qs : List Rat} (h : Pts M qs) : RB 560 (HQ qs) := h.ok.rbH (fun q hq => (h.all q hq).2.2) (by have := h.len; omega)
theorem Dok.le {M : Nat} (h : Dok M) : M ≤ 729 := by have := h.den; omega
theorem Dok.lt {M : Nat} (h : Dok M) {n : Nat} (hn : 10 ≤ n) : ((M : Int)).natAbs < 2 ^ n := by
  have := h.le
  rw [Int.natAbs_natCast]
  exact Nat.lt_of_lt_of_le (show M < 2 ^ 10 by omega) (Nat.pow_le_pow_right (by decide) hn)
noncomputable def nuD : D → D
  | .tup [.int t, .int b] => fr (nuQ ((t : Rat) / (b : Rat)))
  | d => d
theorem nuD_fr (q : Rat) : nuD (fr q) = fr (nuQ q) := by
  show fr (nuQ ((q.num : Rat) / ((q.den : Int) : Rat))) = _
  rw [← ratDiv q]
theorem nuD_map (qs : List Rat) : (qs.map fr).map nuD = (qs.map nuQ).map fr := by
  rw [List.map_map, List.map_map]
  exact List.map_congr_left fun q _ => nuD_fr q
def sp_least_mean_of : DSp := fun ds S Q _ => ∃ M qs, ds = [shD qs] ∧ Pts M qs ∧ Q (fr (HQ qs)) S
def sp_least_mean : DSp := fun ds S Q _ => ∃ (M : Nat) (qs : List Rat), ds = [shD qs] ∧ Dok M ∧ Sh (M : Int) qs ∧ qs.length ≤ 1000 ∧ Q (fr (HQ qs)) S
def sp_mean_of_shares : DSp := sp_least_mean_of
def sp_saved : DSp := fun ds S Q _ => ∃ (M : Nat) (qs : List Rat) (k : Nat), ds = [shD qs, .int (k : Int)] ∧ Dok M ∧ Sh (M : Int) qs ∧ qs.length ≤ 6 ∧ 1 ≤ k ∧ k ≤ 3 ∧ Dok (M ^ k) ∧ Q (fr ((((k : Int) : Int) : Rat) * HQ qs - HQ (pw qs k))) S
/-! counted things -/
def kvC (L : List (Rat × Nat)) : List (NestedKey × D) := L.map fun x => (kq x.1, D.int (x.2 : Int))
def cv (L : List (Rat × Nat)) (q : Rat) : Option Nat := (L.find? fun x => decide (x.1 = q)).map (·.2)
def cput (L : List (Rat × Nat)) (q : Rat) (n : Nat) : List (Rat × Nat) := if L.any (fun x => decide (x.1 = q)) then L.map (fun x => if x.1 = q then (x.1, n) else x) else L ++ [(q, n)]
noncomputable def SumC (L : List (Rat × Nat)) : Rat := (L.map fun x => ((x.2 : Int) : Rat) * nuQ x.1).sum
theorem kq_iff (a b : Rat) : (kq a = kq b) ↔ a = b := ⟨kq_inj, fun e => by rw [e]⟩
theorem nval_C (q : Rat) : ∀ L, nval (kvC L) (kq q) = (cv L q).map fun n => D.int (n : Int)
  | [] => rfl
  | x :: L => by
    have ih := nval_C q L
    unfold nval kvC cv at ih ⊢
    rw [List.map_cons, List.find?_cons, List.find?_cons]
    by_cases e : x.1 = q
    · rw [show decide (kq x.1 = kq q) = true from decide_eq_true (by rw [e]), show decide (x.1 = q) = true from decide_eq_true e]
      rfl
    · rw [show decide (kq x.1 = kq q) = false from decide_eq_false fun z => e (kq_inj z), show decide (x.1 = q) = false from decide_eq_false e]
      exact ih
theorem nput_C (L : List (Rat × Nat)) (q : Rat) (n : Nat) : nput (kvC L) (kq q) (.int (n : Int)) = kvC (cput L q n) := by
  have e1 : ((kvC L).any fun kv => decide (kv.1 = kq q)) = L.any (fun x => decide (x.1 = q)) := by
    unfold kvC
    rw [List.any_map]
    congr 1
    funext x
    exact decide_eq_decide.mpr (kq_iff x.1 q)
  unfold nput cput
  rw [e1]
  split
  · unfold kvC
    rw [List.map_map, List.map_map]
    apply List.map_congr_left
    intro x _
    show (if kq x.1 = kq q then (kq x.1, D.int (n : Int)) else (kq x.1, D.int (x.2 : Int))) = (kq (if x.1 = q then (x.1, n) else x).1, D.int ((if x.1 = q then (x.1, n) else x).2 : Int))
    by_cases e : x.1 = q
    · rw [if_pos (by rw [e]), if_pos e]
    · rw [if_neg (fun z => e (kq_inj z)), if_neg e]
  · unfold kvC
    rw [List.map_append]
    rfl
theorem cv_any (q : Rat) : ∀ L, L.any (fun x => decide (x.1 = q)) = (cv L q).isSome
  | [] => rfl
  | x :: L => by
    have ih := cv_any q L
    unfold cv at ih ⊢
    rw [List.any_cons, List.find?_cons]
    by_cases e : x.1 = q
    · rw [show decide (x.1 = q) = true from decide_eq_true e]
      rfl
    · rw [show decide (x.1 = q) = false from decide_eq_false e]
      exact ih
theorem SumC_cons (x : Rat × Nat) (L : List (Rat × Nat)) : SumC (x :: L) = ((x.2 : Int) : Rat) * nuQ x.1 + SumC L := by unfold SumC; rw [List.map_cons, List.sum_cons]
theorem map_id_of {q : Rat} {n : Nat} : ∀ {L : List (Rat × Nat)}, (∀ x ∈ L, x.1 ≠ q) → (L.map fun x => if x.1 = q then (x.1, n) else x) = L
  | [], _ => rfl
  | x :: L, h => by
    rw [List.map_cons, if_neg (h x (by simp)), map_id_of fun y hy => h y (List.mem_cons_of_mem _ hy)]
theorem csum {q : Rat} {n : Nat} : ∀ {L : List (Rat × Nat)}, (L.map (·.1)).Nodup → cv L q = some n → SumC (L.map fun x => if x.1 = q then (x.1, n + 1) else x) = SumC L + nuQ q
  | [], _, h => by cases h
  | x :: L, hn, h => by
    rw [List.map_cons, List.nodup_cons] at hn
    unfold cv at h
    rw [List.find?_cons] at h
    by_cases e : x.1 = q
    · rw [show decide (x.1 = q) = true from decide_eq_true e] at h
      have hx : x.2 = n := Option.some.inj h
      rw [List.map_cons, if_pos e, map_id_of (fun y hy z => hn.1 (List.mem_map.mpr ⟨y, hy, z.trans e.symm⟩)), SumC_cons, SumC_cons]
      show (((n + 1 : Nat) : Int) : Rat) * nuQ x.1 + SumC L = ((x.2 : Int) : Rat) * nuQ x.1 + SumC L + nuQ q
      rw [hx, e]
      have : (((n + 1 : Nat) : Int) : Rat) = ((n : Int) : Rat) + 1 := by rw [Int.natCast_add, Rat.intCast_add]; rfl
      rw [this]
      grind
    · rw [show decide (x.1 = q) = false from decide_eq_false e] at h
      rw [List.map_cons, if_neg e, SumC_cons, SumC_cons, csum hn.2 (by unfold cv; exact h)]
      grind
structure CInv (qs : List Rat) (i : Nat) (L : List (Rat × Nat)) : Prop where
  nd : (L.map (·.1)).Nodup
  mem : ∀ x ∈ L, x.1 ∈ qs ∧ x.2 ≤ i
  sum : SumC L = HQ (qs.take i)
  len : L.length ≤ i
theorem cv_le {qs : List Rat} {i : Nat} {L : List (Rat × Nat)} (h : CInv qs i L) {q : Rat} {n : Nat} (e : cv L q = some n) : n ≤ i := by
  unfold cv at e
  cases f : L.find? (fun x => decide (x.1 = q)) with
  | none => rw [f] at e; cases e
  | some x =>
    rw [f] at e
    have := (h.mem x (List.mem_of_find?_eq_some f)).2
    have e2 : x.2 = n := Option.some.inj e
    omega
theorem CInv.zero (qs : List Rat) : CInv qs 0 [] := ⟨List.nodup_nil, (fun x hx => nomatch hx), by rw [List.take_zero]; rfl, Nat.le_refl _⟩
theorem HQ_take {qs : List Rat} {i : Nat} {q : Rat} (h : qs[i]? = some q) : HQ (qs.take (i + 1)) = HQ (qs.take i) + nuQ q := by
  rw [List.take_succ, h, HQ_app]
  show _ + HQ [q] = _
  rw [HQ_cons, HQ_nil, Rat.add_zero]
theorem CInv.step {qs : List Rat} {i : Nat} {L : List (Rat × Nat)} {q : Rat} (h : CInv qs i L) (e : qs[i]? = some q) : CInv qs (i + 1) (cput L q ((cv L q).getD 0 + 1)) := by
  have hq : q ∈ qs := List.mem_of_getElem? e
  have ha := cv_any q L
  unfold cput
  rw [ha]
  cases hc : cv L q with
  | none =>
    rw [hc] at ha
    rw [if_neg (by decide)]
    have hno : ∀ x ∈ L, x.1 ≠ q := fun x hx z => by
      have : L.any (fun x => decide (x.1 = q)) = true := List.any_eq_true.mpr ⟨x, hx, decide_eq_true z⟩
      rw [ha] at this
      cases this
    refine ⟨?_, fun x hx => ?_, ?_, ?_⟩
    · rw [List.map_append]
      refine List.nodup_append.mpr ⟨h.nd, by simp, fun a ha b hb => ?_⟩
      obtain ⟨x, hx, rfl⟩ := List.mem_map.mp ha
      have : b = q := by simpa using hb
      rw [this]
      exact hno x hx
    · rcases List.mem_append.mp hx with hx | hx
      · have := h.mem x hx
        exact ⟨this.1, by omega⟩
      · have : x = (q, 1) := by simpa using hx
        rw [this]
        exact ⟨hq, by show 1 ≤ i + 1; omega⟩
    · rw [HQ_take e, ← h.sum]
      unfold SumC
      rw [List.map_append, sum_app]
      congr 1
      show ((((1 : Nat) : Int)) : Rat) * nuQ q + 0 = nuQ q
      have : ((((1 : Nat) : Int)) : Rat) = 1 := rfl
      rw [this, Rat.one_mul, Rat.add_zero]
    · rw [List.length_append]
      have := h.len
      show _ + 1 ≤ _
      omega
  | some n =>
    rw [if_pos (by rfl)]
    have hn := cv_le h hc
    refine ⟨?_, fun x hx => ?_, ?_, ?_⟩
    · rw [List.map_map]
      have : ((fun x : Rat × Nat => x.1) ∘ fun x : Rat × Nat => if x.1 = q then (x.1, (some n).getD 0 + 1) else x) = (·.1) := by
        funext x
        show (if x.1 = q then (x.1, (some n).getD 0 + 1) else x).1 = x.1
        split <;> rfl
      rw [this]
      exact h.nd
    · obtain ⟨y, hy, rfl⟩ := List.mem_map.mp hx
      have := h.mem y hy
      split
      · exact ⟨this.1, by show n + 1 ≤ i + 1; omega⟩
      · exact ⟨this.1, by omega⟩
    · rw [HQ_take e, ← h.sum]
      exact csum h.nd hc
    · rw [List.length_map]
      have := h.len
      omega
theorem itC_len (L : List (Rat × Nat)) : (itN (kvC L)).length = L.length := by unfold itN kvC; rw [List.length_map, List.length_map]
theorem itC_at {L : List (Rat × Nat)} {i : Nat} {x : D} (h : (itN (kvC L))[i]? = some x) : ∃ y, L[i]? = some y ∧ x = .tup [fr y.1, .int (y.2 : Int)] := by
  unfold itN kvC at h
  rw [List.getElem?_map, List.getElem?_map] at h
  cases e : L[i]? with
  | none => rw [e] at h; cases h
  | some y => rw [e] at h; exact ⟨y, rfl, (Option.some.inj h).symm⟩
noncomputable def cD : D → D
  | .tup [.tup [.int t, .int b], .int n] => fr ((n : Rat) * nuQ ((t : Rat) / (b : Rat)))
  | d => d
theorem cD_at (y : Rat × Nat) : cD (.tup [fr y.1, .int (y.2 : Int)]) = fr (((y.2 : Int) : Rat) * nuQ y.1) := by
  show fr (((y.2 : Int) : Rat) * nuQ ((y.1.num : Rat) / ((y.1.den : Int) : Rat))) = _
  rw [← ratDiv y.1]
theorem itC_map (L : List (Rat × Nat)) : (itN (kvC L)).map cD = (L.map fun x => ((x.2 : Int) : Rat) * nuQ x.1).map fr := by
  unfold itN kvC
  rw [List.map_map, List.map_map, List.map_map]
  exact List.map_congr_left fun y _ => cD_at y
theorem ok_check_throws {P : Program} {w : World} {K : PySem.W.Frag} {mg : Str → Option Value} {base : Heap} (T : Txt K mg) : FnOk P w K mg base (L2.CX P w) 2 T.a_check_throws T.fd_check_throws ["n"] (toSp K sp_check_throws) := by
  refine fnD T.F_check_throws sc_check_throws (fun ds S Q E h => ?_) (fun cdv A outer s H E RX hr => ⟨_, (pds_one (pd_ifS (PDW.pt (pdw_or (pdt_not (pdt_tru (pd_call (takes_of rfl rfl rfl rfl) (ok_is_integer T) (hr.mono (by decide)) T.m_is_integer T.F_is_integer.kp T.d_is_integer (pda_cons (pd_var 0) pda_nil)))) (pdw_or1 (pdt_cmp od_lt (pd_var 0) pd_int)))) (pds_one pd_never) pds_nil)), fun ds S Q h => ?_⟩)
  · obtain ⟨_, rfl, _⟩ := h
    rfl
  · obtain ⟨n, rfl, h1, h⟩ := h
    walk_at "w"
    refine ⟨n, rfl, ?_⟩
    walk_at "g"
    refine IFB.f (decide_eq_false (by omega)) ?_
    walk_at "g"
    exact h

theorem ok_many_of {P : Program} {w : World} {K : PySem.W.Frag} {mg : Str → Option Value} {base : Heap} (T : Txt K mg) : FnOk P w K mg base (L2.CX P w) 4 T.a_many_of T.fd_many_of ["shares", "k"] (toSp K sp_many_of) := by
  refine fnD T.F_many_of sc_many_of (fun ds S Q E h => ?_) (fun cdv A outer s H E RX hr => ⟨_, (pds_cons (pd_set 2 sc_many_of.nd (pd_var 0))
    (pds_cons (pd_for (passes_of rfl) rfl (pdi_range1 T.b_range (pda_cons (pd_bin od_sub (pd_var 1) pd_int) pda_nil)) (pdg_name 3 sc_many_of.nd) (pds_one (pd_set 2 sc_many_of.nd (pd_call (takes_of rfl rfl rfl rfl) (ok_both_of T) (hr.mono (by decide)) T.m_both_of T.F_both_of.kp T.d_both_of (pda_cons (pd_var 2) (pda_cons (pd_var 0) pda_nil))))))
    (pds_one (pd_ret (pd_var 2))))), fun ds S Q h => ?_⟩)
  · obtain ⟨_, _, _, rfl, _⟩ := h
    rfl
  · obtain ⟨qs, N, k, rfl, hs, hN, hl, hk, hk3, h⟩ := h
    walk_at "w"
    refine ⟨⟨by omega, by omega⟩, for_rg (fun i ρ' S' => S' = S ∧ ∃ o, ρ' = [some (shD qs), some (.int (k : Int)), some (shD (pw qs (i + 1))), o]) ⟨rfl, _, by rw [pw_one]; rfl⟩ ?_ ?_⟩
    · rintro i _ _ hi ⟨rfl, o, rfl⟩
      obtain ⟨M, s, hM⟩ := pw_sh hs hN (i + 1)
      have hp := pw_le2 hl (k := i + 1) (by omega)
      walk_at "w"
      refine ⟨_, qs, M, N, rfl, s, hs, lt_up hM (by omega), lt_up hN (by decide), by omega, by omega, ?_⟩
      walk_at "w"
      exact ⟨rfl, _, rfl⟩
    · rintro _ _ ⟨rfl, o, rfl⟩
      rw [show ((k : Int) - 1).toNat + 1 = k by omega]
      walk_at "w"
      exact h

theorem ok_many {P : Program} {w : World} {K : PySem.W.Frag} {mg : Str → Option Value} {base : Heap} (T : Txt K mg) : FnOk P w K mg base (L2.CX P w) 6 T.a_many T.fd_many ["shares", "k"] (toSp K sp_many) := by
  refine fnD T.F_many sc_many (fun ds S Q E h => ?_) (fun cdv A outer s H E RX hr => ⟨_, (pds_cons (pd_expr (pd_call (takes_of rfl rfl rfl rfl) (ok_check_shares T) (hr.mono (by decide)) T.m_check_shares T.F_check_shares.kp T.d_check_shares (pda_cons (pd_var 0) pda_nil)))
    (pds_cons (pd_expr (pd_call (takes_of rfl rfl rfl rfl) (ok_check_throws T) (hr.mono (by decide)) T.m_check_throws T.F_check_throws.kp T.d_check_throws (pda_cons (pd_var 1) pda_nil)))
    (pds_one (pd_ret (pd_call (takes_of rfl rfl rfl rfl) (ok_many_of T) (hr.mono (by decide)) T.m_many_of T.F_many_of.kp T.d_many_of (pda_cons (pd_var 0) (pda_cons (pd_var 1) pda_nil))))))), fun ds S Q h => ?_⟩)
  · obtain ⟨_, _, _, rfl, _⟩ := h
    rfl
  · obtain ⟨qs, N, k, rfl, hs, hN, hl, hk, hk3, h⟩ := h
    walk_at "w"
    refine ⟨qs, N, rfl, hs, lt_up hN (by decide), by omega, ?_⟩
    walk_at "w"
    refine ⟨_, rfl, by omega, ?_⟩
    walk_at "w"
    exact ⟨qs, N, k, rfl, hs, hN, hl, hk, hk3, h⟩

theorem ok_doublings {P : Program} {w : World} {K : PySem.W.Frag} {mg : Str → Option Value} {base : Heap} (T : Txt K mg) : FnOk P w K mg base (L2.CX P w) 1 T.a_doublings T.fd_doublings ["bottom"] (toSp K sp_doublings) := by
  refine fnD T.F_doublings sc_doublings (fun ds S Q E h => ?_) (fun cdv A outer s H E RX hr => ⟨_, (pds_cons (pd_par 1 2 rfl sc_doublings.nd (pda_cons (pd_var 0) (pda_cons pd_int pda_nil)) rfl)
    (pds_cons (pd_for (passes_of rfl) rfl (pdi_range1 T.b_range (pda_cons (pd_bits (pd_var 0)) pda_nil)) (pdg_name 3 sc_doublings.nd) (pds_one (pd_ifS (pdt_cmp (od_eq hr.units) (pd_bin od_mod (pd_var 1) pd_int) pd_int) (pds_one (pd_par 1 2 rfl sc_doublings.nd (pda_cons (pd_bin od_fdiv (pd_var 1) pd_int) (pda_cons (pd_bin od_add (pd_var 2) pd_int) pda_nil)) rfl)) pds_nil)))
    (pds_cons (pd_par 4 5 rfl sc_doublings.nd (pda_cons pd_int (pda_cons (pd_bin od_mod pd_int (pd_var 1)) pda_nil)) rfl)
    (pds_cons (pd_for (passes_of rfl) rfl (pdi_range1 T.b_range (pda_cons (pd_var 1) pda_nil)) (pdg_name 3 sc_doublings.nd) (pds_one (pd_ifS (pdt_cmp (od_ne hr.units) (pd_var 5) (pd_bin od_mod pd_int (pd_var 1))) (pds_one (pd_par 5 4 rfl sc_doublings.nd (pda_cons (pd_bin od_mod (pd_bin od_mul pd_int (pd_var 5)) (pd_var 1)) (pda_cons (pd_bin od_add (pd_var 4) pd_int) pda_nil)) rfl)) pds_nil)))
    (pds_one (pd_ret (pd_tup (pda_cons (pd_var 2) (pda_cons (pd_var 4) pda_nil))))))))), fun ds S Q h => ?_⟩)
  · obtain ⟨_, rfl, _⟩ := h
    rfl
  · obtain ⟨n, rfl, h0, h1, h⟩ := h
    walk_at "w"
    rw [show Builtin.Int.intBits (n : Int) = Nat.log2 n + 1 from by unfold Builtin.Int.intBits; rw [if_neg (by simp; omega), Int.natAbs_natCast]]
    have hl : Nat.log2 n < 10 := (Nat.log2_lt (by omega)).mpr (by omega)
    refine ⟨⟨by omega, by omega⟩, for_rg (fun i ρ' S' => S' = S ∧ ∃ o, ρ' = [some (.int n), some (.int (it1 n i).1), some (.int (it1 n i).2), o, none, none]) ⟨rfl, _, rfl⟩ ?_ ?_⟩
    · rintro i _ _ hi ⟨rfl, o, rfl⟩
      walk_at "w"
      refine ⟨by decide, ?_⟩
      walk_at "w"
      refine IFB.p (fun c => ?_) (fun c => ?_)
      · have e : it1 n (i + 1) = ((it1 n i).1 / 2, (it1 n i).2 + 1) := by
          show st1 _ = _
          unfold st1
          rw [if_pos (by omega)]
        walk_at "w"
        refine ⟨div_s (by decide) (by decide), ?_⟩
        walk_at "w"
        exact ⟨rfl, _, by rw [e]; rfl⟩
      · have e : it1 n (i + 1) = it1 n i := by
          show st1 _ = _
          unfold st1
          rw [if_neg (by omega)]
        walk_at "w"
        exact ⟨rfl, _, by rw [e]; rfl⟩
    · rintro _ s0 ⟨e_, o, rfl⟩
      subst e_
      have e0 : ((Nat.log2 n + 1 : Nat) : Int).toNat = Nat.log2 n + 1 := by omega
      rw [e0]
      have hp : 0 < dO n := dO_pos h0
      have hle := dO_le h0
      walk_at "w"
      refine ⟨by show (0 : Int) < ((dO n : Nat) : Int); omega, ?_⟩
      walk_at "w"
      refine ⟨⟨by show ((dO n : Nat) : Int) < _; omega, by show _ ≤ ((dO n : Nat) : Int); omega⟩, for_rg (fun i ρ' S' => S' = s0 ∧ ∃ o, ρ' = [some (.int n), some (.int (dO n)), some (.int (dA n)), o, some (.int (it2 (dO n) i).2), some (.int (it2 (dO n) i).1)]) ⟨rfl, _, rfl⟩ ?_ ?_⟩
      · rintro i _ _ hi ⟨rfl, o, rfl⟩
        walk_at "w"
        refine ⟨by omega, ?_⟩
        walk_at "w"
        refine IFB.np (fun c => ?_) (fun c => ?_)
        · have e : it2 (dO n) (i + 1) = (2 * (it2 (dO n) i).1 % dO n, (it2 (dO n) i).2 + 1) := by
            show st2 _ _ = _
            unfold st2
            rw [if_neg (fun z => c (by rw [z]; rfl))]
          walk_at "w"
          refine ⟨small_l (by decide) (by decide), ?_⟩
          walk_at "w"
          refine ⟨by omega, ?_⟩
          walk_at "w"
          exact ⟨rfl, _, by rw [e]; rfl⟩
        · have e : it2 (dO n) (i + 1) = it2 (dO n) i := by
            show st2 _ _ = _
            unfold st2
            rw [if_pos (by have c' : (((it2 (dO n) i).1 : Nat) : Int) = ((1 % dO n : Nat) : Int) := c; omega)]
          walk_at "w"
          exact ⟨rfl, _, by rw [e]; rfl⟩
      · rintro _ _ ⟨rfl, o, rfl⟩
        walk_at "w"
        exact h

theorem ok_toss_cost {P : Program} {w : World} {K : PySem.W.Frag} {mg : Str → Option Value} {base : Heap} (T : Txt K mg) : FnOk P w K mg base (L2.CX P w) 2 T.a_toss_cost T.fd_toss_cost ["number"] (toSp K sp_toss_cost) := by
  refine fnD T.F_toss_cost sc_toss_cost (fun ds S Q E h => ?_) (fun cdv A outer s H E RX hr => ⟨_, (pds_cons (pd_asg (pd_var 0) (pdg_tup rfl (pdgs_cons (pdg_name 1 sc_toss_cost.nd) (pdgs_cons (pdg_name 2 sc_toss_cost.nd) pdgs_nil))))
    (pds_cons (pd_asg (pd_call (takes_of rfl rfl rfl rfl) (ok_doublings T) (hr.mono (by decide)) T.m_doublings T.F_doublings.kp T.d_doublings (pda_cons (pd_var 2) pda_nil)) (pdg_tup rfl (pdgs_cons (pdg_name 3 sc_toss_cost.nd) (pdgs_cons (pdg_name 4 sc_toss_cost.nd) pdgs_nil))))
    (pds_cons (pd_par3 5 6 7 rfl sc_toss_cost.nd (pda_cons (pd_bin od_mod (pd_var 1) (pd_var 2)) (pda_cons pd_int (pda_cons pd_int pda_nil))) rfl)
    (pds_cons (pd_for (passes_of rfl) rfl (pdi_range1 T.b_range (pda_cons (pd_var 3) pda_nil)) (pdg_name 8 sc_toss_cost.nd) (pds_one (pd_par 6 5 rfl sc_toss_cost.nd (pda_cons (pd_bin od_mul pd_int (pd_bin od_add (pd_var 6) (pd_var 5))) (pda_cons (pd_bin od_mod (pd_bin od_mul pd_int (pd_var 5)) (pd_var 2)) pda_nil)) rfl)))
    (pds_cons (pd_for (passes_of rfl) rfl (pdi_range1 T.b_range (pda_cons (pd_var 4) pda_nil)) (pdg_name 8 sc_toss_cost.nd) (pds_one (pd_par 7 5 rfl sc_toss_cost.nd (pda_cons (pd_bin od_mul pd_int (pd_bin od_add (pd_var 7) (pd_var 5))) (pda_cons (pd_bin od_mod (pd_bin od_mul pd_int (pd_var 5)) (pd_var 2)) pda_nil)) rfl)))
    (pds_cons (pd_set 9 sc_toss_cost.nd (pd_bin od_sub (pd_call (takes_of rfl rfl rfl rfl) (ok_power T) (hr.mono (by decide)) T.m_power T.F_power.kp T.d_power (pda_cons pd_int (pda_cons (pd_var 4) pda_nil))) pd_int))
    (pds_one (pd_ret (pd_call (takes_of rfl rfl rfl rfl) (ok_lowest T) (hr.mono (by decide)) T.m_lowest T.F_lowest.kp T.d_lowest (pda_cons (pd_bin od_add (pd_bin od_mul (pd_var 6) (pd_var 9)) (pd_var 7)) (pda_cons (pd_bin od_mul (pd_bin od_mul (pd_var 2) (pd_call (takes_of rfl rfl rfl rfl) (ok_power T) (hr.mono (by decide)) T.m_power T.F_power.kp T.d_power (pda_cons pd_int (pda_cons (pd_var 3) pda_nil)))) (pd_var 9)) pda_nil))))))))))), fun ds S Q h => ?_⟩)
  · obtain ⟨_, rfl, _⟩ := h
    rfl
  · obtain ⟨u, rfl, hu, h⟩ := h
    have hd := den_pos' u
    have hn := hu.dle
    have h0 : 0 < u.den := u.den_pos
    have ha := dA_le h0 (by omega)
    have hr1 := dR_le h0 (by omega)
    have hper := den_per u
    walk_at "w"
    refine ⟨rfl, ?_⟩
    walk_at "w"
    refine ⟨u.den, rfl, h0, by omega, ?_⟩
    walk_at "w"
    refine ⟨rfl, ?_⟩
    walk_at "w"
    refine ⟨hd, ?_⟩
    have z1 : ∀ i, ahI u 0 (i + 1) = 2 * (ahI u 0 i + rI u i) := fun i => by show 2 * (ahI u 0 i + rI u (0 + i)) = _; rw [Nat.zero_add]
    walk_at "w"
    refine ⟨⟨by omega, by omega⟩, for_rg (fun i ρ' S' => S' = S ∧ ∃ o, ρ' = [some (fr u), some (.int u.num), some (.int (u.den : Int)), some (.int (dA u.den)), some (.int (dR u.den)), some (.int (rI u i)), some (.int (ahI u 0 i)), some (.int 0), o, none]) ⟨rfl, _, by rw [rI_zero]; rfl⟩ ?_ ?_⟩
    · rintro i _ _ hi ⟨rfl, o, rfl⟩
      walk_at "w"
      refine ⟨small_l (by decide) (by decide), ?_⟩
      walk_at "w"
      refine ⟨small_l (by decide) (by decide), ?_⟩
      walk_at "w"
      refine ⟨hd, ?_⟩
      walk_at "w"
      exact ⟨rfl, _, by rw [← rI_succ, z1]; rfl⟩
    · rintro _ s0 ⟨e_, o, rfl⟩
      subst e_
      have e0 : ((dA u.den : Nat) : Int).toNat = dA u.den := by omega
      rw [e0]
      walk_at "w"
      refine ⟨⟨by omega, by omega⟩, for_rg (fun i ρ' S' => S' = s0 ∧ ∃ o, ρ' = [some (fr u), some (.int u.num), some (.int (u.den : Int)), some (.int (dA u.den)), some (.int (dR u.den)), some (.int (rI u (dA u.den + i))), some (.int (ahI u 0 (dA u.den))), some (.int (ahI u (dA u.den) i)), o, none]) ⟨rfl, _, rfl⟩ ?_ ?_⟩
      · rintro i _ _ hi ⟨rfl, o, rfl⟩
        walk_at "w"
        refine ⟨small_l (by decide) (by decide), ?_⟩
        walk_at "w"
        refine ⟨small_l (by decide) (by decide), ?_⟩
        walk_at "w"
        refine ⟨hd, ?_⟩
        walk_at "w"
        exact ⟨rfl, _, by rw [show dA u.den + (i + 1) = dA u.den + i + 1 from rfl, ← rI_succ]; rfl⟩
      · rintro _ _ ⟨rfl, o, rfl⟩
        have e0 : ((dR u.den : Nat) : Int).toNat = dR u.den := by omega
        rw [e0]
        have b1 : (ahI u 0 (dA u.den)).natAbs < 2 ^ 22 := lt_up (ahI_lt (by omega) 0 _) (by omega)
        have b3 : ((2 : Int) ^ dR u.den - 1).natAbs < 2 ^ 1002 := by
          have h1 := lt_up (pow2_lt (dR u.den)) (show dR u.den + 1 ≤ 1002 by omega)
          have h2 := pm_pos hr1.1
          omega
        have b5 : ((u.den : Int)).natAbs < 2 ^ 10 := by rw [Int.natAbs_natCast]; show _ < 1024; omega
        have b6 : ((2 : Int) ^ dA u.den).natAbs < 2 ^ 11 := lt_up (pow2_lt _) (by omega)
        walk_at "w"
        refine ⟨dR u.den, rfl, by omega, ?_⟩
        walk_at "w"
        refine ⟨.inl (wide_mul b1 b3 (by decide) (by decide) (by decide)), ?_⟩
        walk_at "w"
        refine ⟨dA u.den, rfl, by omega, ?_⟩
        walk_at "w"
        refine ⟨.inl (wide_mul b5 b6 (by decide) (by decide) (by decide)), ?_⟩
        walk_at "w"
        refine ⟨.inl (wide_mul (wide_lt b5 b6) b3 (by decide) (by decide) (by decide)), ?_⟩
        walk_at "w"
        refine ⟨_, _, rfl, Int.mul_pos (Int.mul_pos hd (pow2_pos _)) (pm_pos hr1.1), lt_up (wide_lt (wide_lt b5 b6) b3) (by decide), ?_⟩
        rw [toss_eq hr1.1 hper]
        exact h

theorem ok_even_of {P : Program} {w : World} {K : PySem.W.Frag} {mg : Str → Option Value} {base : Heap} (T : Txt K mg) : FnOk P w K mg base (L2.CX P w) 3 T.a_even_of T.fd_even_of ["n"] (toSp K sp_even_of) := by
  refine fnD T.F_even_of sc_even_of (fun ds S Q E h => ?_) (fun cdv A outer s H E RX hr => ⟨_, (pds_one (pd_ret (pd_call (takes_of rfl rfl rfl rfl) (ok_product T) (hr.mono (by decide)) T.m_product T.F_product.kp T.d_product (pda_cons (pd_call (takes_of rfl rfl rfl rfl) (ok_whole T) (hr.mono (by decide)) T.m_whole T.F_whole.kp T.d_whole (pda_cons (pd_var 0) pda_nil)) (pda_cons (pd_call (takes_of rfl rfl rfl rfl) (ok_toss_cost T) (hr.mono (by decide)) T.m_toss_cost T.F_toss_cost.kp T.d_toss_cost (pda_cons (pd_tup (pda_cons pd_int (pda_cons (pd_var 0) pda_nil))) pda_nil)) pda_nil))))), fun ds S Q h => ?_⟩)
  · obtain ⟨_, rfl, _⟩ := h
    rfl
  · obtain ⟨n, rfl, hn, h⟩ := h
    walk_at "w"
    refine ⟨n, rfl, ?_⟩
    walk_at "w"
    rw [fr_one hn.pos]
    refine ⟨_, rfl, hn.uq1, ?_⟩
    walk_at "w"
    have rb1 : RB 3000 (((n : Int) : Rat)) := ⟨hn.lt (by decide), by show 1 < _; decide +kernel⟩
    exact ⟨_, _, rfl, rb1, (hn.rb ⟨1, rfl⟩).mono (by decide), h⟩

theorem ok_even_mean {P : Program} {w : World} {K : PySem.W.Frag} {mg : Str → Option Value} {base : Heap} (T : Txt K mg) : FnOk P w K mg base (L2.CX P w) 4 T.a_even_mean T.fd_even_mean ["n"] (toSp K sp_even_mean) := by
  refine fnD T.F_even_mean sc_even_mean (fun ds S Q E h => ?_) (fun cdv A outer s H E RX hr => ⟨_, (pds_cons (pd_expr (pd_call (takes_of rfl rfl rfl rfl) (ok_check_throws T) (hr.mono (by decide)) T.m_check_throws T.F_check_throws.kp T.d_check_throws (pda_cons (pd_var 0) pda_nil)))
    (pds_one (pd_ret (pd_call (takes_of rfl rfl rfl rfl) (ok_even_of T) (hr.mono (by decide)) T.m_even_of T.F_even_of.kp T.d_even_of (pda_cons (pd_var 0) pda_nil))))), fun ds S Q h => ?_⟩)
  · obtain ⟨_, rfl, _⟩ := h
    rfl
  · obtain ⟨n, rfl, hn, h⟩ := h
    walk_at "w"
    refine ⟨n, rfl, by have := hn.pos; omega, ?_⟩
    walk_at "w"
    exact ⟨n, rfl, hn, h⟩

theorem ok_shuffle_mean {P : Program} {w : World} {K : PySem.W.Frag} {mg : Str → Option Value} {base : Heap} (T : Txt K mg) : FnOk P w K mg base (L2.CX P w) 4 T.a_shuffle_mean T.fd_shuffle_mean ["n"] (toSp K sp_shuffle_mean) := by
  refine fnD T.F_shuffle_mean sc_shuffle_mean (fun ds S Q E h => ?_) (fun cdv A outer s H E RX hr => ⟨_, (pds_cons (pd_expr (pd_call (takes_of rfl rfl rfl rfl) (ok_check_throws T) (hr.mono (by decide)) T.m_check_throws T.F_check_throws.kp T.d_check_throws (pda_cons (pd_var 0) pda_nil)))
    (pds_one (pd_ret (pd_call (takes_of rfl rfl rfl rfl) (ok_even_of T) (hr.mono (by decide)) T.m_even_of T.F_even_of.kp T.d_even_of (pda_cons (pd_bltFun cd_factorial T.i_factorial (pda_cons (pd_var 0) pda_nil)) pda_nil))))), fun ds S Q h => ?_⟩)
  · obtain ⟨_, rfl, _⟩ := h
    rfl
  · obtain ⟨n, rfl, h0, h1, h⟩ := h
    walk_at "w"
    refine ⟨n, rfl, by omega, ?_⟩
    walk_at "w"
    refine ⟨⟨by omega, by omega⟩, ?_⟩
    walk_at "w"
    have e : ((n : Nat) : Int).toNat = n := by omega
    rw [e]
    refine ⟨Builtin.Math.factorialNat n, rfl, ⟨?_, .inl ?_⟩, h⟩
    · exact (by decide +kernel : ∀ n : Nat, n < 6 → 0 < Builtin.Math.factorialNat n) n (by omega)
    · exact (by decide +kernel : ∀ n : Nat, n < 6 → Builtin.Math.factorialNat n ≤ 512) n (by omega)

theorem ok_lot_mean {P : Program} {w : World} {K : PySem.W.Frag} {mg : Str → Option Value} {base : Heap} (T : Txt K mg) : FnOk P w K mg base (L2.CX P w) 4 T.a_lot_mean T.fd_lot_mean ["n", "k"] (toSp K sp_lot_mean) := by
  refine fnD T.F_lot_mean sc_lot_mean (fun ds S Q E h => ?_) (fun cdv A outer s H E RX hr => ⟨_, (pds_cons (pd_expr (pd_call (takes_of rfl rfl rfl rfl) (ok_check_throws T) (hr.mono (by decide)) T.m_check_throws T.F_check_throws.kp T.d_check_throws (pda_cons (pd_var 0) pda_nil)))
    (pds_cons (pd_ifS (pdt_not (pdt_tru (pd_call (takes_of rfl rfl rfl rfl) (ok_is_below T) (hr.mono (by decide)) T.m_is_below T.F_is_below.kp T.d_is_below (pda_cons (pd_var 1) (pda_cons (pd_bin od_add (pd_var 0) pd_int) pda_nil))))) (pds_one pd_never) pds_nil)
    (pds_one (pd_ret (pd_call (takes_of rfl rfl rfl rfl) (ok_even_of T) (hr.mono (by decide)) T.m_even_of T.F_even_of.kp T.d_even_of (pda_cons (pd_bltFun cd_comb T.i_comb (pda_cons (pd_var 0) (pda_cons (pd_var 1) pda_nil))) pda_nil)))))), fun ds S Q h => ?_⟩)
  · obtain ⟨_, _, rfl, _⟩ := h
    rfl
  · obtain ⟨n, k, rfl, h0, h1, h2, h⟩ := h
    walk_at "w"
    refine ⟨n, rfl, by omega, ?_⟩
    walk_at "w"
    refine ⟨k, (n : Int) + 1, rfl, by omega, ?_⟩
    rw [decide_eq_true (by omega)]
    walk_at "g"
    refine ⟨⟨by omega, by omega, by omega⟩, ?_⟩
    walk_at "w"
    have c := (by decide +kernel : ∀ n : Nat, n < 6 → ∀ k : Nat, k < n + 1 → 0 < PySem.W.mcComb n k ∧ PySem.W.mcComb n k ≤ 512) n (by omega) k (by omega)
    refine ⟨(PySem.W.mcComb n k).toNat, ?_, ⟨by omega, .inl (by omega)⟩, h⟩
    have e : ((PySem.W.mcComb n k).toNat : Int) = PySem.W.mcComb n k := by omega
    rw [e]

theorem ok_least_mean_of {P : Program} {w : World} {K : PySem.W.Frag} {mg : Str → Option Value} {base : Heap} (T : Txt K mg) : FnOk P w K mg base (L2.CX P w) 6 T.a_least_mean_of T.fd_least_mean_of ["shares"] (toSp K sp_least_mean_of) := by
  refine fnE T.F_least_mean_of sc_least_mean_of (fun ds S Q E h => ?_) (fun cdv A outer s H E RX hr => ⟨_, (pds_one (pd_ret (pd_call (takes_of rfl rfl rfl rfl) (ok_sum_of_all T) (hr.mono (by decide)) T.m_sum_of_all T.F_sum_of_all.kp T.d_sum_of_all (pda_cons (pd_lc (own := [("share", 1)]) (p := .n 1) rfl sc_least_mean_of.nd (pdi_it (pd_var 0)) (blkOk_by (N := ["shares", "share"]) (sc := defScope s_least_mean_of) (own := [("share", 1)]) (by decide +kernel)) (fun _ _ _ _ _ => (pg_name (i := 1) sc_least_mean_of.nd rfl (by first | exact Or.inl rfl | exact Or.inr rfl))) (fun _ _ _ _ _ => pdts_nil) (fun _ _ _ _ _ => (pd_call takes0 (ok_cost_of T) (hr.mono (by decide)) T.m_cost_of T.F_cost_of.kp T.d_cost_of (pda_cons (pd_var 1) pda_nil)))) pda_nil)))), fun ds S Q h => ?_⟩)
  · obtain ⟨_, _, rfl, _⟩ := h
    rfl
  · obtain ⟨M, qs, rfl, hp, h⟩ := h
    obtain ⟨N, n1, n2, n3⟩ := hp.ok.ov
    have hl := hp.len
    walk_at "w"
    refine lc_xsm nuD (fun _ _ => trivial) ?_ ?_
    · rintro i x acc S2 hi w2
      obtain ⟨q, hq, rfl⟩ := fr_at hi
      walk_at "w"
      refine IFB.t rfl ?_
      walk_at "w"
      refine ⟨q, rfl, hp.uq (List.mem_of_getElem? hq), fun j m hr _ => ?_⟩
      rw [nuQ_per hr.m1 hr.per]
      exact lc_leafL hi w2 (by rw [List.length_map]; show _ ≤ 16777216; omega) (nuD_fr _).symm (Ext.refl _)
    · rintro S2 v ex hv
      rw [nuD_map]
      walk_at "w"
      refine .inl ⟨_, qs.map nuQ, N, rfl, .inr (.inl ⟨v, rfl, sup_same⟩), n1, lt_up n2 (by decide), fun q hq => ?_, ?_, ?_⟩
      · obtain ⟨x, hx, rfl⟩ := List.mem_map.mp hq
        exact ⟨nuQ_nn x, n3 x (hp.all x hx).2.2⟩
      · have := natR_le hl
        have e : ((1000 : Nat) : Rat) = 1000 := rfl
        rw [e] at this
        have h2 := HQ_le qs
        exact Rat.le_trans h2 (Rat.le_trans (show (2 : Rat) * (qs.length : Rat) ≤ 2000 by grind) (by decide +kernel))
      · exact ⟨S, ex.trans (Ext.new hv _), h⟩

theorem ok_least_mean {P : Program} {w : World} {K : PySem.W.Frag} {mg : Str → Option Value} {base : Heap} (T : Txt K mg) : FnOk P w K mg base (L2.CX P w) 7 T.a_least_mean T.fd_least_mean ["shares"] (toSp K sp_least_mean) := by
  refine fnD T.F_least_mean sc_least_mean (fun ds S Q E h => ?_) (fun cdv A outer s H E RX hr => ⟨_, (pds_cons (pd_expr (pd_call (takes_of rfl rfl rfl rfl) (ok_check_shares T) (hr.mono (by decide)) T.m_check_shares T.F_check_shares.kp T.d_check_shares (pda_cons (pd_var 0) pda_nil)))
    (pds_one (pd_ret (pd_call (takes_of rfl rfl rfl rfl) (ok_least_mean_of T) (hr.mono (by decide)) T.m_least_mean_of T.F_least_mean_of.kp T.d_least_mean_of (pda_cons (pd_var 0) pda_nil))))), fun ds S Q h => ?_⟩)
  · obtain ⟨_, _, rfl, _⟩ := h
    rfl
  · obtain ⟨M, qs, rfl, hM, hs, hl, h⟩ := h
    walk_at "w"
    refine ⟨qs, _, rfl, hs, hM.lt (by decide), by omega, ?_⟩
    walk_at "w"
    exact ⟨M, qs, rfl, .of hM hs hl, h⟩

theorem ok_mean_of_shares {P : Program} {w : World} {K : PySem.W.Frag} {mg : Str → Option Value} {base : Heap} (T : Txt K mg) : FnOk P w K mg base (L2.CX P w) 4 T.a_mean_of_shares T.fd_mean_of_shares ["shares"] (toSp K sp_mean_of_shares) := by
  refine fnE T.F_mean_of_shares sc_mean_of_shares (fun ds S Q E h => ?_) (fun cdv A outer s H E RX hr => ⟨_, (pds_cons (pd_set 1 sc_mean_of_shares.nd pd_dnewN)
    (pds_cons (pd_for (passes_of rfl) rfl (pdi_it (pd_var 0)) (pdg_name 2 sc_mean_of_shares.nd) (pds_one (pd_nput hr.units (pd_var 1) (pd_var 2) (pd_bin od_add (pd_nget2 hr.units (pd_var 1) (pd_var 2) pd_int ⟨rfl, rfl, rfl, rfl⟩) pd_int))))
    (pds_one (pd_ret (pd_call (takes_of rfl rfl rfl rfl) (ok_sum_of_all T) (hr.mono (by decide)) T.m_sum_of_all T.F_sum_of_all.kp T.d_sum_of_all (pda_cons (pd_lc (own := [("share", 2), ("many", 3)]) (p := .t [.n 2, .n 3]) rfl sc_mean_of_shares.nd (pdi_itemsN (pd_var 1)) (blkOk_by (N := ["shares", "counts", "share", "many"]) (sc := defScope s_mean_of_shares) (own := [("share", 2), ("many", 3)]) (by decide +kernel)) (fun _ _ _ _ _ => (pg_tup rfl (pgs_cons (pg_name (i := 2) sc_mean_of_shares.nd rfl (by first | exact Or.inl rfl | exact Or.inr rfl)) (pgs_cons (pg_name (i := 3) sc_mean_of_shares.nd rfl (by first | exact Or.inl rfl | exact Or.inr rfl)) pgs_nil)))) (fun _ _ _ _ _ => pdts_nil) (fun _ _ _ _ _ => (pd_call takes0 (ok_product T) (hr.mono (by decide)) T.m_product T.F_product.kp T.d_product (pda_cons (pd_call takes0 (ok_whole T) (hr.mono (by decide)) T.m_whole T.F_whole.kp T.d_whole (pda_cons (pd_var 3) pda_nil)) (pda_cons (pd_call takes0 (ok_toss_cost T) (hr.mono (by decide)) T.m_toss_cost T.F_toss_cost.kp T.d_toss_cost (pda_cons (pd_var 2) pda_nil)) pda_nil))))) pda_nil)))))), fun ds S Q h => ?_⟩)
  · obtain ⟨_, _, rfl, _⟩ := h
    rfl
  · obtain ⟨M, qs, rfl, hp, h⟩ := h
    obtain ⟨N, n1, n2, n3⟩ := hp.ok.ov
    have hl := hp.len
    walk_at "w"
    intro p0 hp0
    generalize hSS : DL.sup S p0 _ = Sa
    obtain ⟨ea, xa, -⟩ := sup_of hSS
    have xa := xa hp0
    clear hSS
    walk_at "w"
    refine for_xs (fun i ρ' S' => ∃ L, CInv qs i L ∧ S' p0 = some (.dN (kvC L)) ∧ Ext S S' ∧ ∃ o1 o2, ρ' = [some (shD qs), some (.ref p0), o1, o2]) ⟨[], .zero qs, ea, xa, _, _, rfl⟩ (fun _ _ _ _ => trivial) ?_ ?_
    · rintro i x _ S1 hi ⟨L, hc, e1, x1, o1, o2, rfl⟩
      obtain ⟨q, hq, rfl⟩ := fr_at hi
      have hil := (List.getElem?_eq_some_iff.mp hq).1
      walk_at "w"
      refine ⟨⟨_, _, rfl, e1⟩, ?_⟩
      walk_at "w"
      refine ⟨_, kq q, e1, rfl, kq_ok _, ?_⟩
      have ev : (nval (kvC L) (kq q)).getD (.int 0) = .int (((cv L q).getD 0 : Nat) : Int) := by
        rw [nval_C]
        cases cv L q <;> rfl
      dsimp only
      rw [ev]
      walk_at "w"
      refine ⟨_, kq q, e1, rfl, kq_ok _, by unfold kvC; rw [List.length_map]; have := hc.len; show _ < 16777216; omega, ?_⟩
      rw [show ((((cv L q).getD 0 : Nat) : Int) + 1) = (((cv L q).getD 0 + 1 : Nat) : Int) by omega, nput_C]
      have x2 : Ext S (DL.sup S1 p0 (.dN (kvC (cput L q ((cv L q).getD 0 + 1))))) := x1.wr hp0
      walk_at "w"
      exact ⟨_, hc.step hq, sup_same, x2, _, _, rfl⟩
    · rintro _ S1 ⟨L, hc, e1, x1, o1, o2, rfl⟩
      rw [List.length_map] at hc
      have hsum := hc.sum
      rw [List.take_length] at hsum
      have hll := hc.len
      have xr : Ext S (DL.rem S1 p0) := fun a c e => by
        unfold DL.rem
        rw [if_neg (fun z => by rw [z, hp0] at e; cases e)]
        exact x1 a c e
      walk_at "w"
      refine ⟨kvC L, e1, ?_⟩
      generalize DL.rem S1 p0 = S2 at *
      refine lc_xsm cD (fun _ _ => trivial) ?_ ?_
      · rintro i x acc S3 hi w2
        obtain ⟨y, hy, rfl⟩ := itC_at hi
        have hm := hc.mem y (List.mem_of_getElem? hy)
        walk_at "w"
        refine IFB.t rfl ?_
        walk_at "w"
        refine ⟨_, rfl, ?_⟩
        walk_at "w"
        refine ⟨y.1, rfl, hp.uq hm.1, ?_⟩
        walk_at "w"
        refine ⟨_, _, rfl, ⟨?_, by show 1 < _; decide⟩, (hp.ok.rb (hp.all _ hm.1).2.2).mono (by decide), ?_⟩
        · show ((y.2 : Int)).natAbs < _
          rw [Int.natAbs_natCast]
          exact Nat.lt_of_le_of_lt (show y.2 ≤ 1000 by omega) (by decide)
        exact lc_leafL hi w2 (by rw [itC_len]; show _ ≤ 16777216; omega) (cD_at y).symm (Ext.refl _)
      · rintro S3 v ex hv
        rw [itC_map]
        walk_at "w"
        refine .inl ⟨_, L.map fun x => ((x.2 : Int) : Rat) * nuQ x.1, N, rfl, .inr (.inl ⟨v, rfl, sup_same⟩), n1, lt_up n2 (by decide), fun q hq => ?_, ?_, ?_⟩
        · obtain ⟨y, hy, rfl⟩ := List.mem_map.mp hq
          have hm := hc.mem y hy
          refine ⟨Rat.mul_nonneg (Rat.intCast_le_intCast.mpr (Int.natCast_nonneg y.2)) (nuQ_nn _), ?_⟩
          rw [Rat.mul_comm]
          exact ov_mulI n1 (n3 _ (hp.all _ hm.1).2.2) _
        · show SumC L ≤ _
          rw [hsum]
          have := natR_le hl
          have e : ((1000 : Nat) : Rat) = 1000 := rfl
          rw [e] at this
          have h2 := HQ_le qs
          exact Rat.le_trans h2 (Rat.le_trans (show (2 : Rat) * (qs.length : Rat) ≤ 2000 by grind) (by decide +kernel))
        · show ∃ S0, _ ∧ Q (fr (SumC L)) S0
          rw [hsum]
          exact ⟨S, (xr.trans ex).trans (Ext.new hv _), h⟩

theorem ok_saved {P : Program} {w : World} {K : PySem.W.Frag} {mg : Str → Option Value} {base : Heap} (T : Txt K mg) : FnOk P w K mg base (L2.CX P w) 6 T.a_saved T.fd_saved ["shares", "k"] (toSp K sp_saved) := by
  refine fnD T.F_saved sc_saved (fun ds S Q E h => ?_) (fun cdv A outer s H E RX hr => ⟨_, (pds_cons (pd_expr (pd_call (takes_of rfl rfl rfl rfl) (ok_check_shares T) (hr.mono (by decide)) T.m_check_shares T.F_check_shares.kp T.d_check_shares (pda_cons (pd_var 0) pda_nil)))
    (pds_cons (pd_expr (pd_call (takes_of rfl rfl rfl rfl) (ok_check_throws T) (hr.mono (by decide)) T.m_check_throws T.F_check_throws.kp T.d_check_throws (pda_cons (pd_var 1) pda_nil)))
    (pds_one (pd_ret (pd_call (takes_of rfl rfl rfl rfl) (ok_difference T) (hr.mono (by decide)) T.m_difference T.F_difference.kp T.d_difference (pda_cons (pd_call (takes_of rfl rfl rfl rfl) (ok_product T) (hr.mono (by decide)) T.m_product T.F_product.kp T.d_product (pda_cons (pd_call (takes_of rfl rfl rfl rfl) (ok_whole T) (hr.mono (by decide)) T.m_whole T.F_whole.kp T.d_whole (pda_cons (pd_var 1) pda_nil)) (pda_cons (pd_call (takes_of rfl rfl rfl rfl) (ok_mean_of_shares T) (hr.mono (by decide)) T.m_mean_of_shares T.F_mean_of_shares.kp T.d_mean_of_shares (pda_cons (pd_var 0) pda_nil)) pda_nil))) (pda_cons (pd_call (takes_of rfl rfl rfl rfl) (ok_mean_of_shares T) (hr.mono (by decide)) T.m_mean_of_shares T.F_mean_of_shares.kp T.d_mean_of_shares (pda_cons (pd_call (takes_of rfl rfl rfl rfl) (ok_many_of T) (hr.mono (by decide)) T.m_many_of T.F_many_of.kp T.d_many_of (pda_cons (pd_var 0) (pda_cons (pd_var 1) pda_nil))) pda_nil)) pda_nil))))))), fun ds S Q h => ?_⟩)
  · obtain ⟨_, _, _, rfl, _⟩ := h
    rfl
  · obtain ⟨M, qs, k, rfl, hM, hs, hl, hk, hk3, hMk, h⟩ := h
    have hp := Pts.of hM hs (by omega)
    have hl2 := pw_len qs k
    have hl3 : qs.length ^ k ≤ 6 ^ 3 := Nat.le_trans (Nat.pow_le_pow_left hl k) (Nat.pow_le_pow_right (by decide) hk3)
    have hp2 : Pts (M ^ k) (pw qs k) := Pts.of hMk (by rw [Int.natCast_pow]; exact pw_shk hs k) (by rw [hl2]; exact Nat.le_trans hl3 (by decide))
    have rbk : RB 4 (((k : Int) : Rat)) := ⟨by show _ < 16; have e : (((k : Int) : Rat)).num = (k : Int) := rfl; rw [e]; omega, by show 1 < 16; decide⟩
    walk_at "w"
    refine ⟨qs, _, rfl, hs, hM.lt (by decide), by omega, ?_⟩
    walk_at "w"
    refine ⟨_, rfl, by omega, ?_⟩
    walk_at "w"
    refine ⟨_, rfl, ?_⟩
    walk_at "w"
    refine ⟨M, qs, rfl, hp, ?_⟩
    walk_at "w"
    refine ⟨_, _, rfl, rbk.mono (by decide), hp.rb.mono (by decide), ?_⟩
    walk_at "w"
    refine ⟨qs, _, k, rfl, hs, hM.lt (by decide), by omega, hk, hk3, ?_⟩
    walk_at "w"
    refine ⟨M ^ k, _, rfl, hp2, ?_⟩
    walk_at "w"
    exact ⟨_, _, rfl, (rb_mul rbk hp.rb).mono (by decide), hp2.rb.mono (by decide), h⟩
end K53
set_option Elab.async false
set_option linter.all false
set_option maxRecDepth 100000
set_option maxHeartbeats 4000000
namespace K53
open PySem PySem.Spec PyProof.Rows L2 DL
local macro_rules | `(tactic| walk_at "w") => `(tactic| conv => whnf)
local macro_rules | `(tactic| walk_at "g") => `(tactic| ((conv => whnf); repeat' (first | (refine IFB.t ?_ ?_; rfl; conv => whnf) | (refine IFB.f ?_ ?_; rfl; conv => whnf))))
set_option exponentiation.threshold 9000

def sp_least_tail_of : DSp := fun ds S Q _ => ∃ (qs : List Rat) (N : Int) (k : Nat), ds = [shD qs, .int (k : Int)] ∧ Sh N qs ∧ N.natAbs < 2 ^ 900 ∧ qs.length ≤ 10000 ∧ k ≤ 1000 ∧ Q (fr (tailQ qs k)) S
def sp_least_tail : DSp := sp_least_tail_of

def optD : Option Nat → D
  | some m => .int (m : Int)
  | none => .non
def halvO (b : Nat) : Option Nat := if b = 2 ^ b.log2 then some b.log2 else none
theorem halvO_pow (c : Nat) : halvO (2 ^ c) = some c := by
  unfold halvO
  rw [Nat.log2_two_pow, if_pos rfl]
theorem odd_pow {b j : Nat} (ho : b % 2 ≠ 0) (h : b ∣ 2 ^ j) : b = 1 := by
  have hc : Nat.Coprime b (2 ^ j) := by
    apply Nat.Coprime.pow_right
    have : Nat.gcd b 2 ∣ 2 := Nat.gcd_dvd_right _ _
    have h2 : Nat.gcd b 2 ≤ 2 := Nat.le_of_dvd (by decide) this
    have h1 : Nat.gcd b 2 ∣ b := Nat.gcd_dvd_left _ _
    show Nat.gcd b 2 = 1
    rcases (show Nat.gcd b 2 = 0 ∨ Nat.gcd b 2 = 1 ∨ Nat.gcd b 2 = 2 by omega) with e | e | e
    · rw [e] at this; have := Nat.eq_zero_of_zero_dvd this; omega
    · exact e
    · rw [e] at h1; exact absurd (Nat.mod_eq_zero_of_dvd h1) ho
  exact Nat.Coprime.eq_one_of_dvd hc h
theorem halvO_odd {b c : Nat} (ho : b % 2 ≠ 0) (h1 : b ≠ 1) : halvO (2 ^ c * b) = none := by
  unfold halvO
  rw [if_neg]
  intro z
  exact h1 (odd_pow ho (z ▸ Nat.dvd_mul_left b (2 ^ c)))
theorem dvd_pow2 : ∀ (k d : Nat), d ∣ 2 ^ k → ∃ j, j ≤ k ∧ d = 2 ^ j
  | 0, d, h => ⟨0, Nat.le_refl _, Nat.dvd_one.mp h⟩
  | k + 1, d, h => by
    by_cases e : d % 2 = 0
    · obtain ⟨d', rfl⟩ : ∃ d', d = 2 * d' := ⟨d / 2, by omega⟩
      rw [Nat.pow_succ, Nat.mul_comm (2 ^ k) 2] at h
      obtain ⟨j, hj, rfl⟩ := dvd_pow2 k d' (Nat.dvd_of_mul_dvd_mul_left (by decide) h)
      exact ⟨j + 1, by omega, by rw [Nat.pow_succ, Nat.mul_comm]⟩
    · exact ⟨0, Nat.zero_le _, odd_pow e h⟩
def mx (ns : List Nat) : Nat := ns.foldr max 0
theorem mx_le : ∀ {ns : List Nat} {y : Nat}, y ∈ ns → y ≤ mx ns
  | n :: ns, y, h => by
    show y ≤ max n (mx ns)
    rcases List.mem_cons.mp h with rfl | h
    · exact Nat.le_max_left _ _
    · exact Nat.le_trans (mx_le h) (Nat.le_max_right _ _)
theorem mx_of {ns : List Nat} {k : Nat} (h : ∀ y ∈ ns, y ≤ k) : mx ns ≤ k := by
  induction ns with
  | nil => exact Nat.zero_le _
  | cons n ns ih => exact Nat.max_le.mpr ⟨h n (by simp), ih fun y hy => h y (List.mem_cons_of_mem _ hy)⟩
def sureO (qs : List Rat) : Option Nat := if qs.all (fun q => (halvO q.den).isSome) = true then some (mx (qs.map (·.den.log2))) else none
theorem halvO_some {b : Nat} (h : (halvO b).isSome = true) : b = 2 ^ b.log2 ∧ halvO b = some b.log2 := by
  unfold halvO at h ⊢
  by_cases e : b = 2 ^ b.log2
  · exact ⟨e, by rw [if_pos e]⟩
  · rw [if_neg e] at h; cases h
theorem den_two {q : Rat} {k : Nat} : restQ q k = 0 ↔ q.den ∣ 2 ^ k := by
  have hd := ratNe (den_pos' q)
  have hz : restQ q k = 0 ↔ (q.num * 2 ^ k) % (q.den : Int) = 0 := by
    unfold restQ
    constructor
    · intro h
      have e : (((q.num * 2 ^ k) % (q.den : Int) : Int) : Rat) = 0 := by grind
      exact Rat.intCast_inj.mp (e.trans Rat.intCast_zero.symm)
    · intro h
      rw [h, Rat.intCast_zero, Rat.div_def, Rat.zero_mul]
  rw [hz]
  constructor
  · intro h
    have h2 := Int.dvd_of_emod_eq_zero h
    have h3 : (q.den : Int).natAbs ∣ (q.num * 2 ^ k).natAbs := Int.natAbs_dvd_natAbs.mpr h2
    rw [Int.natAbs_natCast, Int.natAbs_mul, pow2_abs] at h3
    exact Nat.Coprime.dvd_of_dvd_mul_left (Nat.Coprime.symm q.reduced) h3
  · intro h
    have h2 : (q.den : Int) ∣ ((2 ^ k : Nat) : Int) := Int.natCast_dvd_natCast.mpr h
    apply Int.emod_eq_zero_of_dvd
    refine Int.dvd_trans h2 ?_
    rw [Int.natCast_pow]
    exact Int.dvd_mul_left _ _
theorem sum_zero : ∀ {xs : List Rat}, (∀ x ∈ xs, 0 ≤ x) → (xs.sum = 0 ↔ ∀ x ∈ xs, x = 0)
  | [], _ => by simp
  | x :: xs, h => by
    have h1 := h x (by simp)
    have hh : ∀ y ∈ xs, 0 ≤ y := fun y hy => h y (List.mem_cons_of_mem _ hy)
    have h2 := sum_nonneg hh
    have ih := sum_zero hh
    rw [List.sum_cons]
    constructor
    · intro e
      have e1 : x = 0 := by grind
      have e2 : xs.sum = 0 := by grind
      intro y hy
      rcases List.mem_cons.mp hy with rfl | hy
      · exact e1
      · exact ih.mp e2 y hy
    · intro e
      rw [e x (by simp), ih.mpr fun y hy => e y (List.mem_cons_of_mem _ hy)]
      decide +kernel
theorem tail_zero (qs : List Rat) (k : Nat) : tailQ qs k = 0 ↔ ∀ q ∈ qs, q.den ∣ 2 ^ k := by
  have h2 := ratNe (pow2_pos k)
  have e : tailQ qs k = 0 ↔ (qs.map (restQ · k)).sum = 0 := by
    unfold tailQ
    constructor
    · intro h; grind
    · intro h; rw [h, Rat.div_def, Rat.zero_mul]
  rw [e, sum_zero fun x hx => by obtain ⟨q, _, rfl⟩ := List.mem_map.mp hx; exact restQ_nn q k]
  constructor
  · intro h q hq
    exact den_two.mp (h _ (List.mem_map.mpr ⟨q, hq, rfl⟩))
  · intro h x hx
    obtain ⟨q, hq, rfl⟩ := List.mem_map.mp hx
    exact den_two.mpr (h q hq)
theorem sure_tail (qs : List Rat) (k : Nat) : tailQ qs k = 0 ↔ ∃ m, sureO qs = some m ∧ m ≤ k := by
  rw [tail_zero]
  constructor
  · intro h
    have hs : qs.all (fun q => (halvO q.den).isSome) = true := List.all_eq_true.mpr fun q hq => by
      obtain ⟨j, _, e⟩ := dvd_pow2 k _ (h q hq)
      rw [e, halvO_pow]; rfl
    refine ⟨_, by unfold sureO; rw [if_pos hs], mx_of fun y hy => ?_⟩
    obtain ⟨q, hq, rfl⟩ := List.mem_map.mp hy
    obtain ⟨j, hj, e⟩ := dvd_pow2 k _ (h q hq)
    rw [e, Nat.log2_two_pow]
    exact hj
  · rintro ⟨m, h, hm⟩ q hq
    unfold sureO at h
    split at h
    · rename_i hs
      cases h
      have e := (halvO_some (List.all_eq_true.mp hs q hq)).1
      rw [e]
      exact Nat.pow_dvd_pow 2 (Nat.le_trans (mx_le (List.mem_map.mpr ⟨q, hq, rfl⟩)) hm)
    · cases h
def halvD : D → D
  | .tup [.int _, .int b] => optD (halvO b.toNat)
  | d => d
theorem halv_D (qs : List Rat) : (qs.map fr).map halvD = qs.map fun q => optD (halvO q.den) := by
  rw [List.map_map]
  apply List.map_congr_left
  intro q _
  show optD (halvO (q.den : Int).toNat) = _
  rw [Int.toNat_natCast]
theorem fb_opt (o : Option Nat) : fb (optD o) = true := by cases o <;> rfl
theorem in_non : ∀ qs : List Rat, inD .non (qs.map fun q => optD (halvO q.den)) = !qs.all (fun q => (halvO q.den).isSome)
  | [] => rfl
  | q :: qs => by
    have ih := in_non qs
    unfold inD inV at ih ⊢
    simp only [List.map_cons, List.any_cons, List.all_cons] at ih ⊢
    rw [ih]
    cases halvO q.den with
    | none => rfl
    | some m =>
      rw [show eqV (fl (optD (some m))) (fl .non) = false from rfl]
      simp
def sp_halvings : DSp := fun ds S Q _ => ∃ b : Nat, ds = [.int (b : Int)] ∧ 0 < b ∧ Q (optD (halvO b)) S
def sp_surely : DSp := fun ds S Q _ => ∃ (qs : List Rat) (N : Int), ds = [shD qs] ∧ Sh N qs ∧ N.natAbs < 2 ^ 900 ∧ qs.length ≤ 10000 ∧ Q (optD (sureO qs)) S
def sp_within : DSp := fun ds S Q _ => ∃ (qs : List Rat) (N : Int) (far : Rat) (K : Nat), ds = [shD qs, fr far] ∧ Sh N qs ∧ N.natAbs < 2 ^ 900 ∧ qs.length ≤ 10000 ∧ RB 3000 far ∧ 0 < far ∧ K ≤ 1000 ∧ tailQ qs K ≤ far ∧ (∀ j, j < K → far < tailQ qs j) ∧ Q (.int (K : Int)) S
theorem tail_rb {N : Int} {qs : List Rat} (hs : Sh N qs) (hN : N.natAbs < 2 ^ 900) (hl : qs.length ≤ 10000) {k : Nat} (hk : k ≤ 1000) : RB 2000 (tailQ qs k) := by
  have h1 := rests_rb hs.pos hN (fun q hq => (hs.all q hq).2) (by omega) k
  unfold tailQ
  rw [← half_eq]
  have h2 : ((((qs.map (restQ · k)).sum).den : Int) * 2 ^ k).natAbs < 2 ^ 2000 := by
    rw [Int.natAbs_mul, Int.natAbs_natCast, pow2_abs]
    have := Nat.mul_lt_mul_of_lt_of_le h1.2 (Nat.pow_le_pow_right (n := 2) (by decide) hk) (by exact Nat.two_pow_pos _)
    rw [← Nat.pow_add] at this
    exact lt_up this (by decide)
  exact rb_div (Int.mul_pos (den_pos' _) (pow2_pos k)) (lt_up h1.1 (by decide)) h2
theorem least_of {p : Nat → Prop} : ∀ (K : Nat), p K → ∃ k, k ≤ K ∧ p k ∧ ∀ j, j < k → ¬ p j
  | 0, h => ⟨0, Nat.le_refl _, h, fun j hj => by omega⟩
  | K + 1, h => by
    by_cases e : ∃ j, j ≤ K ∧ p j
    · obtain ⟨j, hj, pj⟩ := e
      obtain ⟨k, hk, pk, q⟩ := least_of j pj
      exact ⟨k, by omega, pk, q⟩
    · exact ⟨K + 1, Nat.le_refl _, h, fun j hj pj => e ⟨j, by omega, pj⟩⟩
  termination_by K => K
  decreasing_by omega
theorem ok_least_tail_of {P : Program} {w : World} {K : PySem.W.Frag} {mg : Str → Option Value} {base : Heap} (T : Txt K mg) : FnOk P w K mg base (L2.CX P w) 4 T.a_least_tail_of T.fd_least_tail_of ["shares", "k"] (toSp K sp_least_tail_of) := by
  refine fnE T.F_least_tail_of sc_least_tail_of (fun ds S Q E h => ?_) (fun cdv A outer s H E RX hr => ⟨_, (pds_one (pd_ret (pd_call (takes_of rfl rfl rfl rfl) (ok_by_halves T) (hr.mono (by decide)) T.m_by_halves T.F_by_halves.kp T.d_by_halves (pda_cons (pd_call (takes_of rfl rfl rfl rfl) (ok_sum_of_all T) (hr.mono (by decide)) T.m_sum_of_all T.F_sum_of_all.kp T.d_sum_of_all (pda_cons (pd_lc (own := [("share", 2)]) (p := .n 2) rfl sc_least_tail_of.nd (pdi_it (pd_var 0)) (blkOk_by (N := ["shares", "k", "share"]) (sc := defScope s_least_tail_of) (own := [("share", 2)]) (by decide +kernel)) (fun _ _ _ _ _ => (pg_name (i := 2) sc_least_tail_of.nd rfl (by first | exact Or.inl rfl | exact Or.inr rfl))) (fun _ _ _ _ _ => pdts_nil) (fun _ _ _ _ _ => (pd_call takes0 (ok_rest_of T) (hr.mono (by decide)) T.m_rest_of T.F_rest_of.kp T.d_rest_of (pda_cons (pd_var 2) (pda_cons (pd_var 1) pda_nil))))) pda_nil)) (pda_cons (pd_var 1) pda_nil))))), fun ds S Q h => ?_⟩)
  · obtain ⟨_, _, _, rfl, _⟩ := h
    rfl
  · obtain ⟨qs, N, k, rfl, hs, hN, hl, hk, h⟩ := h
    walk_at "w"
    refine lc_xsm (restD k) (fun _ _ => trivial) ?_ ?_
    · rintro i x acc S2 hi w2
      obtain ⟨q, hq, rfl⟩ := fr_at hi
      walk_at "w"
      refine IFB.t rfl ?_
      walk_at "w"
      refine ⟨q, k, rfl, (hs.rb hN (List.mem_of_getElem? hq)).mono (by decide), by omega, ?_⟩
      exact lc_leafL hi w2 (by rw [List.length_map]; show _ ≤ 16777216; omega) (restD_fr _ _).symm (Ext.refl _)
    · rintro S2 v ex hv
      rw [rests_D]
      have ho : ∀ q ∈ qs.map (restQ · k), 0 ≤ q ∧ Ov N q := fun q hq => by
        obtain ⟨x, hx, rfl⟩ := List.mem_map.mp hq
        exact ⟨restQ_nn x k, ov_rest hs.pos (hs.all x hx).2 k⟩
      walk_at "w"
      refine .inl ⟨_, qs.map (restQ · k), N, rfl, .inr (.inl ⟨v, rfl, sup_same⟩), hs.pos, lt_up hN (by decide), ho, rests_le (by omega) k, ?_⟩
      walk_at "w"
      refine ⟨_, k, rfl, (rests_rb hs.pos hN (fun q hq => (hs.all q hq).2) (by omega) k).mono (by decide), by omega, ?_⟩
      exact ⟨S, ex.trans (Ext.new hv _), h⟩

theorem ok_least_tail {P : Program} {w : World} {K : PySem.W.Frag} {mg : Str → Option Value} {base : Heap} (T : Txt K mg) : FnOk P w K mg base (L2.CX P w) 6 T.a_least_tail T.fd_least_tail ["shares", "k"] (toSp K sp_least_tail) := by
  refine fnD T.F_least_tail sc_least_tail (fun ds S Q E h => ?_) (fun cdv A outer s H E RX hr => ⟨_, (pds_cons (pd_expr (pd_call (takes_of rfl rfl rfl rfl) (ok_check_shares T) (hr.mono (by decide)) T.m_check_shares T.F_check_shares.kp T.d_check_shares (pda_cons (pd_var 0) pda_nil)))
    (pds_cons (pd_expr (pd_call (takes_of rfl rfl rfl rfl) (ok_check_natural T) (hr.mono (by decide)) T.m_check_natural T.F_check_natural.kp T.d_check_natural (pda_cons (pd_var 1) pda_nil)))
    (pds_one (pd_ret (pd_call (takes_of rfl rfl rfl rfl) (ok_least_tail_of T) (hr.mono (by decide)) T.m_least_tail_of T.F_least_tail_of.kp T.d_least_tail_of (pda_cons (pd_var 0) (pda_cons (pd_var 1) pda_nil))))))), fun ds S Q h => ?_⟩)
  · obtain ⟨_, _, _, rfl, _⟩ := h
    rfl
  · obtain ⟨qs, N, k, rfl, hs, hN, hl, hk, h⟩ := h
    walk_at "w"
    refine ⟨qs, N, rfl, hs, lt_up hN (by decide), by omega, ?_⟩
    walk_at "w"
    refine ⟨_, rfl, by omega, ?_⟩
    walk_at "w"
    exact ⟨qs, N, k, rfl, hs, hN, hl, hk, h⟩

theorem ok_halvings {P : Program} {w : World} {K : PySem.W.Frag} {mg : Str → Option Value} {base : Heap} (T : Txt K mg) : FnOk P w K mg base (L2.CX P w) 1 T.a_halvings T.fd_halvings ["bottom"] (toSp K sp_halvings) := by
  refine fnD T.F_halvings sc_halvings (fun ds S Q E h => ?_) (fun cdv A outer s H E RX hr => ⟨_, (pds_cons (pd_set 1 sc_halvings.nd pd_int)
    (pds_cons (pd_while (passes_of rfl) (pdt_cmp (od_eq hr.units) (pd_bin od_mod (pd_var 0) pd_int) pd_int) (pds_one (pd_par 0 1 rfl sc_halvings.nd (pda_cons (pd_bin od_fdiv (pd_var 0) pd_int) (pda_cons (pd_bin od_add (pd_var 1) pd_int) pda_nil)) rfl)))
    (pds_one (pd_ret (pd_if (pdt_cmp (od_eq hr.units) (pd_var 0) pd_int) (pd_var 1) pd_non))))), fun ds S Q h => ?_⟩)
  · obtain ⟨_, rfl, _⟩ := h
    rfl
  · obtain ⟨b, rfl, hb, h⟩ := h
    walk_at "w"
    refine ⟨fun m ρ' S' => S' = S ∧ ∃ c b' : Nat, m = b' ∧ 0 < b' ∧ b = 2 ^ c * b' ∧ ρ' = [some (.int (b' : Int)), some (.int (c : Int))], ⟨b, rfl, 0, b, rfl, hb, by simp, rfl⟩, ?_⟩
    rintro m _ _ ⟨rfl, c, m', hm, h0, e, rfl⟩
    subst hm
    walk_at "w"
    refine ⟨by decide, ?_⟩
    refine IFB.p (fun c1 => ?_) (fun c1 => ?_)
    · walk_at "w"
      refine ⟨div_s (by decide) (by decide), ?_⟩
      walk_at "w"
      refine ⟨m / 2, by omega, rfl, c + 1, m / 2, rfl, by omega, by rw [e, Nat.pow_succ, Nat.mul_assoc]; congr 1; omega, ?_⟩
      rw [show ((m / 2 : Nat) : Int) = (m : Int) / 2 by omega]
      rfl
    · have ho : m % 2 ≠ 0 := by omega
      walk_at "w"
      refine IFB.p (fun c2 => ?_) (fun c2 => ?_)
      · walk_at "w"
        have e1 : m = 1 := by omega
        rw [e, e1, Nat.mul_one, halvO_pow] at h
        exact h
      · walk_at "w"
        rw [e, halvO_odd ho (by omega)] at h
        exact h

theorem ok_surely {P : Program} {w : World} {K : PySem.W.Frag} {mg : Str → Option Value} {base : Heap} (T : Txt K mg) : FnOk P w K mg base (L2.CX P w) 6 T.a_surely T.fd_surely ["shares"] (toSp K sp_surely) := by
  refine fnE T.F_surely sc_surely (fun ds S Q E h => ?_) (fun cdv A outer s H E RX hr => ⟨_, (pds_cons (pd_expr (pd_call (takes_of rfl rfl rfl rfl) (ok_check_shares T) (hr.mono (by decide)) T.m_check_shares T.F_check_shares.kp T.d_check_shares (pda_cons (pd_var 0) pda_nil)))
    (pds_cons (pd_setLc 1 (own := [("top", 2), ("bottom", 3)]) (p := .t [.n 2, .n 3]) rfl sc_surely.nd rfl rfl (sw_true rfl rfl rfl (by decide +kernel)) (pdi_it (pd_var 0)) (blkOk_by (N := ["shares", "found", "top", "bottom"]) (sc := defScope s_surely) (own := [("top", 2), ("bottom", 3)]) (by decide +kernel)) (fun _ _ _ _ _ => (pg_tup rfl (pgs_cons (pg_name (i := 2) sc_surely.nd rfl (by first | exact Or.inl rfl | exact Or.inr rfl)) (pgs_cons (pg_name (i := 3) sc_surely.nd rfl (by first | exact Or.inl rfl | exact Or.inr rfl)) pgs_nil)))) (fun _ _ _ _ _ => pdts_nil) (fun _ _ _ _ _ => (pd_call takes0 (ok_halvings T) (hr.mono (by decide)) T.m_halvings T.F_halvings.kp T.d_halvings (pda_cons (pd_var 3) pda_nil))))
    (pds_one (pd_ret (pd_if (pdt_cmp od_in pd_non (pd_var 1)) pd_non (pd_blt (cd_max1 rfl) T.b_max (by decide +kernel) (pda_cons (pd_var 1) pda_nil))))))), fun ds S Q h => ?_⟩)
  · obtain ⟨_, _, rfl, _⟩ := h
    rfl
  · obtain ⟨qs, N, rfl, hs, hN, hl, h⟩ := h
    walk_at "w"
    refine ⟨qs, N, rfl, hs, lt_up hN (by decide), by omega, ?_⟩
    walk_at "w"
    refine lc_xsm halvD (fun _ _ => trivial) ?_ ?_
    · rintro i x acc S2 hi w2
      obtain ⟨q, hq, rfl⟩ := fr_at hi
      walk_at "w"
      refine IFB.t rfl ?_
      walk_at "w"
      refine ⟨q.den, rfl, by have := den_pos' q; omega, ?_⟩
      exact lc_leafL hi w2 (by rw [List.length_map]; show _ ≤ 16777216; omega) (by show _ = optD (halvO (q.den : Int).toNat); rw [Int.toNat_natCast]) (Ext.refl _)
    · rintro S2 v ex hv
      rw [halv_D]
      walk_at "w"
      refine ⟨_, .inl ⟨v, rfl, sup_same⟩, rfl, List.all_eq_true.mpr fun x hx => ?_, ?_⟩
      · obtain ⟨q, _, rfl⟩ := List.mem_map.mp hx
        exact fb_opt _
      have eS : sureO qs = if qs.all (fun q => (halvO q.den).isSome) = true then some (mx (qs.map (·.den.log2))) else none := rfl
      have ei := in_non qs
      cases ha : qs.all (fun q => (halvO q.den).isSome) with
      | false =>
        rw [ha] at ei eS
        rw [if_neg (by decide)] at eS
        refine IFB.t ei ?_
        walk_at "w"
        rw [eS] at h
        exact ⟨S, ex.trans (Ext.new hv _), h⟩
      | true =>
        rw [ha] at ei eS
        rw [if_pos rfl] at eS
        refine IFB.f ei ?_
        have e1 : (qs.map fun q => optD (halvO q.den)) = (qs.map fun q => ((q.den.log2 : Nat) : Int)).map D.int := by
          rw [List.map_map]
          apply List.map_congr_left
          intro q hq
          rw [(halvO_some (List.all_eq_true.mp ha q hq)).2]
          rfl
        rw [e1]
        walk_at "w"
        refine ⟨_, .inl ⟨v, rfl, sup_same⟩, by rw [List.length_map]; exact List.length_pos_iff.mpr hs.ne, fun m hm hy => ?_⟩
        have em : m = ((mx (qs.map (·.den.log2)) : Nat) : Int) := by
          obtain ⟨q, hq, rfl⟩ := List.mem_map.mp hm
          have h1 : q.den.log2 ≤ mx (qs.map (·.den.log2)) := mx_le (List.mem_map.mpr ⟨q, hq, rfl⟩)
          have h2 : mx (qs.map (·.den.log2)) ≤ q.den.log2 := mx_of fun y hy2 => by
            obtain ⟨z, hz, rfl⟩ := List.mem_map.mp hy2
            have := hy _ (List.mem_map.mpr ⟨z, hz, rfl⟩)
            omega
          omega
        rw [em]
        walk_at "w"
        rw [eS] at h
        exact ⟨S, ex.trans (Ext.new hv _), h⟩

theorem ok_within {P : Program} {w : World} {K : PySem.W.Frag} {mg : Str → Option Value} {base : Heap} (T : Txt K mg) : FnOk P w K mg base (L2.CX P w) 6 T.a_within T.fd_within ["shares", "far"] (toSp K sp_within) := by
  refine fnD T.F_within sc_within (fun ds S Q E h => ?_) (fun cdv A outer s H E RX hr => ⟨_, (pds_cons (pd_expr (pd_call (takes_of rfl rfl rfl rfl) (ok_check_shares T) (hr.mono (by decide)) T.m_check_shares T.F_check_shares.kp T.d_check_shares (pda_cons (pd_var 0) pda_nil)))
    (pds_cons (pd_ifS (PDW.pt (pdw_or (pdt_not (pdt_tru (pd_call (takes_of rfl rfl rfl rfl) (ok_is_number_of T) (hr.mono (by decide)) T.m_is_number_of T.F_is_number_of.kp T.d_is_number_of (pda_cons (pd_var 1) pda_nil)))) (pdw_or1 (pdt_not (pdt_tru (pd_call (takes_of rfl rfl rfl rfl) (ok_is_less T) (hr.mono (by decide)) T.m_is_less T.F_is_less.kp T.d_is_less (pda_cons (pd_glob (v := .ref T.z_ZERO) (d := (.tup [.int 0, .int 1])) T.m_ZERO rfl T.v_ZERO) (pda_cons (pd_var 1) pda_nil)))))))) (pds_one pd_never) pds_nil)
    (pds_cons (pd_set 2 sc_within.nd pd_int)
    (pds_cons (pd_while (passes_of rfl) (pdt_tru (pd_call (takes_of rfl rfl rfl rfl) (ok_is_less T) (hr.mono (by decide)) T.m_is_less T.F_is_less.kp T.d_is_less (pda_cons (pd_var 1) (pda_cons (pd_call (takes_of rfl rfl rfl rfl) (ok_least_tail_of T) (hr.mono (by decide)) T.m_least_tail_of T.F_least_tail_of.kp T.d_least_tail_of (pda_cons (pd_var 0) (pda_cons (pd_var 2) pda_nil))) pda_nil)))) (pds_one (pd_aug 2 sc_within.nd ip_add pd_int)))
    (pds_one (pd_ret (pd_var 2))))))), fun ds S Q h => ?_⟩)
  · obtain ⟨_, _, _, _, rfl, _⟩ := h
    rfl
  · obtain ⟨qs, N, far, K, rfl, hs, hN, hl, hf, hf0, hK, h1, h2, h⟩ := h
    walk_at "w"
    refine ⟨qs, N, rfl, hs, lt_up hN (by decide), by omega, ?_⟩
    walk_at "w"
    refine ⟨far, rfl, hf.mono (by decide), ?_⟩
    walk_at "g"
    refine ⟨0, far, rfl, ⟨by decide, by decide⟩, hf, ?_⟩
    rw [decide_eq_true hf0]
    walk_at "g"
    refine ⟨fun m ρ' S' => S' = S ∧ ∃ k : Nat, m = K - k ∧ k ≤ K ∧ ρ' = [some (shD qs), some (fr far), some (.int (k : Int))], ⟨K, rfl, 0, rfl, Nat.zero_le _, rfl⟩, ?_⟩
    rintro m _ _ ⟨rfl, k, rfl, hk, rfl⟩
    walk_at "w"
    refine ⟨qs, N, k, rfl, hs, hN, hl, by omega, ?_⟩
    walk_at "w"
    refine ⟨far, tailQ qs k, rfl, hf, (tail_rb hs hN hl (by omega)).mono (by decide), ?_⟩
    refine IFB.p (fun c1 => ?_) (fun c1 => ?_)
    · have hk2 : k ≠ K := fun z => by rw [z] at c1; exact absurd h1 (Rat.not_le.mpr c1)
      walk_at "w"
      exact ⟨K - (k + 1), by omega, rfl, k + 1, rfl, by omega, rfl⟩
    · have hk2 : k = K := by
        rcases Nat.lt_or_ge k K with z | z
        · exact absurd (h2 k z) c1
        · omega
      subst hk2
      walk_at "w"
      exact h
end K53
set_option Elab.async false
set_option linter.all false
set_option maxRecDepth 100000
set_option maxHeartbeats 4000000
namespace K53
open PySem PySem.Spec PyProof.Rows L2 DL
local macro_rules | `(tactic| walk_at "w") => `(tactic| conv => whnf)
local macro_rules | `(tactic| walk_at "g") => `(tactic| ((conv => whnf); repeat' (first | (refine IFB.t ?_ ?_; rfl; conv => whnf) | (refine IFB.f ?_ ?_; rfl; conv => whnf))))
set_option exponentiation.threshold 9000
/-- beside a, what was there stays -/
def ExtB (a : Addr) (S S' : Sto) : Prop := ∀ b c, b ≠ a → S b = some c → S' b = some c
theorem ExtB.refl (a : Addr) (S : Sto) : ExtB a S S := fun _ _ _ h => h
theorem ExtB.trans {a : Addr} {S S1 S2 : Sto} (x : ExtB a S S1) (y : ExtB a S1 S2) : ExtB a S S2 := fun b c n h => y b c n (x b c n h)
theorem ExtB.of {a : Addr} {S S' : Sto} (h : ∀ b, b ≠ a → S' b = S b) : ExtB a S S' := fun b c n e => by rw [h b n]; exact e
theorem ExtB.ext {a : Addr} {S S' : Sto} (h : Ext S S') : ExtB a S S' := fun b c _ e => h b c e
theorem ExtB.free {a : Addr} {S S' : Sto} (x : ExtB a S S') {p : Addr} (hn : p ≠ a) (h : S' p = none) : S p = none := by
  cases q : S p with
  | none => rfl
  | some o => rw [x p o hn q] at h; cases h
theorem ExtB.wr {a : Addr} {S S' : Sto} {p : Addr} {c : Cell} (e : ExtB a S S') (h : S p = none) : ExtB a S (sup S' p c) := fun b o n q => by
  rw [sup_ne (fun z => ?_)]
  · exact e b o n q
  · subst z; rw [h] at q; cases q

def keepA (a : Addr) (S S' : Sto) : Sto := fun b => if b = a then S' a else S b
theorem keepA_ext {a : Addr} {S S' : Sto} (h : ExtB a S S') : Ext (keepA a S S') S' := fun b c e => by
  unfold keepA at e
  by_cases hb : b = a
  · subst hb; rw [if_pos rfl] at e; exact e
  · rw [if_neg hb] at e; exact h b c hb e
theorem keepA_a {a : Addr} {S S' : Sto} : keepA a S S' a = S' a := by unfold keepA; rw [if_pos rfl]
theorem keepA_ne {a : Addr} {S S' : Sto} : ∀ b, b ≠ a → keepA a S S' b = S b := fun b hb => by unfold keepA; rw [if_neg hb]
def BagD (S : Sto) (a : Addr) (c : Int) : Prop := ∃ w0 w1 w2 : Int, S a = some (.lst [.int w0, .int w1, .int w2]) ∧ 0 ≤ w1 ∧ w1 < 10 ^ 32 ∧ 0 ≤ w2 ∧ w2 ≤ c
theorem BagD.ne {S : Sto} {a p : Addr} {c : Int} (h : BagD S a c) (hp : S p = none) : p ≠ a := fun z => by
  obtain ⟨_, _, _, e, _⟩ := h
  rw [← z, hp] at e
  cases e
theorem BagD.sup {S : Sto} {a p : Addr} {c : Int} {x : Cell} (h : BagD S a c) (hp : S p = none) : BagD (sup S p x) a c := by
  have q := (h.ne hp).symm
  obtain ⟨w0, w1, w2, e, r⟩ := h
  exact ⟨w0, w1, w2, by rw [sup_ne q]; exact e, r⟩
theorem BagD.ext {S S' : Sto} {a : Addr} {c : Int} (h : BagD S a c) (x : Ext S S') : BagD S' a c := by
  obtain ⟨w0, w1, w2, e, r⟩ := h
  exact ⟨w0, w1, w2, x _ _ e, r⟩
theorem BagD.mono {S : Sto} {a : Addr} {c c' : Int} (h : BagD S a c) (x : c ≤ c') : BagD S a c' := by
  obtain ⟨w0, w1, w2, e, r1, r2, r3, r4⟩ := h
  exact ⟨w0, w1, w2, e, r1, r2, r3, by omega⟩
theorem BagD.keep {S S' : Sto} {a : Addr} {c : Int} (h : BagD S' a c) : BagD (keepA a S S') a c := by
  obtain ⟨w0, w1, w2, e, r⟩ := h
  exact ⟨w0, w1, w2, by rw [keepA_a]; exact e, r⟩
theorem atI_map {xs : List Int} {p : Int} (h : 0 ≤ p) (h1 : p < xs.length) : ∃ c, atI (xs.map D.int) p = some (.int c) := by
  obtain ⟨n, rfl⟩ := Int.eq_ofNat_of_zero_le h
  have : n < xs.length := by omega
  exact ⟨xs[n], atI_nat (by simp [this])⟩
theorem bits_le {k : Int} {n : Nat} (h : k.natAbs < 2 ^ n) : Builtin.Int.intBits k ≤ n := by
  unfold Builtin.Int.intBits
  split
  · exact Nat.zero_le _
  · have : k.natAbs.log2 < n := (Nat.log2_lt (by simp_all)).mpr h
    omega
theorem bits_mul {k j : Int} (h : k.natAbs < 2 ^ 200) (h0 : 0 ≤ j) (hj : j ≤ 100000) : 0 ≤ j ∧ (Builtin.Int.intBits k : Int) * j ≤ 2 ^ 27 := by
  have h1 := bits_le h
  have h2 : (Builtin.Int.intBits k : Int) * j ≤ 200 * 100000 := Int.mul_le_mul (by omega) hj h0 (by decide)
  omega
theorem abs_nat (i : Int) : (if i < 0 then -i else i) = (i.natAbs : Int) := by split <;> omega

def sp_law_bag : DSp := fun ds S Q _ => ∃ (xs : List Int) (p : Int), ds = [.fro (xs.map D.int), .int p] ∧ 0 ≤ p ∧ p < 1000 ∧ ∀ a S', S a = none → BagD S' a 0 → (∀ b, b ≠ a → S' b = S b) → Q (.ref a) S'
def sp_law_take : DSp := fun ds S Q _ => ∃ (a : Addr) (u c : Int), ds = [.ref a, .int u] ∧ BagD S a c ∧ c < 1000000 ∧ 0 < u ∧ u < 2 ^ 64 ∧ ∀ (f : Int) S', 0 ≤ f → f < u → BagD S' a (c + 1) → (∀ b, b ≠ a → S' b = S b) → Q (.int f) S'
def sp_law_low : DSp := fun ds S Q _ => ∃ t b : Int, ds = [.int t, .int b] ∧ 0 < b ∧ b.natAbs < 2 ^ 8000 ∧ Q (fr ((t : Rat) / (b : Rat))) S
def sp_law_plus : DSp := sp_sum_of_two
def sp_law_times : DSp := sp_product
def sp_law_sum : DSp := sp_sum_of_all
def sp_law_two : DSp := fun ds S Q _ => ∃ k : Nat, ds = [.int (k : Int)] ∧ k ≤ 1000 ∧ Q (.int (2 ^ k)) S
def sp_law_rest : DSp := fun ds S Q _ => ∃ (q : Rat) (k : Nat), ds = [fr q, .int (k : Int)] ∧ RB 3000 q ∧ k ≤ 1000 ∧ Q (fr (restQ q k)) S
def sp_law_figure : DSp := fun ds S Q _ => ∃ (u : Rat) (k : Nat), ds = [fr u, .int (k : Int)] ∧ Uq u ∧ k ≤ 1000 ∧ Q (.int (figI u k)) S
def sp_law_under : DSp := fun ds S Q _ => ∃ a b, ds = [fr a, fr b] ∧ RB 3000 a ∧ RB 3000 b ∧ Q (.bl (decide (a ≤ b))) S

theorem le_rat (a b : Rat) : (a.num * (b.den : Int) ≤ b.num * (a.den : Int)) ↔ a ≤ b := by
  rw [Rat.le_iff]
theorem ok_law_bag {P : Program} {w : World} {K : PySem.W.Frag} {mg : Str → Option Value} {base : Heap} (T : Txt K mg) : FnOk P w K mg base (L2.CX P w) 1 T.a_law_bag T.fd_law_bag ["script", "k"] (toSp K sp_law_bag) := by
  refine fnD T.F_law_bag sc_law_bag (fun ds S Q E h => ?_) (fun cdv A outer s H E RX hr => ⟨_, (pds_cons (pd_set 2 sc_law_bag.nd pd_int)
    (pds_cons (pd_ifS (pdt_cmp od_lt (pd_var 1) (pd_blt cd_len T.b_len (by decide +kernel) (pda_cons (pd_var 0) pda_nil))) (pds_one (pd_set 2 sc_law_bag.nd (pd_blt cd_abs T.b_abs (by decide +kernel) (pda_cons (pd_bltTy cd_int T.b_int (by decide +kernel) (pda_cons (pd_ix (pd_var 0) (pd_var 1)) pda_nil)) pda_nil)))) pds_nil)
    (pds_one (pd_ret (pd_lst (pda_cons (pd_blt (cd_max2 rfl) T.b_max (by decide +kernel) (pda_cons pd_int (pda_cons (pd_bin od_sub (pd_var 2) (pd_bin od_pow pd_int pd_int)) pda_nil))) (pda_cons (pd_bin od_add (pd_bin od_add (pd_bin od_mod (pd_bltTy cd_int T.b_int (by decide +kernel) (pda_cons (pd_var 2) pda_nil)) (pd_bin od_add (pd_bin od_pow pd_int pd_int) pd_int)) (pd_bin od_mul pd_int (pd_var 1))) pd_int) (pda_cons pd_int pda_nil)))))))), fun ds S Q h => ?_⟩)
  · obtain ⟨_, _, rfl, _⟩ := h
    rfl
  · obtain ⟨xs, p, rfl, h0, h1, h⟩ := h
    walk_at "w"
    refine ⟨_, .inr rfl, ?_⟩
    walk_at "w"
    refine IFB.p (fun c1 => ?_) (fun c1 => ?_)
    · obtain ⟨c, ec⟩ := atI_map (xs := xs) h0 (by simpa using c1)
      walk_at "w"
      refine ⟨_, _, .inr rfl, ec, ?_⟩
      walk_at "w"
      refine ⟨by decide, ?_⟩
      walk_at "w"
      refine ⟨by decide, ?_⟩
      walk_at "w"
      refine ⟨by decide, ?_⟩
      walk_at "w"
      refine ⟨small_l (by decide) (by decide), ?_⟩
      walk_at "w"
      intro a ha
      refine h a _ ha ⟨_, _, _, sup_same, ?_, ?_, by decide, by decide⟩ (fun b hb => sup_ne hb)
      · have := Int.emod_nonneg (if c < 0 then -c else c) (b := 10 ^ Int.toNat 31 + 33) (by decide)
        omega
      · have := Int.emod_lt_of_pos (if c < 0 then -c else c) (b := 10 ^ Int.toNat 31 + 33) (by decide)
        have e : (10 : Int) ^ 32 = 100000000000000000000000000000000 := by decide
        have e2 : (10 : Int) ^ Int.toNat 31 + 33 = 10000000000000000000000000000033 := by decide
        omega
    · skip
      walk_at "w"
      refine ⟨by decide, ?_⟩
      walk_at "w"
      refine ⟨by decide, ?_⟩
      walk_at "w"
      refine ⟨by decide, ?_⟩
      walk_at "w"
      refine ⟨small_l (by decide) (by decide), ?_⟩
      walk_at "w"
      intro a ha
      refine h a _ ha ⟨_, _, _, sup_same, ?_, ?_, by decide, by decide⟩ (fun b hb => sup_ne hb)
      · have := Int.emod_nonneg (0) (b := 10 ^ Int.toNat 31 + 33) (by decide)
        omega
      · have := Int.emod_lt_of_pos (0) (b := 10 ^ Int.toNat 31 + 33) (by decide)
        have e : (10 : Int) ^ 32 = 100000000000000000000000000000000 := by decide
        have e2 : (10 : Int) ^ Int.toNat 31 + 33 = 10000000000000000000000000000033 := by decide
        omega

theorem ok_law_take {P : Program} {w : World} {K : PySem.W.Frag} {mg : Str → Option Value} {base : Heap} (T : Txt K mg) : FnOk P w K mg base (L2.CX P w) 1 T.a_law_take T.fd_law_take ["bag", "below"] (toSp K sp_law_take) := by
  refine fnD T.F_law_take sc_law_take (fun ds S Q E h => ?_) (fun cdv A outer s H E RX hr => ⟨_, (pds_cons (pd_ifS (pdt_cmp od_gt (pd_ix (pd_var 0) pd_int) pd_int) (pds_cons (pd_set 2 sc_law_take.nd (pd_bin od_mod (pd_bltTy cd_int T.b_int (by decide +kernel) (pda_cons (pd_ix (pd_var 0) pd_int) pda_nil)) (pd_var 1)))
    (pds_cons (pd_asg (pd_bin od_fdiv (pd_ix (pd_var 0) pd_int) (pd_var 1)) (pdg_sub sd_list (pd_var 0) pd_int))
    (pds_one (pd_ret (pd_var 2))))) pds_nil)
    (pds_cons (pd_asg (pd_bin od_add (pd_ix (pd_var 0) pd_int) pd_int) (pdg_sub sd_list (pd_var 0) pd_int))
    (pds_cons (pd_set 3 sc_law_take.nd (pd_bin od_mod (pd_bltTy cd_int T.b_int (by decide +kernel) (pda_cons (pd_bin od_pow (pd_bin od_add (pd_ix (pd_var 0) pd_int) (pd_bin od_mul pd_int (pd_ix (pd_var 0) pd_int))) pd_int) pda_nil)) (pd_bin od_add (pd_bin od_pow pd_int pd_int) pd_int)))
    (pds_cons (pd_set 3 sc_law_take.nd (pd_bin od_mod (pd_bltTy cd_int T.b_int (by decide +kernel) (pda_cons (pd_bin od_pow (pd_bin od_add (pd_var 3) (pd_bin od_mul pd_int (pd_ix (pd_var 0) pd_int))) pd_int) pda_nil)) (pd_bin od_add (pd_bin od_pow pd_int pd_int) pd_int)))
    (pds_one (pd_ret (pd_bin od_mod (pd_bltTy cd_int T.b_int (by decide +kernel) (pda_cons (pd_bin od_fdiv (pd_var 3) (pd_bin od_pow pd_int pd_int)) pda_nil)) (pd_var 1)))))))), fun ds S Q h => ?_⟩)
  · obtain ⟨_, _, _, rfl, _⟩ := h
    rfl
  · obtain ⟨a, u, c, rfl, ⟨w0, w1, w2, e, h1, h2, h3, h4⟩, h5, h6, h7, h⟩ := h
    walk_at "w"
    refine ⟨_, _, .inl ⟨a, rfl, e⟩, rfl, ?_⟩
    walk_at "w"
    refine IFB.p (fun c1 => ?_) (fun c1 => ?_)
    · walk_at "w"
      refine ⟨_, _, .inl ⟨a, rfl, e⟩, rfl, ?_⟩
      walk_at "w"
      refine ⟨h6, ?_⟩
      walk_at "w"
      refine ⟨_, _, .inl ⟨a, rfl, e⟩, rfl, ?_⟩
      walk_at "w"
      refine ⟨div_s h6 (Int.lt_trans h7 (by decide)), ?_⟩
      walk_at "w"
      refine ⟨_, 0, e, rfl, ?_⟩
      walk_at "w"
      exact h _ _ (Int.emod_nonneg _ (by omega)) (Int.emod_lt_of_pos _ h6) ⟨_, _, _, sup_same, h1, h2, h3, by omega⟩ (fun b hb => sup_ne hb)
    · walk_at "w"
      refine ⟨_, _, .inl ⟨a, rfl, e⟩, rfl, ?_⟩
      walk_at "w"
      refine ⟨_, 2, e, rfl, ?_⟩
      have e1 : DL.sup S a (.lst (List.set [.int w0, .int w1, .int w2] 2 (.int (w2 + 1)))) a = some (.lst [.int w0, .int w1, .int (w2 + 1)]) := sup_same
      have f1 : ∀ b, b ≠ a → DL.sup S a (.lst (List.set [.int w0, .int w1, .int w2] 2 (.int (w2 + 1)))) b = S b := fun b hb => sup_ne hb
      walk_at "w"
      generalize DL.sup S a _ = S1 at *
      refine ⟨_, _, .inl ⟨a, rfl, e1⟩, rfl, ?_⟩
      walk_at "w"
      refine ⟨_, _, .inl ⟨a, rfl, e1⟩, rfl, ?_⟩
      walk_at "w"
      refine ⟨small_l (by decide) (by decide), ?_⟩
      have p2 : (2 : Nat) ^ 200 > 10 ^ 59 := by decide
      have p3 : (10 : Int) ^ 32 = 100000000000000000000000000000000 := by decide
      walk_at "w"
      refine ⟨bits_mul (by omega) (by decide) (by decide), ?_⟩
      walk_at "w"
      refine ⟨by decide, ?_⟩
      walk_at "w"
      refine ⟨by decide, ?_⟩
      generalize hm : (w1 + _ * (w2 + 1)) ^ _ % _ = mx
      have hx0 : 0 ≤ mx := by rw [← hm]; exact Int.emod_nonneg _ (by decide)
      have hx1 : mx < 10 ^ 38 := by rw [← hm]; exact Int.lt_of_lt_of_le (Int.emod_lt_of_pos _ (by decide)) (by decide)
      clear hm
      walk_at "w"
      refine ⟨_, _, .inl ⟨a, rfl, e1⟩, rfl, ?_⟩
      walk_at "w"
      refine ⟨small_l (by decide) (by decide), ?_⟩
      have p4 : (10 : Int) ^ 38 = 100000000000000000000000000000000000000 := by decide
      walk_at "w"
      refine ⟨bits_mul (by omega) (by decide) (by decide), ?_⟩
      walk_at "w"
      refine ⟨by decide, ?_⟩
      walk_at "w"
      refine ⟨by decide, ?_⟩
      walk_at "w"
      refine ⟨by decide, ?_⟩
      walk_at "w"
      refine ⟨div_s (by decide) (by decide), ?_⟩
      walk_at "w"
      refine ⟨h6, ?_⟩
      walk_at "w"
      exact h _ _ (Int.emod_nonneg _ (by omega)) (Int.emod_lt_of_pos _ h6) ⟨_, _, _, e1, h1, h2, by omega, by omega⟩ f1

theorem ok_law_low {P : Program} {w : World} {K : PySem.W.Frag} {mg : Str → Option Value} {base : Heap} (T : Txt K mg) : FnOk P w K mg base (L2.CX P w) 1 T.a_law_low T.fd_law_low ["top", "bottom"] (toSp K sp_law_low) := by
  refine fnD T.F_law_low sc_law_low (fun ds S Q E h => ?_) (fun cdv A outer s H E RX hr => ⟨_, (pds_cons (pd_par 2 3 rfl sc_law_low.nd (pda_cons (pd_blt cd_abs T.b_abs (by decide +kernel) (pda_cons (pd_var 0) pda_nil)) (pda_cons (pd_var 1) pda_nil)) rfl)
    (pds_cons (pd_while (passes_of rfl) (pdt_cmp (od_ne hr.units) (pd_var 3) pd_int) (pds_one (pd_par 2 3 rfl sc_law_low.nd (pda_cons (pd_var 3) (pda_cons (pd_bin od_mod (pd_bltTy cd_int T.b_int (by decide +kernel) (pda_cons (pd_var 2) pda_nil)) (pd_var 3)) pda_nil)) rfl)))
    (pds_one (pd_ret (pd_if (pdt_cmp (od_ne hr.units) (pd_var 2) pd_int) (pd_tup (pda_cons (pd_bin od_fdiv (pd_var 0) (pd_var 2)) (pda_cons (pd_bin od_fdiv (pd_var 1) (pd_var 2)) pda_nil))) (pd_tup (pda_cons pd_int (pda_cons pd_int pda_nil)))))))), fun ds S Q h => ?_⟩)
  · obtain ⟨_, _, rfl, _⟩ := h
    rfl
  · obtain ⟨t, b, rfl, h0, hb, h⟩ := h
    obtain ⟨b, rfl⟩ := Int.eq_ofNat_of_zero_le (show 0 ≤ b by omega)
    walk_at "w"
    rw [abs_nat]
    refine ⟨fun m ρ' S' => S' = S ∧ ∃ x : Nat, ρ' = [some (.int t), some (.int (b : Int)), some (.int (x : Int)), some (.int (m : Int))] ∧ Nat.gcd x m = Nat.gcd t.natAbs b, ⟨b, rfl, t.natAbs, rfl, rfl⟩, ?_⟩
    rintro m _ _ ⟨rfl, x, rfl, hg⟩
    walk_at "w"
    refine IFB.np (fun c1 => ?_) (fun c1 => ?_)
    · walk_at "w"
      refine ⟨by omega, ?_⟩
      walk_at "w"
      exact ⟨x % m, Nat.mod_lt _ (by omega), rfl, m, rfl, by rw [Nat.gcd_comm, ← Nat.gcd_rec, Nat.gcd_comm]; exact hg⟩
    · have e : m = 0 := by omega
      subst e
      rw [Nat.gcd_zero_right] at hg
      subst hg
      have e2 : Nat.gcd t.natAbs b = Nat.gcd t.natAbs (b : Int).natAbs := by rw [Int.natAbs_natCast]
      rw [e2]
      have gp : 0 < Nat.gcd t.natAbs (b : Int).natAbs := Nat.gcd_pos_of_pos_right _ (by omega)
      walk_at "w"
      refine IFB.np (fun c9 => ?_) (fun c9 => absurd c9 (by omega))
      walk_at "w"
      refine ⟨gcd_w h0 hb (by decide) (by decide) _, ?_⟩
      walk_at "w"
      refine ⟨gcd_w h0 hb (by decide) (by decide) _, ?_⟩
      walk_at "w"
      rw [low_fr h0]
      exact h

theorem ok_law_plus {P : Program} {w : World} {K : PySem.W.Frag} {mg : Str → Option Value} {base : Heap} (T : Txt K mg) : FnOk P w K mg base (L2.CX P w) 2 T.a_law_plus T.fd_law_plus ["one", "other"] (toSp K sp_law_plus) := by
  refine fnD T.F_law_plus sc_law_plus (fun ds S Q E h => ?_) (fun cdv A outer s H E RX hr => ⟨_, (pds_one (pd_ret (pd_call (takes_of rfl rfl rfl rfl) (ok_law_low T) (hr.mono (by decide)) T.m_law_low T.F_law_low.kp T.d_law_low (pda_cons (pd_bin od_add (pd_bin od_mul (pd_ix (pd_var 0) pd_int) (pd_ix (pd_var 1) pd_int)) (pd_bin od_mul (pd_ix (pd_var 1) pd_int) (pd_ix (pd_var 0) pd_int))) (pda_cons (pd_bin od_mul (pd_ix (pd_var 0) pd_int) (pd_ix (pd_var 1) pd_int)) pda_nil))))), fun ds S Q h => ?_⟩)
  · obtain ⟨_, _, rfl, _⟩ := h
    rfl
  · obtain ⟨a, b, rfl, ha, hb, h⟩ := h
    have b1 : ((b.den : Int)).natAbs < 2 ^ 3000 := by rw [Int.natAbs_natCast]; exact hb.2
    have a1 : ((a.den : Int)).natAbs < 2 ^ 3000 := by rw [Int.natAbs_natCast]; exact ha.2
    walk_at "w"
    refine ⟨.int a.num, rfl, ?_⟩
    walk_at "w"
    refine ⟨.int (b.den : Int), rfl, ?_⟩
    walk_at "w"
    refine ⟨.inl (wide_mul ha.1 b1 (by decide) (by decide) (by decide)), ?_⟩
    walk_at "w"
    refine ⟨.int b.num, rfl, ?_⟩
    walk_at "w"
    refine ⟨.int (a.den : Int), rfl, ?_⟩
    walk_at "w"
    refine ⟨.inl (wide_mul hb.1 a1 (by decide) (by decide) (by decide)), ?_⟩
    walk_at "w"
    refine ⟨.int (a.den : Int), rfl, ?_⟩
    walk_at "w"
    refine ⟨.int (b.den : Int), rfl, ?_⟩
    walk_at "w"
    refine ⟨.inl (wide_mul a1 b1 (by decide) (by decide) (by decide)), ?_⟩
    walk_at "w"
    refine ⟨_, _, rfl, Int.mul_pos (den_pos' a) (den_pos' b), lt_up (wide_lt a1 b1) (by decide), ?_⟩
    rw [add_fr]
    exact h

theorem ok_law_times {P : Program} {w : World} {K : PySem.W.Frag} {mg : Str → Option Value} {base : Heap} (T : Txt K mg) : FnOk P w K mg base (L2.CX P w) 2 T.a_law_times T.fd_law_times ["one", "other"] (toSp K sp_law_times) := by
  refine fnD T.F_law_times sc_law_times (fun ds S Q E h => ?_) (fun cdv A outer s H E RX hr => ⟨_, (pds_one (pd_ret (pd_call (takes_of rfl rfl rfl rfl) (ok_law_low T) (hr.mono (by decide)) T.m_law_low T.F_law_low.kp T.d_law_low (pda_cons (pd_bin od_mul (pd_ix (pd_var 0) pd_int) (pd_ix (pd_var 1) pd_int)) (pda_cons (pd_bin od_mul (pd_ix (pd_var 0) pd_int) (pd_ix (pd_var 1) pd_int)) pda_nil))))), fun ds S Q h => ?_⟩)
  · obtain ⟨_, _, rfl, _⟩ := h
    rfl
  · obtain ⟨a, b, rfl, ha, hb, h⟩ := h
    have b1 : ((b.den : Int)).natAbs < 2 ^ 3000 := by rw [Int.natAbs_natCast]; exact hb.2
    have a1 : ((a.den : Int)).natAbs < 2 ^ 3000 := by rw [Int.natAbs_natCast]; exact ha.2
    walk_at "w"
    refine ⟨.int a.num, rfl, ?_⟩
    walk_at "w"
    refine ⟨.int b.num, rfl, ?_⟩
    walk_at "w"
    refine ⟨.inl (wide_mul ha.1 hb.1 (by decide) (by decide) (by decide)), ?_⟩
    walk_at "w"
    refine ⟨.int (a.den : Int), rfl, ?_⟩
    walk_at "w"
    refine ⟨.int (b.den : Int), rfl, ?_⟩
    walk_at "w"
    refine ⟨.inl (wide_mul a1 b1 (by decide) (by decide) (by decide)), ?_⟩
    walk_at "w"
    refine ⟨_, _, rfl, Int.mul_pos (den_pos' a) (den_pos' b), lt_up (wide_lt a1 b1) (by decide), ?_⟩
    rw [mul_fr]
    exact h

theorem ok_law_sum {P : Program} {w : World} {K : PySem.W.Frag} {mg : Str → Option Value} {base : Heap} (T : Txt K mg) : FnOk P w K mg base (L2.CX P w) 3 T.a_law_sum T.fd_law_sum ["numbers"] (toSp K sp_law_sum) := by
  refine fnD T.F_law_sum sc_law_sum (fun ds S Q E h => ?_) (fun cdv A outer s H E RX hr => ⟨_, (pds_cons (pd_set 1 sc_law_sum.nd (pd_tup (pda_cons pd_int (pda_cons pd_int pda_nil))))
    (pds_cons (pd_for (passes_of rfl) rfl (pdi_it (pd_var 0)) (pdg_name 2 sc_law_sum.nd) (pds_one (pd_set 1 sc_law_sum.nd (pd_call (takes_of rfl rfl rfl rfl) (ok_law_plus T) (hr.mono (by decide)) T.m_law_plus T.F_law_plus.kp T.d_law_plus (pda_cons (pd_var 1) (pda_cons (pd_var 2) pda_nil))))))
    (pds_one (pd_ret (pd_var 1))))), fun ds S Q h => ?_⟩)
  · rcases h with ⟨_, _, _, rfl, _⟩ | ⟨_, _, rfl, _⟩ <;> rfl
  · rcases h with h | h
    · obtain ⟨d, qs, N, rfl, hd, h0, hb, hs, h1, h⟩ := h
      rcases hd with rfl | hd
      · walk_at "w"
        refine for_xs (fun i ρ' S' => S' = S ∧ ∃ o, ρ' = [some (shD qs), some (fr (qs.take i).sum), o]) ⟨rfl, _, by rw [List.take_zero, List.sum_nil]; rfl⟩ (fun _ _ _ h => trivial) ?_ ?_
        · rintro i x _ _ hi ⟨rfl, o, rfl⟩
          obtain ⟨q, hq, rfl⟩ := fr_at hi
          have hp := Rat.le_trans (take_le_sum (fun q hq => (hs q hq).1) i) h1
          have hq' := hs q (List.mem_of_getElem? hq)
          walk_at "w"
          refine ⟨_, q, rfl, (ov_rb2 h0 hb (ov_sum h0 fun q hq => (hs q (List.mem_of_mem_take hq)).2) (sum_nonneg fun q hq => (hs q (List.mem_of_mem_take hq)).1) hp).mono (by decide), (ov_rb2 h0 hb hq'.2 hq'.1 (Rat.le_trans (mem_le_sum (fun q hq => (hs q hq).1) q (List.mem_of_getElem? hq)) h1)).mono (by decide), ?_⟩
          walk_at "w"
          exact ⟨rfl, _, by rw [take_succ_sum hq]; rfl⟩
        · rintro _ _ ⟨rfl, o, rfl⟩
          rw [List.length_map, List.take_length]
          walk_at "w"
          exact h
      · rcases hd with ⟨a, rfl, ea⟩ | rfl
        · walk_at "w"
          refine ⟨_, .inl ⟨a, rfl, ea⟩, ?_⟩
          refine for_xs (fun i ρ' S' => S' = S ∧ ∃ o, ρ' = [some (.ref a), some (fr (qs.take i).sum), o]) ⟨rfl, _, by rw [List.take_zero, List.sum_nil]; rfl⟩ (fun _ _ _ h => by rw [h.1]; exact .inl ⟨a, rfl, ea⟩) ?_ ?_
          · rintro i x _ _ hi ⟨rfl, o, rfl⟩
            obtain ⟨q, hq, rfl⟩ := fr_at hi
            have hp := Rat.le_trans (take_le_sum (fun q hq => (hs q hq).1) i) h1
            have hq' := hs q (List.mem_of_getElem? hq)
            walk_at "w"
            refine ⟨_, q, rfl, (ov_rb2 h0 hb (ov_sum h0 fun q hq => (hs q (List.mem_of_mem_take hq)).2) (sum_nonneg fun q hq => (hs q (List.mem_of_mem_take hq)).1) hp).mono (by decide), (ov_rb2 h0 hb hq'.2 hq'.1 (Rat.le_trans (mem_le_sum (fun q hq => (hs q hq).1) q (List.mem_of_getElem? hq)) h1)).mono (by decide), ?_⟩
            walk_at "w"
            exact ⟨rfl, _, by rw [take_succ_sum hq]; rfl⟩
          · rintro _ _ ⟨rfl, o, rfl⟩
            rw [List.length_map, List.take_length]
            walk_at "w"
            exact h
        · walk_at "w"
          refine ⟨_, .inr rfl, ?_⟩
          refine for_xs (fun i ρ' S' => S' = S ∧ ∃ o, ρ' = [some (.fro (qs.map fr)), some (fr (qs.take i).sum), o]) ⟨rfl, _, by rw [List.take_zero, List.sum_nil]; rfl⟩ (fun _ _ _ h => .inr rfl) ?_ ?_
          · rintro i x _ _ hi ⟨rfl, o, rfl⟩
            obtain ⟨q, hq, rfl⟩ := fr_at hi
            have hp := Rat.le_trans (take_le_sum (fun q hq => (hs q hq).1) i) h1
            have hq' := hs q (List.mem_of_getElem? hq)
            walk_at "w"
            refine ⟨_, q, rfl, (ov_rb2 h0 hb (ov_sum h0 fun q hq => (hs q (List.mem_of_mem_take hq)).2) (sum_nonneg fun q hq => (hs q (List.mem_of_mem_take hq)).1) hp).mono (by decide), (ov_rb2 h0 hb hq'.2 hq'.1 (Rat.le_trans (mem_le_sum (fun q hq => (hs q hq).1) q (List.mem_of_getElem? hq)) h1)).mono (by decide), ?_⟩
            walk_at "w"
            exact ⟨rfl, _, by rw [take_succ_sum hq]; rfl⟩
          · rintro _ _ ⟨rfl, o, rfl⟩
            rw [List.length_map, List.take_length]
            walk_at "w"
            exact h
    · obtain ⟨p, qs, rfl, ep, hb, hs, h⟩ := h
      walk_at "w"
      refine ⟨_, .inl ⟨p, rfl, ep⟩, ?_⟩
      refine for_xs (fun i ρ' S' => S' = S ∧ ∃ o, ρ' = [some (.ref p), some (fr (qs.take i).sum), o]) ⟨rfl, _, by rw [List.take_zero, List.sum_nil]; rfl⟩ (fun _ _ _ h => by rw [h.1]; exact .inl ⟨p, rfl, ep⟩) ?_ ?_
      · rintro i x _ _ hi ⟨rfl, o, rfl⟩
        obtain ⟨q, hq, rfl⟩ := fr_at hi
        walk_at "w"
        refine ⟨_, q, rfl, hs i, hb q (List.mem_of_getElem? hq), ?_⟩
        walk_at "w"
        exact ⟨rfl, _, by rw [take_succ_sum hq]; rfl⟩
      · rintro _ _ ⟨rfl, o, rfl⟩
        rw [List.length_map, List.take_length]
        walk_at "w"
        exact h

theorem ok_law_two {P : Program} {w : World} {K : PySem.W.Frag} {mg : Str → Option Value} {base : Heap} (T : Txt K mg) : FnOk P w K mg base (L2.CX P w) 1 T.a_law_two T.fd_law_two ["k"] (toSp K sp_law_two) := by
  refine fnD T.F_law_two sc_law_two (fun ds S Q E h => ?_) (fun cdv A outer s H E RX hr => ⟨_, (pds_cons (pd_set 1 sc_law_two.nd pd_int)
    (pds_cons (pd_for (passes_of rfl) rfl (pdi_range1 T.b_range (pda_cons (pd_var 0) pda_nil)) (pdg_name 2 sc_law_two.nd) (pds_one (pd_set 1 sc_law_two.nd (pd_bin od_mul pd_int (pd_var 1)))))
    (pds_one (pd_ret (pd_var 1))))), fun ds S Q h => ?_⟩)
  · obtain ⟨_, rfl, _⟩ := h
    rfl
  · obtain ⟨k, rfl, hk, h⟩ := h
    walk_at "w"
    refine ⟨⟨by omega, by omega⟩, for_rg (fun i ρ' S' => S' = S ∧ ∃ o, ρ' = [some (.int (k : Int)), some (.int (2 ^ i)), o]) ⟨rfl, _, rfl⟩ ?_ ?_⟩
    · rintro i _ _ hi ⟨rfl, o, rfl⟩
      walk_at "w"
      refine ⟨small_l (by decide) (by decide), ?_⟩
      walk_at "w"
      exact ⟨rfl, _, by rw [Int.pow_succ, Int.mul_comm]; rfl⟩
    · rintro _ _ ⟨rfl, o, rfl⟩
      rw [show (k : Int).toNat = k from Int.toNat_natCast _]
      walk_at "w"
      exact h

theorem ok_law_rest {P : Program} {w : World} {K : PySem.W.Frag} {mg : Str → Option Value} {base : Heap} (T : Txt K mg) : FnOk P w K mg base (L2.CX P w) 2 T.a_law_rest T.fd_law_rest ["number", "k"] (toSp K sp_law_rest) := by
  refine fnD T.F_law_rest sc_law_rest (fun ds S Q E h => ?_) (fun cdv A outer s H E RX hr => ⟨_, (pds_cons (pd_asg (pd_var 0) (pdg_tup rfl (pdgs_cons (pdg_name 2 sc_law_rest.nd) (pdgs_cons (pdg_name 3 sc_law_rest.nd) pdgs_nil))))
    (pds_one (pd_ret (pd_call (takes_of rfl rfl rfl rfl) (ok_law_low T) (hr.mono (by decide)) T.m_law_low T.F_law_low.kp T.d_law_low (pda_cons (pd_bltTy cd_int T.b_int (by decide +kernel) (pda_cons (pd_bin od_mod (pd_bin od_mul (pd_var 2) (pd_call (takes_of rfl rfl rfl rfl) (ok_law_two T) (hr.mono (by decide)) T.m_law_two T.F_law_two.kp T.d_law_two (pda_cons (pd_var 1) pda_nil))) (pd_var 3)) pda_nil)) (pda_cons (pd_var 3) pda_nil)))))), fun ds S Q h => ?_⟩)
  · obtain ⟨_, _, rfl, _⟩ := h
    rfl
  · obtain ⟨a, k, rfl, ha, hk, h⟩ := h
    have a1 : ((a.den : Int)).natAbs < 2 ^ 3000 := by rw [Int.natAbs_natCast]; exact ha.2
    have k1 : ((2 : Int) ^ k).natAbs < 2 ^ 3000 := lt_up (pow2_lt k) (by omega)
    walk_at "w"
    refine ⟨rfl, ?_⟩
    walk_at "w"
    refine ⟨k, rfl, hk, ?_⟩
    walk_at "w"
    refine ⟨.inl (wide_mul ha.1 k1 (by decide) (by decide) (by decide)), ?_⟩
    walk_at "w"
    refine ⟨den_pos' a, ?_⟩
    walk_at "w"
    refine ⟨_, _, rfl, den_pos' a, lt_up a1 (by decide), ?_⟩
    exact h

theorem ok_law_figure {P : Program} {w : World} {K : PySem.W.Frag} {mg : Str → Option Value} {base : Heap} (T : Txt K mg) : FnOk P w K mg base (L2.CX P w) 2 T.a_law_figure T.fd_law_figure ["number", "k"] (toSp K sp_law_figure) := by
  refine fnD T.F_law_figure sc_law_figure (fun ds S Q E h => ?_) (fun cdv A outer s H E RX hr => ⟨_, (pds_cons (pd_asg (pd_var 0) (pdg_tup rfl (pdgs_cons (pdg_name 2 sc_law_figure.nd) (pdgs_cons (pdg_name 3 sc_law_figure.nd) pdgs_nil))))
    (pds_one (pd_ret (pd_if (pdt_cmp (od_eq hr.units) (pd_var 1) pd_int) (pd_bltTy cd_int T.b_int (by decide +kernel) (pda_cons (pd_bin od_fdiv (pd_bin od_mul (pd_var 2) (pd_call (takes_of rfl rfl rfl rfl) (ok_law_two T) (hr.mono (by decide)) T.m_law_two T.F_law_two.kp T.d_law_two (pda_cons (pd_var 1) pda_nil))) (pd_var 3)) pda_nil)) (pd_bltTy cd_int T.b_int (by decide +kernel) (pda_cons (pd_bin od_mod (pd_bltTy cd_int T.b_int (by decide +kernel) (pda_cons (pd_bin od_fdiv (pd_bin od_mul (pd_var 2) (pd_call (takes_of rfl rfl rfl rfl) (ok_law_two T) (hr.mono (by decide)) T.m_law_two T.F_law_two.kp T.d_law_two (pda_cons (pd_var 1) pda_nil))) (pd_var 3)) pda_nil)) pd_int) pda_nil)))))), fun ds S Q h => ?_⟩)
  · obtain ⟨_, _, rfl, _⟩ := h
    rfl
  · obtain ⟨u, k, rfl, hu, hk, h⟩ := h
    have ha := hu.rb.mono (show 10 ≤ 3000 by decide)
    have k1 : ((2 : Int) ^ k).natAbs < 2 ^ 3000 := lt_up (pow2_lt k) (by omega)
    have hd := den_pos' u
    have hd2 := hu.dle
    walk_at "w"
    refine ⟨rfl, ?_⟩
    walk_at "w"
    refine IFB.p (fun c => ?_) (fun c => ?_)
    · have k0 : k = 0 := by have c' : (k : Int) = 0 := c; omega
      subst k0
      walk_at "w"
      refine ⟨0, rfl, by decide, ?_⟩
      walk_at "w"
      refine ⟨.inl (wide_mul ha.1 k1 (by decide) (by decide) (by decide)), ?_⟩
      walk_at "w"
      refine ⟨div_s hd (Int.lt_of_le_of_lt (show (u.den : Int) ≤ 729 by omega) (by decide)), ?_⟩
      walk_at "w"
      have e : figI u 0 = u.num * 2 ^ 0 / (u.den : Int) := by rw [fig_zero hu]; show u.num / (u.den : Int) = _; rw [show u.num * 2 ^ 0 = u.num by omega]
      rw [e] at h
      exact h
    · walk_at "w"
      refine ⟨k, rfl, hk, ?_⟩
      walk_at "w"
      refine ⟨.inl (wide_mul ha.1 k1 (by decide) (by decide) (by decide)), ?_⟩
      walk_at "w"
      refine ⟨div_s hd (Int.lt_of_le_of_lt (show (u.den : Int) ≤ 729 by omega) (by decide)), ?_⟩
      walk_at "w"
      refine ⟨by decide, ?_⟩
      walk_at "w"
      exact h

theorem ok_law_under {P : Program} {w : World} {K : PySem.W.Frag} {mg : Str → Option Value} {base : Heap} (T : Txt K mg) : FnOk P w K mg base (L2.CX P w) 1 T.a_law_under T.fd_law_under ["one", "other"] (toSp K sp_law_under) := by
  refine fnD T.F_law_under sc_law_under (fun ds S Q E h => ?_) (fun cdv A outer s H E RX hr => ⟨_, (pds_one (pd_ret (pd_cmp od_le (pd_bin od_mul (pd_ix (pd_var 0) pd_int) (pd_ix (pd_var 1) pd_int)) (pd_bin od_mul (pd_ix (pd_var 1) pd_int) (pd_ix (pd_var 0) pd_int))))), fun ds S Q h => ?_⟩)
  · obtain ⟨_, _, rfl, _⟩ := h
    rfl
  · obtain ⟨a, b, rfl, ha, hb, h⟩ := h
    have b1 : ((b.den : Int)).natAbs < 2 ^ 3000 := by rw [Int.natAbs_natCast]; exact hb.2
    have a1 : ((a.den : Int)).natAbs < 2 ^ 3000 := by rw [Int.natAbs_natCast]; exact ha.2
    walk_at "w"
    refine ⟨.int a.num, rfl, ?_⟩
    walk_at "w"
    refine ⟨.int (b.den : Int), rfl, ?_⟩
    walk_at "w"
    refine ⟨.inl (wide_mul ha.1 b1 (by decide) (by decide) (by decide)), ?_⟩
    walk_at "w"
    refine ⟨.int b.num, rfl, ?_⟩
    walk_at "w"
    refine ⟨.int (a.den : Int), rfl, ?_⟩
    walk_at "w"
    refine ⟨.inl (wide_mul hb.1 a1 (by decide) (by decide) (by decide)), ?_⟩
    walk_at "w"
    rw [decide_eq_decide.mpr (le_rat a b)]
    exact h
end K53
set_option Elab.async false
set_option linter.all false
set_option maxRecDepth 100000
set_option maxHeartbeats 4000000
namespace K53
open PySem PySem.Spec PyProof.Rows L2 DL
local macro_rules | `(tactic| walk_at "w") => `(tactic| conv => whnf)
local macro_rules | `(tactic| walk_at "g") => `(tactic| ((conv => whnf); repeat' (first | (refine IFB.t ?_ ?_; rfl; conv => whnf) | (refine IFB.f ?_ ?_; rfl; conv => whnf))))
set_option exponentiation.threshold 9000

theorem nu_congr {a b : Rat} (h : ∀ i, restQ a i = restQ b i) : nuQ a = nuQ b := by
  have e : ∀ n, sN a n = sN b n := fun n => by
    induction n with
    | zero => rfl
    | succ n ih =>
      rw [sN_succ, sN_succ, ih]
      unfold xQ
      rw [h]
  refine nu_uniq (u := a) (nuQ_nu a) fun n => ?_
  rw [e]
  exact nuQ_nu b n
theorem rest_restk (u : Rat) (p i : Nat) : restQ (restQ u p) i = restQ u (p + i) := by
  refine rest_cong (z := u.num * 2 ^ (p + i) / (u.den : Int) - (restQ u p).num * 2 ^ i / ((restQ u p).den : Int) - u.num * 2 ^ p / (u.den : Int) * 2 ^ i) ?_
  rw [restQ_eq (restQ u p) i, restQ_eq u (p + i), Rat.intCast_sub, Rat.intCast_sub, Rat.intCast_mul, Int.pow_add, Rat.intCast_mul]
  have e := restQ_eq u p
  generalize restQ u p = r at *
  rw [e]
  grind
theorem nu_shift (v : Rat) : nuQ v = restQ v 0 + nuQ (v + v) / 2 := by
  refine nu_uniq (nuQ_nu v) fun n => ?_
  have h1 := restQ_nn v 0
  have h2 := restQ_lt v 0
  have h3 := nuQ_nn (v + v)
  have h4 := nuQ_le (v + v)
  cases n with
  | zero =>
    rw [sN_zero, p2_zero]
    have a : 0 ≤ nuQ (v + v) / 2 := by rw [Rat.div_def]; exact Rat.mul_nonneg h3 (by decide +kernel)
    have b : nuQ (v + v) / 2 ≤ 1 := by
      have := div_pos_le (c := 2) (by decide +kernel) h4
      have e : (2 : Rat) / 2 = 1 := by decide +kernel
      rwa [e] at this
    have e : (2 : Rat) / 1 = 2 := by decide +kernel
    rw [e]
    exact ⟨by grind, by grind⟩
  | succ n =>
    rw [sN_shift, p2_succ]
    obtain ⟨l, r⟩ := nuQ_nu (v + v) n
    have a := div_pos_le (c := 2) (by decide +kernel) l
    have b := div_pos_le (c := 2) (by decide +kernel) r
    have hp := p2_ne n
    have e : (sN (v + v) n + 2 / p2 n) / 2 = sN (v + v) n / 2 + 2 / (2 * p2 n) := by grind
    rw [e] at b
    exact ⟨by grind, by grind⟩
theorem nu_back (u : Rat) (p : Nat) : nuQ (restQ u p) = restQ u p + nuQ (restQ u (p + 1)) / 2 := by
  rw [nu_shift (restQ u p), rest_restk, Nat.add_zero]
  congr 2
  refine nu_congr fun i => ?_
  rw [rest_two, rest_restk, rest_restk, show p + (i + 1) = p + 1 + i by omega]
theorem nu_rest0 (u : Rat) : nuQ (restQ u 0) = nuQ u := nu_congr fun i => by rw [rest_restk, Nat.zero_add]
theorem sumX_rest (u : Rat) (j : Nat) : ∀ m, sumX (restQ u j) 0 m = p2 j * sumX u j m
  | 0 => by show (0 : Rat) = p2 j * 0; rw [Rat.mul_zero]
  | m + 1 => by
    show sumX (restQ u j) 0 m + xQ (restQ u j) (0 + m) = p2 j * (sumX u j m + xQ u (j + m))
    rw [sumX_rest u j m, Nat.zero_add]
    unfold xQ
    rw [rest_restk, p2_add]
    have h1 := p2_ne j
    have h2 := p2_ne m
    grind
theorem nu_round {u : Rat} {j m : Nat} (h : RepAt u j m) : ((ahI u j m : Int) : Rat) / (((u.den : Int) * (2 ^ m - 1) : Int) : Rat) = nuQ (restQ u j) := by
  have hp : restQ (restQ u j) (0 + m) = restQ (restQ u j) 0 := by rw [rest_restk, rest_restk, Nat.zero_add, h.per, Nat.add_zero]
  rw [← nuQ_per h.m1 hp, ahI_sum]
  show _ = sumX (restQ u j) 0 0 + sumX (restQ u j) 0 m * wQ m
  rw [sumX_rest u j m, p2_add, Rat.intCast_mul]
  have e2 : (((2 : Int) ^ m - 1 : Int) : Rat) = p2 m - 1 := by rw [Rat.intCast_sub]; rfl
  rw [e2]
  unfold wQ
  have e3 : sumX (restQ u j) 0 0 = 0 := rfl
  rw [e3]
  have h1 := ratNe (den_pos' u)
  have h2 := p2_ne j
  have h3 := p2m_ne h.m1
  generalize ((u.den : Int) : Rat) = d at *
  generalize p2 j = x at *
  generalize p2 m = y at *
  grind
theorem Uq.dok {u : Rat} (h : Uq u) : Dok u.den := ⟨u.den_pos, h.den⟩
theorem Uq.ov {u : Rat} (_ : Uq u) : Ov (u.den : Int) u := ⟨u.num, ratDiv u⟩
theorem Uq.rbN {u : Rat} (h : Uq u) (p : Nat) : RB 560 (nuQ (restQ u p)) := h.dok.rb (ov_rest (den_pos' u) h.ov p)
theorem dm (a b : Int) : a / b * b + a % b = a := by rw [Int.mul_comm]; exact Int.mul_ediv_add_emod a b
def kvI (u : Rat) (n : Nat) : List (Key × D) := (List.range n).map fun (j : Nat) => ((.inl (rI u j) : Key), D.int (j : Int))
def rwI (u : Rat) (n : Nat) : List D := (List.range n).map fun (j : Nat) => D.int (rI u j)
theorem kvI_len (u : Rat) (i : Nat) : (kvI u i).length = i := by simp [kvI]
theorem rwI_len (u : Rat) (i : Nat) : (rwI u i).length = i := by simp [rwI]
theorem rwI_at {u : Rat} {n i : Nat} (h : i < n) : (rwI u n)[i]? = some (.int (rI u i)) := by
  unfold rwI
  rw [List.getElem?_map, List.getElem?_range h]
  rfl
theorem rwI_push (u : Rat) (i : Nat) : rwI u i ++ [.int (rI u i)] = rwI u (i + 1) := by simp [rwI, List.range_succ]
theorem kvI_none {u : Rat} {i : Nat} {k : Int} (h : ∀ j, j < i → rI u j ≠ k) : dval (kvI u i) (.inl k : Key) = none := by
  unfold dval kvI
  rw [List.find?_map]
  have : (List.range i).find? ((fun kv : Key × D => decide (kv.1 = (.inl k : Key))) ∘ fun (j : Nat) => ((.inl (rI u j) : Key), D.int (j : Int))) = none := by
    rw [List.find?_eq_none]
    intro j hj
    have := h j (List.mem_range.mp hj)
    simpa using this
  rw [this]
  rfl
theorem kvI_some {u : Rat} {i : Nat} {k : Int} (h : ∃ j, j < i ∧ rI u j = k) : ∃ m, m < i ∧ rI u m = k ∧ dval (kvI u i) (.inl k : Key) = some (.int (m : Int)) := by
  unfold dval kvI
  rw [List.find?_map]
  cases e : (List.range i).find? ((fun kv : Key × D => decide (kv.1 = (.inl k : Key))) ∘ fun (j : Nat) => ((.inl (rI u j) : Key), D.int (j : Int))) with
  | none =>
    rw [List.find?_eq_none] at e
    obtain ⟨j, hj, hk⟩ := h
    exact absurd (by simpa using hk) (e j (List.mem_range.mpr hj))
  | some m =>
    have h1 := List.find?_some e
    have h2 := List.mem_range.mp (List.mem_of_find?_eq_some e)
    exact ⟨m, h2, by simpa using h1, rfl⟩
theorem kvI_put {u : Rat} {i : Nat} (h : ∀ j, j < i → rI u j ≠ rI u i) : dput (kvI u i) (.inl (rI u i) : Key) (.int (i : Int)) = kvI u (i + 1) := by
  unfold dput
  rw [if_neg]
  · simp [kvI, List.range_succ]
  · intro z
    rw [List.any_eq_true] at z
    obtain ⟨kv', hm, hk⟩ := z
    obtain ⟨j, hj, rfl⟩ := List.mem_map.mp hm
    exact h j (List.mem_range.mp hj) (by simpa using hk)
theorem rI_iff {u : Rat} {i k : Nat} : restQ u i = restQ u k ↔ rI u i = rI u k := by
  rw [restQ_rI, restQ_rI]
  constructor
  · intro h
    have hd := ratNe (den_pos' u)
    have e := congrArg (· * ((u.den : Int) : Rat)) h
    have c : ∀ z : Int, (z : Rat) / ((u.den : Int) : Rat) * ((u.den : Int) : Rat) = (z : Rat) := fun z => by grind
    simp only [c] at e
    exact Rat.intCast_inj.mp e
  · intro h; rw [h]
theorem rgC_at {lo c : Int} {n i : Nat} {x : D} (h : (rgC lo c n)[i]? = some x) : i < n ∧ x = .int (lo + (i : Int) * c) := by
  unfold rgC at h
  rw [List.getElem?_map] at h
  by_cases hi : i < n
  · rw [List.getElem?_range hi] at h
    exact ⟨hi, (Option.some.inj h).symm⟩
  · rw [List.getElem?_eq_none (by simpa using hi)] at h
    cases h
theorem back_eq {hf r d N : Rat} (h : hf * 2 = 1) : hf * (((2 : Int) : Rat) * r / d + N) = r / d + N / 2 := by
  have e3 : ((2 : Int) : Rat) = 2 := rfl
  have e1 : 2 * r / d = 2 * (r / d) := by rw [Rat.div_def, Rat.div_def, Rat.mul_assoc]
  rw [e3, e1]
  generalize r / d = x
  have e2 : N / 2 = N * hf := by
    have : hf = 1 / 2 := by grind
    rw [this]
    grind
  rw [e2]
  grind
theorem half_ex : ∃ q : Rat, D.tup [.int 1, .int 2] = fr q ∧ RB 3000 q ∧ q * 2 = 1 := by
  obtain ⟨h1, h2⟩ := one_over (M := 2) (by decide)
  refine ⟨1 / (((2 : Nat) : Int) : Rat), fr_one (n := 2) (by decide), ⟨by rw [h1]; decide, by rw [h2]; decide⟩, ?_⟩
  have e2 : (((2 : Nat) : Int) : Rat) = 2 := rfl
  rw [e2]
  decide +kernel
def sp_law_cost : DSp := fun ds S Q _ => ∃ u, ds = [fr u] ∧ Uq u ∧ Q (fr (nuQ u)) S
theorem ok_law_cost {P : Program} {w : World} {K : PySem.W.Frag} {mg : Str → Option Value} {base : Heap} (T : Txt K mg) : FnOk P w K mg base (L2.CX P w) 3 T.a_law_cost T.fd_law_cost ["number"] (toSp K sp_law_cost) := by
  refine fnE T.F_law_cost sc_law_cost (fun ds S Q E h => ?_) (fun cdv A outer s H E RX hr => ⟨_, (pds_cons (pd_set 1 sc_law_cost.nd (pd_ix (pd_var 0) pd_int))
    (pds_cons (pd_par 2 3 rfl sc_law_cost.nd (pda_cons (pd_lst (pda_cons (pd_bltTy cd_int T.b_int (by decide +kernel) (pda_cons (pd_bin od_mod (pd_ix (pd_var 0) pd_int) (pd_var 1)) pda_nil)) pda_nil)) (pda_cons (pd_dispE (pd_bltTy cd_int T.b_int (by decide +kernel) (pda_cons (pd_bin od_mod (pd_ix (pd_var 0) pd_int) (pd_var 1)) pda_nil)) pd_int) pda_nil)) rfl)
    (pds_cons (pd_set 4 sc_law_cost.nd pd_int)
    (pds_cons (pd_for (passes_of rfl) rfl (pdi_range1 T.b_range (pda_cons pd_int pda_nil)) (pdg_name 5 sc_law_cost.nd) (pds_cons (pd_set 6 sc_law_cost.nd (pd_bltTy cd_int T.b_int (by decide +kernel) (pda_cons (pd_bin od_mod (pd_bin od_mul pd_int (pd_ix (pd_var 2) (pd_neg pd_int))) (pd_var 1)) pda_nil)))
    (pds_cons (pd_ifS (pdt_din (hu_of hr) (pd_var 6) (pd_var 3)) (pds_cons (pd_set 4 sc_law_cost.nd (pd_dget (hu_of hr) (pd_var 3) (pd_var 6)))
    (pds_one pd_break)) pds_nil)
    (pds_cons (pd_dput (hu_of hr) (pd_var 3) (pd_var 6) (pd_blt cd_len T.b_len (by decide +kernel) (pda_cons (pd_var 2) pda_nil)))
    (pds_one (pd_expr (pd_lm PySem.F.slot_list_append PySem.F.type_list_append md_append (pd_var 2) (pda_cons (pd_var 6) pda_nil))))))))
    (pds_cons (pd_asg (pd_tup (pda_cons pd_int (pda_cons pd_int pda_nil))) (pdg_tup rfl (pdgs_cons (pdg_name 7 sc_law_cost.nd) (pdgs_cons (pdg_name 8 sc_law_cost.nd) pdgs_nil))))
    (pds_cons (pd_for (passes_of rfl) rfl (pdi_range2 T.b_range (pda_cons (pd_var 4) (pda_cons (pd_blt cd_len T.b_len (by decide +kernel) (pda_cons (pd_var 2) pda_nil)) pda_nil))) (pdg_name 9 sc_law_cost.nd) (pds_cons (pd_set 8 sc_law_cost.nd (pd_bin od_mul pd_int (pd_var 8)))
    (pds_one (pd_set 7 sc_law_cost.nd (pd_bin od_add (pd_bin od_add (pd_bin od_mul pd_int (pd_var 7)) (pd_bin od_mul (pd_bltTy cd_int T.b_int (by decide +kernel) (pda_cons (pd_bin od_fdiv (pd_bin od_mul pd_int (pd_ix (pd_var 2) (pd_var 9))) (pd_var 1)) pda_nil)) (pd_var 1))) (pd_bltTy cd_int T.b_int (by decide +kernel) (pda_cons (pd_bin od_mod (pd_bin od_mul pd_int (pd_ix (pd_var 2) (pd_var 9))) (pd_var 1)) pda_nil)))))))
    (pds_cons (pd_set 7 sc_law_cost.nd (pd_call (takes_of rfl rfl rfl rfl) (ok_law_low T) (hr.mono (by decide)) T.m_law_low T.F_law_low.kp T.d_law_low (pda_cons (pd_var 7) (pda_cons (pd_bin od_mul (pd_var 1) (pd_bin od_sub (pd_var 8) pd_int)) pda_nil))))
    (pds_cons (pd_for (passes_of rfl) rfl (pdi_range3 T.b_range (pda_cons (pd_bin od_sub (pd_var 4) pd_int) (pda_cons (pd_neg pd_int) (pda_cons (pd_neg pd_int) pda_nil)))) (pdg_name 9 sc_law_cost.nd) (pds_cons (pd_set 10 sc_law_cost.nd (pd_bin od_add (pd_bin od_mul (pd_bltTy cd_int T.b_int (by decide +kernel) (pda_cons (pd_bin od_fdiv (pd_bin od_mul pd_int (pd_ix (pd_var 2) (pd_var 9))) (pd_var 1)) pda_nil)) (pd_var 1)) (pd_bltTy cd_int T.b_int (by decide +kernel) (pda_cons (pd_bin od_mod (pd_bin od_mul pd_int (pd_ix (pd_var 2) (pd_var 9))) (pd_var 1)) pda_nil))))
    (pds_one (pd_set 7 sc_law_cost.nd (pd_call (takes_of rfl rfl rfl rfl) (ok_law_times T) (hr.mono (by decide)) T.m_law_times T.F_law_times.kp T.d_law_times (pda_cons (pd_tup (pda_cons pd_int (pda_cons pd_int pda_nil))) (pda_cons (pd_call (takes_of rfl rfl rfl rfl) (ok_law_plus T) (hr.mono (by decide)) T.m_law_plus T.F_law_plus.kp T.d_law_plus (pda_cons (pd_call (takes_of rfl rfl rfl rfl) (ok_law_low T) (hr.mono (by decide)) T.m_law_low T.F_law_low.kp T.d_law_low (pda_cons (pd_var 10) (pda_cons (pd_var 1) pda_nil))) (pda_cons (pd_var 7) pda_nil))) pda_nil)))))))
    (pds_one (pd_ret (pd_var 7))))))))))), fun ds S Q h => ?_⟩)
  · obtain ⟨_, rfl, _⟩ := h
    rfl
  · obtain ⟨u, rfl, hu, h⟩ := h
    have hd := den_pos' u
    have hn := hu.dle
    obtain ⟨hf, e12, rbh, hf2⟩ := half_ex
    walk_at "w"
    refine ⟨_, rfl, ?_⟩
    walk_at "w"
    refine ⟨_, rfl, ?_⟩
    walk_at "w"
    refine ⟨hd, ?_⟩
    walk_at "w"
    intro p0 hp0
    generalize hSS : DL.sup S p0 _ = Sa
    obtain ⟨ea, xa, -⟩ := sup_of hSS
    have xa := xa hp0
    clear hSS
    walk_at "w"
    intro p1 hp1
    have hne : p0 ≠ p1 := fun z => by subst z; rw [ea] at hp1; cases hp1
    have hSp1 : S p1 = none := xa.free hp1
    generalize hSS : DL.sup Sa p1 _ = Sb
    obtain ⟨eb, xb, -⟩ := sup_of hSS
    have xb := xb hp1
    clear hSS
    walk_at "w"
    refine ⟨_, rfl, ?_⟩
    walk_at "w"
    refine ⟨hd, ?_⟩
    walk_at "w"
    refine ⟨_, rfl, ?_⟩
    have ea := xb _ _ ea
    have xS := xa.trans xb
    walk_at "w"
    refine ⟨eb, ?_⟩
    walk_at "w"
    have xS2 : Ext S (DL.sup Sb p1 (.dK [(.inl (u.num % (u.den : Int)), .int 0)])) := xS.wr hSp1
    have ea2 : DL.sup Sb p1 (.dK [(.inl (u.num % (u.den : Int)), .int 0)]) p0 = _ := (sup_ne hne).trans ea
    have eb2 : DL.sup Sb p1 (.dK [(.inl (u.num % (u.den : Int)), .int 0)]) p1 = _ := sup_same
    walk_at "w"
    refine ⟨⟨by decide, by decide⟩, for_rg (fun i ρ' S' => S' p0 = some (.lst (rwI u (i + 1))) ∧ S' p1 = some (.dK (kvI u (i + 1))) ∧ Ext S S' ∧ (∀ i' k, i' < k → k < i + 1 → rI u i' ≠ rI u k) ∧ ∃ o1 o2, ρ' = [some (fr u), some (.int (u.den : Int)), some (.ref p0), some (.ref p1), some (.int 0), o1, o2, none, none, none, none]) ⟨by rw [ea2, ← rI_zero]; rfl, by rw [eb2, ← rI_zero]; rfl, xS2, fun _ _ _ z => by omega, _, _, rfl⟩ ?_ ?_⟩
    · rintro i _ S1 hi ⟨e0, e1, x1, hdis, o1, o2, rfl⟩
      have hi : i < 9000 := by omega
      walk_at "w"
      refine ⟨_, .int (rI u i), .inl ⟨p0, rfl, e0⟩, at_m1 (by rw [rwI_len, Nat.add_sub_cancel]; exact rwI_at (by omega)) (by rw [rwI_len]; omega), ?_⟩
      walk_at "w"
      refine ⟨small_l (by decide) (by decide), ?_⟩
      walk_at "w"
      refine ⟨hd, ?_⟩
      rw [rI_succ]
      walk_at "w"
      refine ⟨_, _, e1, rfl, ?_⟩
      walk_at "w"
      by_cases hin : ∃ j, j < i + 1 ∧ rI u j = rI u (i + 1)
      · obtain ⟨j, hj, hx, hv⟩ := kvI_some hin
        refine IFB.t (by simp only [hv]; rfl) ?_
        obtain ⟨m, hm⟩ : ∃ m, i + 1 = j + m := ⟨i + 1 - j, by omega⟩
        have hrep : RepAt u j m := ⟨by omega, by rw [← hm]; exact rI_iff.mpr hx.symm, fun a b hab hb z => hdis a b hab (by omega) (rI_iff.mp z)⟩
        have hjm := rep_le hu hrep
        walk_at "w"
        refine ⟨_, _, e1, rfl, _, hv, ?_⟩
        walk_at "w"
        refine ⟨rfl, ?_⟩
        walk_at "w"
        refine ⟨_, .inl ⟨p0, rfl, e0⟩, ?_⟩
        walk_at "w"
        rw [rwI_len]
        refine ⟨⟨by omega, by omega, by omega, by omega⟩, for_rg (fun t ρ' S' => S' = S1 ∧ ∃ o, ρ' = [some (fr u), some (.int (u.den : Int)), some (.ref p0), some (.ref p1), some (.int (j : Int)), some (.int (0 + (i : Int))), some (.int (rI u (i + 1))), some (.int (ahI u j t)), some (.int (2 ^ t)), o, none]) ⟨rfl, _, rfl⟩ ?_ ?_⟩
        · rintro t _ _ ht ⟨rfl, o, rfl⟩
          have ht : t < m := by omega
          have hat : atI (rwI u (i + 1)) ((j : Int) + (t : Int)) = some (.int (rI u (j + t))) := by
            rw [show (j : Int) + (t : Int) = ((j + t : Nat) : Int) by omega]
            exact atI_nat (rwI_at (by omega))
          walk_at "w"
          refine ⟨small_l (by decide) (by decide), ?_⟩
          walk_at "w"
          refine ⟨small_l (by decide) (by decide), ?_⟩
          walk_at "w"
          refine ⟨_, _, .inl ⟨p0, rfl, e0⟩, hat, ?_⟩
          walk_at "w"
          refine ⟨small_l (by decide) (by decide), ?_⟩
          walk_at "w"
          refine ⟨div_s hd (Int.lt_of_le_of_lt (show (u.den : Int) ≤ 729 by omega) (by decide)), ?_⟩
          walk_at "w"
          refine ⟨small_r (by omega) (by omega), ?_⟩
          walk_at "w"
          refine ⟨_, _, .inl ⟨p0, rfl, e0⟩, hat, ?_⟩
          walk_at "w"
          refine ⟨small_l (by decide) (by decide), ?_⟩
          walk_at "w"
          refine ⟨hd, ?_⟩
          walk_at "w"
          have eA : 2 * ahI u j t + 2 * rI u (j + t) / (u.den : Int) * (u.den : Int) + 2 * rI u (j + t) % (u.den : Int) = ahI u j (t + 1) := by
            have := dm (2 * rI u (j + t)) (u.den : Int)
            show _ = 2 * (ahI u j t + rI u (j + t))
            omega
          exact ⟨rfl, _, by rw [eA, show (2 : Int) ^ (t + 1) = 2 * 2 ^ t by rw [Int.pow_succ, Int.mul_comm]]; rfl⟩
        · rintro _ S2 ⟨e_, o, rfl⟩
          subst e_
          rw [show ((((i + 1 : Nat) : Int)) - (j : Int)).toNat = m by omega]
          have b3 : ((2 : Int) ^ m - 1).natAbs < 2 ^ 513 := by
            have h1 := lt_up (pow2_lt m) (show m + 1 ≤ 513 by omega)
            have h2 := pm_pos hrep.m1
            omega
          have b5 : ((u.den : Int)).natAbs < 2 ^ 10 := by rw [Int.natAbs_natCast]; show _ < 1024; omega
          walk_at "w"
          refine ⟨.inl (wide_mul b5 b3 (by decide) (by decide) (by decide)), ?_⟩
          walk_at "w"
          refine ⟨_, _, rfl, Int.mul_pos hd (pm_pos hrep.m1), lt_up (wide_lt b5 b3) (by decide), ?_⟩
          rw [nu_round hrep]
          walk_at "w"
          refine ⟨j, ?_, ?_⟩
          · have q := RgC.neg (i := (j : Int) - 1) (j := -1) (by omega) (by omega) (by decide) (by decide)
            rw [show ((j : Int) - 1 - -1).toNat = j by omega] at q
            exact q
          refine for_xs (fun t ρ' S' => S' = S2 ∧ ∃ o1 o2, ρ' = [some (fr u), some (.int (u.den : Int)), some (.ref p0), some (.ref p1), some (.int (j : Int)), some (.int (0 + (i : Int))), some (.int (rI u (i + 1))), some (fr (nuQ (restQ u (j - t)))), some (.int (2 ^ m)), o1, o2]) ⟨rfl, _, _, rfl⟩ (fun _ _ _ _ => trivial) ?_ ?_
          · rintro t x _ _ hx ⟨rfl, o1, o2, rfl⟩
            obtain ⟨ht, rfl⟩ := rgC_at hx
            obtain ⟨s, hs⟩ : ∃ s, j - t = s + 1 := ⟨j - t - 1, by omega⟩
            have hs2 : j - (t + 1) = s := by omega
            rw [hs, hs2]
            have hat : atI (rwI u (i + 1)) ((j : Int) - 1 + (t : Int) * -1) = some (.int (rI u s)) := by
              rw [show (j : Int) - 1 + (t : Int) * -1 = ((s : Nat) : Int) by omega]
              exact atI_nat (rwI_at (by omega))
            walk_at "w"
            refine ⟨_, _, .inl ⟨p0, rfl, e0⟩, hat, ?_⟩
            walk_at "w"
            refine ⟨small_l (by decide) (by decide), ?_⟩
            walk_at "w"
            refine ⟨div_s hd (Int.lt_of_le_of_lt (show (u.den : Int) ≤ 729 by omega) (by decide)), ?_⟩
            walk_at "w"
            refine ⟨small_r (by omega) (by omega), ?_⟩
            walk_at "w"
            refine ⟨_, _, .inl ⟨p0, rfl, e0⟩, hat, ?_⟩
            walk_at "w"
            refine ⟨small_l (by decide) (by decide), ?_⟩
            walk_at "w"
            refine ⟨hd, ?_⟩
            walk_at "w"
            refine ⟨_, _, rfl, hd, lt_up b5 (by decide), ?_⟩
            rw [dm (2 * rI u s) (u.den : Int)]
            have rb1 : RB 11 (((2 * rI u s : Int) : Rat) / ((u.den : Int) : Rat)) := rb_div hd (by have a := rI_nn u s; have b := rI_lt u s; show _ < 2048; omega) (lt_up b5 (by decide))
            walk_at "w"
            refine ⟨_, _, rfl, rb1.mono (by decide), (hu.rbN (s + 1)).mono (by decide), ?_⟩
            walk_at "w"
            rw [e12]
            refine ⟨_, _, rfl, rbh, (rb_add rb1 (hu.rbN (s + 1))).mono (by decide), ?_⟩
            have eV : hf * (((2 * rI u s : Int) : Rat) / ((u.den : Int) : Rat) + nuQ (restQ u (s + 1))) = nuQ (restQ u s) := by
              rw [nu_back u s, restQ_rI u s, Rat.intCast_mul]
              exact back_eq hf2
            rw [eV]
            walk_at "w"
            exact ⟨rfl, _, _, rfl⟩
          · rintro _ S3 ⟨e_, o1, o2, rfl⟩
            subst e_
            rw [show (rgC ((j : Int) - 1) (-1) j).length = j by unfold rgC; simp, Nat.sub_self, nu_rest0]
            walk_at "w"
            exact ⟨S, x1, h⟩
      · have hni : ∀ j, j < i + 1 → rI u j ≠ rI u (i + 1) := fun j hj z => hin ⟨j, hj, z⟩
        refine IFB.f (by simp only [kvI_none hni]; rfl) ?_
        walk_at "w"
        refine ⟨_, .inl ⟨p0, rfl, e0⟩, ?_⟩
        walk_at "w"
        refine ⟨_, _, e1, rfl, by rw [kvI_len]; show _ < 16777216; omega, ?_⟩
        rw [rwI_len, kvI_put hni]
        walk_at "w"
        have f0 : DL.sup S1 p1 (.dK (kvI u (i + 1 + 1))) p0 = some (.lst (rwI u (i + 1))) := by rw [sup_ne hne]; exact e0
        refine ⟨⟨_, f0⟩, ?_⟩
        walk_at "w"
        refine ⟨_, f0, by rw [rwI_len]; show _ < 16777216; omega, ?_⟩
        rw [rwI_push]
        walk_at "w"
        refine ⟨sup_same, by rw [sup_ne hne.symm]; exact sup_same, (x1.wr hSp1).wr hp0, fun a b hab hb => ?_, _, _, rfl⟩
        rcases Nat.lt_or_ge b (i + 1) with z | z
        · exact hdis a b hab z
        · have : b = i + 1 := by omega
          subst this
          exact hni a (by omega)
    · rintro _ S1 ⟨e0, e1, x1, hdis, o1, o2, rfl⟩
      refine (pigeon (u := u) fun i k a b z => ?_).elim
      exact hdis i k a (by rw [show (9000 : Int).toNat = 9000 from rfl]; omega) (rI_iff.mp z)
end K53
set_option Elab.async false
set_option linter.all false
set_option maxRecDepth 100000
set_option maxHeartbeats 4000000
namespace K53
open PySem PySem.Spec PyProof.Rows L2 DL
local macro_rules | `(tactic| walk_at "w") => `(tactic| conv => whnf)
local macro_rules | `(tactic| walk_at "g") => `(tactic| ((conv => whnf); repeat' (first | (refine IFB.t ?_ ?_; rfl; conv => whnf) | (refine IFB.f ?_ ?_; rfl; conv => whnf))))
set_option exponentiation.threshold 9000
def dvs (N : Int) (ws : List Int) : List Rat := ws.map fun (w : Int) => (w : Rat) / (N : Rat)
def divD (N : Int) : D → D
  | .int t => fr ((t : Rat) / (N : Rat))
  | d => d
theorem dvs_D (N : Int) (ws : List Int) : (ws.map D.int).map (divD N) = (dvs N ws).map fr := by
  unfold dvs
  rw [List.map_map, List.map_map]
  rfl

theorem lc_rgW {lo : Int} {n : Nat} {p : Pat} {tt : RT} {te : RE} {vs : List Nat} {ρ : Ro} {S : Sto} {G : Addr → Sto → List D → Prop} (W : Nat → List D → Sto → Prop) (h0 : W 0 [] S)
    (hs : ∀ (i : Nat) acc S', i < n → W i acc S' → Pat.put p (.int (lo + (i : Int))) (dwipe ρ vs) fun ρ2 => tt ρ2 S' fun b S3 => IFB b (te ρ2 S3 fun d S4 => acc.length < sizeLine ∧ W (i + 1) (acc ++ [d]) S4) (W (i + 1) acc S3))
    (hd : ∀ S' q acc, W n acc S' → S' q = none → G q S' acc) :
    ∃ W : Nat → List D → Sto → Prop, W 0 [] S ∧ ∀ i acc S', W i acc S' → (fun (_ : Sto) => True) S' ∧
      (∀ x, (rgI lo n)[i]? = some x → Pat.put p x (dwipe ρ vs) fun ρ2 => tt ρ2 S' fun b S3 => IFB b (te ρ2 S3 fun d S4 => acc.length < sizeLine ∧ W (i + 1) (acc ++ [d]) S4) (W (i + 1) acc S3)) ∧
      (i = (rgI lo n).length → ∀ p, S' p = none → G p S' acc) := by
  refine ⟨W, h0, fun i acc S' w => ⟨trivial, fun x hx => ?_, fun h q hq => ?_⟩⟩
  · obtain ⟨hi, rfl⟩ := rgI_inv hx
    exact hs i acc S' hi w
  · rw [rgI_len] at h
    subst h
    exact hd S' q acc w hq
theorem dvs_all {N : Int} (hp : 0 < N) {ws : List Int} (h3 : ∀ w ∈ ws, 0 < w) {q : Rat} (hq : q ∈ dvs N ws) : 0 < q ∧ Ov N q := by
  obtain ⟨w, hw, rfl⟩ := List.mem_map.mp hq
  refine ⟨?_, w, rfl⟩
  rw [Rat.div_def]
  exact Rat.mul_pos (ratPos (h3 w hw)) (Rat.inv_pos.mpr (ratPos hp))
theorem dvs_sum {N : Int} (hp : 0 < N) : ∀ ws : List Int, (dvs N ws).sum = ((ws.sum : Int) : Rat) / (N : Rat)
  | [] => by show (0 : Rat) = ((0 : Int) : Rat) / _; rw [Rat.intCast_zero, Rat.div_def, Rat.zero_mul]
  | w :: ws => by
    show ((w : Rat) / (N : Rat)) + (dvs N ws).sum = _
    rw [dvs_sum hp ws, List.sum_cons, Rat.intCast_add]
    have := ratNe hp
    grind
theorem dvs_sh {ws : List Int} (h1 : ws ≠ []) (h3 : ∀ w ∈ ws, 0 < w) (hp : 0 < ws.sum) : Sh ws.sum (dvs ws.sum ws) := by
  refine ⟨hp, fun z => h1 (List.map_eq_nil_iff.mp z), fun q hq => dvs_all hp h3 hq, ?_⟩
  rw [dvs_sum hp]
  have := ratNe hp
  grind
theorem ws_sum {m : Int} : ∀ {ws : List Int}, (∀ w ∈ ws, 1 ≤ w ∧ w ≤ m) → (ws.length : Int) ≤ ws.sum ∧ ws.sum ≤ m * ws.length
  | [], _ => by simp
  | w :: ws, h => by
    have h1 := h w (by simp)
    have h2 := ws_sum (ws := ws) fun x hx => h x (List.mem_cons_of_mem _ hx)
    rw [List.sum_cons, List.length_cons]
    have e : m * ((ws.length + 1 : Nat) : Int) = m * (ws.length : Int) + m := by rw [Int.natCast_add]; grind
    omega
def sp_law_shares : DSp := fun ds S Q _ => ∃ (a : Addr) (m : Nat) (c : Int), ds = [.ref a, .int (m : Int)] ∧ BagD S a c ∧ 0 ≤ c ∧ c < 900000 ∧ 1 ≤ m ∧ m ≤ 6 ∧ ∀ qs (M : Nat) S', Sh (M : Int) qs → M ≤ 6 * m → qs.length ≤ m → BagD S' a (c + 10) → (∀ b, b ≠ a → S' b = S b) → Q (shD qs) S'
def sp_law_least : DSp := sp_least_mean_of
def sp_law_both : DSp := fun ds S Q _ => ∃ as bs, ds = [shD as, shD bs] ∧ (∀ a ∈ as, RB 1000 a) ∧ (∀ b ∈ bs, RB 1000 b) ∧ as.length ≤ 1000 ∧ bs.length ≤ 100 ∧ Q (shD (prods as bs)) S
def mulD (a : Rat) : D → D
  | .tup [.int t, .int b] => fr (a * ((t : Rat) / (b : Rat)))
  | d => d
theorem mulD_fr (a q : Rat) : mulD a (fr q) = fr (a * q) := by
  show fr (a * ((q.num : Rat) / ((q.den : Int) : Rat))) = _
  rw [← ratDiv q]
theorem mulD_map (a : Rat) (qs : List Rat) : (qs.map fr).map (mulD a) = (qs.map fun b => a * b).map fr := by
  rw [List.map_map, List.map_map]
  exact List.map_congr_left fun q _ => mulD_fr a q
theorem prods_take {as bs : List Rat} {i : Nat} {a : Rat} (h : as[i]? = some a) : prods (as.take (i + 1)) bs = prods (as.take i) bs ++ bs.map fun b => a * b := by
  unfold prods
  rw [List.take_succ, h, List.flatMap_append]
  show _ ++ ([a].flatMap _) = _
  rw [List.flatMap_cons, List.flatMap_nil, List.append_nil]
theorem prods_le (as bs : List Rat) : (prods as bs).length = as.length * bs.length := prods_len as bs
theorem ok_law_shares {P : Program} {w : World} {K : PySem.W.Frag} {mg : Str → Option Value} {base : Heap} (T : Txt K mg) : FnOk P w K mg base (L2.CX P w) 2 T.a_law_shares T.fd_law_shares ["bag", "limit"] (toSp K sp_law_shares) := by
  refine fnE T.F_law_shares sc_law_shares (fun ds S Q E h => ?_) (fun cdv A outer s H E RX hr => ⟨_, (pds_cons (pd_set 2 sc_law_shares.nd (pd_lc (own := [("thing", 3)]) (p := .n 3) rfl sc_law_shares.nd (pdi_range1 T.b_range (pda_cons (pd_bin od_add pd_int (pd_call (takes_of rfl rfl rfl rfl) (ok_law_take T) (hr.mono (by decide)) T.m_law_take T.F_law_take.kp T.d_law_take (pda_cons (pd_var 0) (pda_cons (pd_var 1) pda_nil)))) pda_nil)) (blkOk_by (N := ["bag", "limit", "weights", "thing", "weight"]) (sc := defScope s_law_shares) (own := [("thing", 3)]) (by decide +kernel)) (fun _ _ _ _ _ => (pg_name (i := 3) sc_law_shares.nd rfl (by first | exact Or.inl rfl | exact Or.inr rfl))) (fun _ _ _ _ _ => pdts_nil) (fun _ _ _ _ _ => (pd_bin od_add pd_int (pd_call takes0 (ok_law_take T) (hr.mono (by decide)) T.m_law_take T.F_law_take.kp T.d_law_take (pda_cons (pd_var 0) (pda_cons pd_int pda_nil)))))))
    (pds_one (pd_ret (pd_bltTy cd_tuple T.b_tuple (by decide +kernel) (pda_cons (pd_lc (own := [("weight", 4)]) (p := .n 4) rfl sc_law_shares.nd (pdi_it (pd_var 2)) (blkOk_by (N := ["bag", "limit", "weights", "thing", "weight"]) (sc := defScope s_law_shares) (own := [("weight", 4)]) (by decide +kernel)) (fun _ _ _ _ _ => (pg_name (i := 4) sc_law_shares.nd rfl (by first | exact Or.inl rfl | exact Or.inr rfl))) (fun _ _ _ _ _ => pdts_nil) (fun _ _ _ _ _ => (pd_call takes0 (ok_law_low T) (hr.mono (by decide)) T.m_law_low T.F_law_low.kp T.d_law_low (pda_cons (pd_var 4) (pda_cons (pd_blt (cd_sumA rfl) T.b_sum (by decide +kernel) (pda_cons (pd_var 2) pda_nil)) pda_nil))))) pda_nil))))), fun ds S Q h => ?_⟩)
  · obtain ⟨_, _, _, rfl, _⟩ := h
    rfl
  · obtain ⟨a, m, c, rfl, hd, hc0, hc, hm1, hm, h⟩ := h
    walk_at "w"
    refine ⟨a, (m : Int), c, rfl, hd, by omega, by omega, by omega, ?_⟩
    rintro t S1 t0 t1 hd1 fr1
    walk_at "w"
    refine ⟨⟨by omega, by omega⟩, ?_⟩
    refine lc_rgW (fun i acc S' => ∃ ws : List Int, acc = ws.map D.int ∧ ws.length = i ∧ (∀ w ∈ ws, 1 ≤ w ∧ w ≤ 6) ∧ BagD S' a (c + 1 + i) ∧ ∀ b, b ≠ a → S' b = S b) ⟨[], rfl, rfl, (fun _ z => nomatch z), hd1.mono (by omega), fr1⟩ ?_ ?_
    · rintro i acc S2 hi ⟨ws, rfl, hl, hw, hd2, fr2⟩
      walk_at "w"
      refine IFB.t rfl ?_
      walk_at "w"
      refine ⟨a, 6, _, rfl, hd2, by omega, by decide, by decide, ?_⟩
      rintro f S3 f0 f1 hd3 fr3
      walk_at "w"
      refine ⟨by rw [List.length_map]; show _ < 16777216; omega, ws ++ [1 + f], by rw [List.map_append]; rfl, by rw [List.length_append, hl]; rfl, fun w hw2 => ?_, hd3.mono (by omega), fun b hb => (fr3 b hb).trans (fr2 b hb)⟩
      rcases List.mem_append.mp hw2 with z | z
      · exact hw w z
      · cases List.mem_singleton.mp z; omega
    · rintro S2 q acc ⟨ws, rfl, hl, hw, hd2, fr2⟩ hq
      have hs := ws_sum hw
      have hlm : ws.length = (1 + t).toNat := hl
      have hqa := hd2.ne hq
      have e2 : DL.sup S2 q (.lst (ws.map D.int)) q = some (.lst (ws.map D.int)) := sup_same
      have hd4 := hd2.sup (x := .lst (ws.map D.int)) hq
      have fr4 : ExtB a S (DL.sup S2 q (.lst (ws.map D.int))) := (ExtB.of fr2).wr (by rw [← fr2 q hqa]; exact hq)
      generalize DL.sup S2 q _ = S4 at *
      walk_at "w"
      refine ⟨_, .inl ⟨q, rfl, e2⟩, ?_⟩
      refine lc_xsm (divD ws.sum) (fun S' ex => .inl ⟨q, rfl, ex _ _ e2⟩) ?_ ?_
      · rintro i x acc S5 hi w5
        obtain ⟨w, hw2, rfl⟩ := int_at hi
        walk_at "w"
        refine IFB.t rfl ?_
        walk_at "w"
        refine ⟨ws, .inl ⟨q, rfl, w5.2.2 _ _ e2⟩, ?_⟩
        walk_at "w"
        refine ⟨_, _, rfl, by omega, lt_up (a := 10) (show ws.sum.natAbs < 1024 by omega) (by decide), ?_⟩
        exact lc_leafL hi w5 (by rw [List.length_map]; show _ ≤ 16777216; omega) rfl (Ext.refl _)
      · rintro S5 v ex hv
        walk_at "w"
        refine ⟨_, .inl ⟨v, rfl, sup_same⟩, ?_⟩
        rw [dvs_D]
        have hv6 := ex.trans (Ext.new hv (.lst ((ws.map D.int).map (divD ws.sum))))
        rw [dvs_D] at hv6
        have hd6 := hd4.ext hv6
        have fr6 := fr4.trans (ExtB.ext (a := a) hv6)
        obtain ⟨M, hM⟩ := Int.eq_ofNat_of_zero_le (show 0 ≤ ws.sum by omega)
        have sh := dvs_sh (ws := ws) (fun z => by rw [z] at hlm; have : (0 : Nat) = (1 + t).toNat := hlm; omega) (fun w z => by have := hw w z; omega) (by omega)
        walk_at "w"
        refine ⟨keepA a S _, keepA_ext fr6, h _ M _ (by rw [← hM]; exact sh) (by omega) (by unfold dvs; rw [List.length_map]; omega) (hd6.keep.mono (by omega)) keepA_ne⟩

theorem ok_law_least {P : Program} {w : World} {K : PySem.W.Frag} {mg : Str → Option Value} {base : Heap} (T : Txt K mg) : FnOk P w K mg base (L2.CX P w) 4 T.a_law_least T.fd_law_least ["shares"] (toSp K sp_law_least) := by
  refine fnE T.F_law_least sc_law_least (fun ds S Q E h => ?_) (fun cdv A outer s H E RX hr => ⟨_, (pds_one (pd_ret (pd_call (takes_of rfl rfl rfl rfl) (ok_law_sum T) (hr.mono (by decide)) T.m_law_sum T.F_law_sum.kp T.d_law_sum (pda_cons (pd_lc (own := [("share", 1)]) (p := .n 1) rfl sc_law_least.nd (pdi_it (pd_var 0)) (blkOk_by (N := ["shares", "share"]) (sc := defScope s_law_least) (own := [("share", 1)]) (by decide +kernel)) (fun _ _ _ _ _ => (pg_name (i := 1) sc_law_least.nd rfl (by first | exact Or.inl rfl | exact Or.inr rfl))) (fun _ _ _ _ _ => pdts_nil) (fun _ _ _ _ _ => (pd_call takes0 (ok_law_cost T) (hr.mono (by decide)) T.m_law_cost T.F_law_cost.kp T.d_law_cost (pda_cons (pd_var 1) pda_nil)))) pda_nil)))), fun ds S Q h => ?_⟩)
  · obtain ⟨_, _, rfl, _⟩ := h
    rfl
  · obtain ⟨M, qs, rfl, hp, h⟩ := h
    obtain ⟨N, n1, n2, n3⟩ := hp.ok.ov
    have hl := hp.len
    walk_at "w"
    refine lc_xsm nuD (fun _ _ => trivial) ?_ ?_
    · rintro i x acc S2 hi w2
      obtain ⟨q, hq, rfl⟩ := fr_at hi
      walk_at "w"
      refine IFB.t rfl ?_
      walk_at "w"
      refine ⟨q, rfl, hp.uq (List.mem_of_getElem? hq), ?_⟩
      exact lc_leafL hi w2 (by rw [List.length_map]; show _ ≤ 16777216; omega) (nuD_fr _).symm (Ext.refl _)
    · rintro S2 v ex hv
      rw [nuD_map]
      walk_at "w"
      refine .inl ⟨_, qs.map nuQ, N, rfl, .inr (.inl ⟨v, rfl, sup_same⟩), n1, lt_up n2 (by decide), fun q hq => ?_, ?_, ?_⟩
      · obtain ⟨x, hx, rfl⟩ := List.mem_map.mp hq
        exact ⟨nuQ_nn x, n3 x (hp.all x hx).2.2⟩
      · have := natR_le hl
        have e : ((1000 : Nat) : Rat) = 1000 := rfl
        rw [e] at this
        have h2 := HQ_le qs
        exact Rat.le_trans h2 (Rat.le_trans (show (2 : Rat) * (qs.length : Rat) ≤ 2000 by grind) (by decide +kernel))
      · exact ⟨S, ex.trans (Ext.new hv _), h⟩

theorem ok_law_both {P : Program} {w : World} {K : PySem.W.Frag} {mg : Str → Option Value} {base : Heap} (T : Txt K mg) : FnOk P w K mg base (L2.CX P w) 3 T.a_law_both T.fd_law_both ["one", "other"] (toSp K sp_law_both) := by
  refine fnE T.F_law_both sc_law_both (fun ds S Q E h => ?_) (fun cdv A outer s H E RX hr => ⟨_, (pds_cons (pd_set 2 sc_law_both.nd (pd_lst pda_nil))
    (pds_cons (pd_for (passes_of rfl) rfl (pdi_it (pd_var 0)) (pdg_name 3 sc_law_both.nd) (pds_one (pd_set 2 sc_law_both.nd (pd_bin od_add (pd_var 2) (pd_lc (own := [("more", 4)]) (p := .n 4) rfl sc_law_both.nd (pdi_it (pd_var 1)) (blkOk_by (N := ["one", "other", "found", "share", "more"]) (sc := defScope s_law_both) (own := [("more", 4)]) (by decide +kernel)) (fun _ _ _ _ _ => (pg_name (i := 4) sc_law_both.nd rfl (by first | exact Or.inl rfl | exact Or.inr rfl))) (fun _ _ _ _ _ => pdts_nil) (fun _ _ _ _ _ => (pd_call takes0 (ok_law_times T) (hr.mono (by decide)) T.m_law_times T.F_law_times.kp T.d_law_times (pda_cons (pd_var 3) (pda_cons (pd_var 4) pda_nil)))))))))
    (pds_one (pd_ret (pd_bltTy cd_tuple T.b_tuple (by decide +kernel) (pda_cons (pd_var 2) pda_nil)))))), fun ds S Q h => ?_⟩)
  · obtain ⟨_, _, rfl, _⟩ := h
    rfl
  · obtain ⟨as, bs, rfl, ha, hb, hl, hl2, h⟩ := h
    have hmul : as.length * bs.length ≤ 1000 * 100 := Nat.mul_le_mul hl hl2
    walk_at "w"
    intro p0 hp0
    have e0 : DL.sup S p0 (.lst []) p0 = some (.lst []) := sup_same
    have x0 : Ext S (DL.sup S p0 (.lst [])) := Ext.new hp0 _
    generalize DL.sup S p0 _ = S0 at *
    walk_at "w"
    refine for_xs (fun i ρ' S' => ∃ p o1 o2, S' p = some (.lst ((prods (as.take i) bs).map fr)) ∧ Ext S S' ∧ ρ' = [some (shD as), some (shD bs), some (.ref p), o1, o2]) ⟨p0, _, _, e0, x0, rfl⟩ (fun _ _ _ _ => trivial) ?_ ?_
    · rintro i x _ S1 hi ⟨p, o1, o2, ep, x1, rfl⟩
      obtain ⟨q, hq, rfl⟩ := fr_at hi
      have hil := (List.getElem?_eq_some_iff.mp hq).1
      walk_at "w"
      refine lc_xsm (mulD q) (fun _ _ => trivial) ?_ ?_
      · rintro k x acc S2 hk w2
        obtain ⟨b, hb2, rfl⟩ := fr_at hk
        walk_at "w"
        refine IFB.t rfl ?_
        walk_at "w"
        refine ⟨q, b, rfl, (ha q (List.mem_of_getElem? hq)).mono (by decide), (hb b (List.mem_of_getElem? hb2)).mono (by decide), ?_⟩
        exact lc_leafL hk w2 (by rw [List.length_map]; show _ ≤ 16777216; omega) (mulD_fr _ _).symm (Ext.refl _)
      · rintro S2 v ex hv
        rw [mulD_map]
        have e2 : DL.sup S2 v (.lst ((bs.map fun b => q * b).map fr)) v = some (.lst ((bs.map fun b => q * b).map fr)) := sup_same
        have x2 := ex.trans (Ext.new hv (.lst ((bs.map fun b => q * b).map fr)))
        generalize DL.sup S2 v _ = S3 at *
        walk_at "w"
        have hle : (prods (as.take i) bs).length ≤ as.length * bs.length := by
          rw [prods_len, List.length_take]
          exact Nat.mul_le_mul_right _ (Nat.min_le_right _ _)
        refine ⟨_, _, x2 _ _ ep, e2, by rw [List.length_map, List.length_map, List.length_map]; show _ ≤ 16777216; omega, ?_⟩
        intro w hw
        rw [← List.map_append, ← prods_take hq]
        walk_at "w"
        exact ⟨w, _, _, sup_same, (x1.trans x2).trans (Ext.new hw _), rfl⟩
    · rintro _ S1 ⟨p, o1, o2, ep, x1, rfl⟩
      rw [List.length_map, List.take_length] at ep
      walk_at "w"
      refine ⟨_, .inl ⟨p, rfl, ep⟩, ?_⟩
      walk_at "w"
      exact ⟨S, x1, h⟩
end K53
set_option Elab.async false
set_option linter.all false
set_option maxRecDepth 100000
set_option maxHeartbeats 4000000
namespace K53
open PySem PySem.Spec PyProof.Rows L2 DL
local macro_rules | `(tactic| walk_at "w") => `(tactic| conv => whnf)
local macro_rules | `(tactic| walk_at "g") => `(tactic| ((conv => whnf); repeat' (first | (refine IFB.t ?_ ?_; rfl; conv => whnf) | (refine IFB.f ?_ ?_; rfl; conv => whnf))))
set_option exponentiation.threshold 9000

theorem fig_line {u : Rat} (hu : Uq u) : ∀ k, figI u k = lineF u k
  | 0 => fig_zero hu
  | k + 1 => by
    have hd := den_pos' u
    have r0 := rI_nn u k
    have r1 := rI_lt u k
    have e1 : u.num * 2 ^ (k + 1) = 2 * rI u k + (u.den : Int) * (2 * (u.num * 2 ^ k / (u.den : Int))) := by
      have := Int.mul_ediv_add_emod (u.num * 2 ^ k) (u.den : Int)
      have e0 : u.num * 2 ^ (k + 1) = 2 * (u.num * 2 ^ k) := by rw [Int.pow_succ]; grind
      rw [e0]
      conv => lhs; rw [← this]
      show 2 * (_ + rI u k) = _
      grind
    have e2 : figI u (k + 1) = 2 * rI u k / (u.den : Int) % 2 := by
      unfold figI
      rw [e1, Int.add_mul_ediv_left _ _ (by omega)]
      omega
    rw [e2]
    have hm := dm (2 * rI u k) (u.den : Int)
    have m0 := Int.emod_nonneg (2 * rI u k) (show (u.den : Int) ≠ 0 by omega)
    have m1 := Int.emod_lt_of_pos (2 * rI u k) hd
    have q0 : 0 ≤ 2 * rI u k / (u.den : Int) := Int.ediv_nonneg (by omega) (by omega)
    have q1 : 2 * rI u k / (u.den : Int) < 2 := Int.ediv_lt_of_lt_mul hd (by omega)
    show _ = stp (restQ u k)
    have hs : restQ u k + restQ u k < 1 ↔ 2 * rI u k < (u.den : Int) := by
      have p := ratPos hd
      have n := ratNe hd
      have e : (restQ u k + restQ u k) * ((u.den : Int) : Rat) = ((2 * rI u k : Int) : Rat) := by
        rw [restQ_rI, Rat.intCast_mul]
        have : ((2 : Int) : Rat) = 2 := rfl
        rw [this]
        grind
      constructor
      · intro h
        have := Rat.mul_lt_mul_of_pos_right h p
        rw [e, Rat.one_mul] at this
        exact Rat.intCast_lt_intCast.mp this
      · intro h
        refine Rat.not_le.mp fun z => ?_
        have h2 := Rat.mul_le_mul_of_nonneg_right z (Rat.le_of_lt p)
        rw [e, Rat.one_mul] at h2
        have := Rat.intCast_le_intCast.mp h2
        omega
    unfold stp
    generalize hq : 2 * rI u k / (u.den : Int) = q at *
    rcases (show q = 0 ∨ q = 1 by omega) with z | z
    · subst z
      rw [if_pos (hs.mpr (by omega))]
      rfl
    · subst z
      rw [if_neg (fun z => by have := hs.mp z; omega)]
      rfl
theorem cut_mid (L : List Int) (m : Nat) : ∀ a i, cutK L m a ≤ i → i < a → L[i]? = L[i + m]?
  | 0, i, _, h => by omega
  | a + 1, i, h1, h2 => by
    unfold cutK at h1
    by_cases e : L[a]? = L[a + m]?
    · rw [if_pos e] at h1
      rcases Nat.lt_or_ge i a with z | z
      · exact cut_mid L m a i h1 z
      · have : i = a := by omega
        rw [this]; exact e
    · rw [if_neg e] at h1
      omega
theorem seg_at {u : Rat} {n i : Nat} (h : i < n) : (seg u 0 n)[i]? = some (lineF u i) := by
  unfold seg
  rw [List.getElem?_map, List.getElem?_range h]
  show some (lineF u (0 + i)) = _
  rw [Nat.zero_add]
def repL (A G : List Int) : Nat → List Int
  | 0 => A
  | n + 1 => repL A G n ++ G
theorem repL_len (A G : List Int) : ∀ n, (repL A G n).length = A.length + n * G.length
  | 0 => by show A.length = _; omega
  | n + 1 => by
    show (repL A G n ++ G).length = _
    rw [List.length_append, repL_len A G n, Nat.succ_mul]
    omega
theorem fig_rep {u : Rat} {j m : Nat} (hr : RepAt u j m) (hjm : j + m ≤ 512) : ∃ A G, figD u j m = .tup [figs A, figs G] ∧ A.length + G.length ≤ 513 ∧ 1 ≤ G.length ∧ G.length ≤ 512 ∧ ∀ n k, k < A.length + n * G.length → (repL A G n)[k]? = some (lineF u k) := by
  have hm := hr.m1
  have hc := cutK_le (seg u 0 (j + 1 + m)) m (j + 1)
  have hL : (seg u 0 (j + 1 + m)).length = j + 1 + m := seg_len _ _ _
  have mid := cut_mid (seg u 0 (j + 1 + m)) m (j + 1)
  have per : ∀ i, cutK (seg u 0 (j + 1 + m)) m (j + 1) ≤ i → lineF u (i + m) = lineF u i := fun i hi => by
    rcases Nat.lt_or_ge i (j + 1) with z | z
    · have := mid i hi z
      rw [seg_at (by omega), seg_at (by omega)] at this
      exact (Option.some.inj this).symm
    · obtain ⟨t, rfl⟩ : ∃ t, i = j + t + 1 := ⟨i - j - 1, by omega⟩
      rw [show j + t + 1 + m = j + m + t + 1 by omega]
      show stp (restQ u (j + m + t)) = stp (restQ u (j + t))
      rw [rest_per hr.per t]
  generalize hcc : cutK (seg u 0 (j + 1 + m)) m (j + 1) = c at *
  have hA : ((seg u 0 (j + 1 + m)).take c).length = c := by rw [List.length_take, hL]; omega
  have hG : (((seg u 0 (j + 1 + m)).drop c).take m).length = m := win (by omega)
  refine ⟨(seg u 0 (j + 1 + m)).take c, ((seg u 0 (j + 1 + m)).drop c).take m, by rw [← hcc]; rfl, by omega, by omega, by omega, fun n => ?_⟩
  have pers : ∀ n i, c ≤ i → lineF u (i + n * m) = lineF u i := fun n => by
    induction n with
    | zero => intro i _; rw [Nat.zero_mul, Nat.add_zero]
    | succ n ih =>
      intro i hi
      rw [Nat.succ_mul, ← Nat.add_assoc, per _ (by omega), ih i hi]
  induction n with
  | zero =>
    intro k hk
    rw [Nat.zero_mul, Nat.add_zero, hA] at hk
    show ((seg u 0 (j + 1 + m)).take c)[k]? = _
    rw [List.getElem?_take, if_pos hk, seg_at (by omega)]
  | succ n ih =>
    intro k hk
    rw [hA, hG] at hk ih
    rw [Nat.succ_mul] at hk
    show (repL _ _ n ++ _)[k]? = _
    have hl := repL_len ((seg u 0 (j + 1 + m)).take c) (((seg u 0 (j + 1 + m)).drop c).take m) n
    rw [hA, hG] at hl
    rcases Nat.lt_or_ge k (c + n * m) with z | z
    · rw [List.getElem?_append_left (by omega)]
      exact ih k z
    · rw [List.getElem?_append_right (by omega), hl]
      obtain ⟨t, rfl⟩ : ∃ t, k = c + n * m + t := ⟨k - (c + n * m), by omega⟩
      rw [show c + n * m + t - (c + n * m) = t by omega, win_at (by omega) (by omega), seg_at (by omega), show c + n * m + t = c + t + n * m by omega, pers n (c + t) (by omega)]
theorem frP_ne {a b : Rat} (h : a ≠ b) : PyData.eqv (.tuple [.int a.num, .int (a.den : Int)]) (.tuple [.int b.num, .int (b.den : Int)]) = false := by
  have h1 : ¬ (a.num = b.num ∧ a.den = b.den) := fun ⟨e1, e2⟩ => h (Rat.ext e1 e2)
  simp [PyData.eqv, PyData.eqvAll]
  omega
theorem frP_eq (a b : Rat) : PyData.eqv (.tuple [.int a.num, .int (a.den : Int)]) (.tuple [.int b.num, .int (b.den : Int)]) = decide (a = b) := by
  by_cases h : a = b
  · subst h
    rw [decide_eq_true rfl]
    exact SeqAt.eqv_refl _ rfl
  · rw [decide_eq_false h]
    exact frP_ne h
theorem ne_eqv (q : Rat) : (if true = true then !PyData.eqv (.tuple [.int q.num, .int (q.den : Int)]) (.tuple [.int q.num, .int (q.den : Int)]) else PyData.eqv (.tuple [.int q.num, .int (q.den : Int)]) (.tuple [.int q.num, .int (q.den : Int)])) = false := by
  have : PyData.eqv (.tuple [.int q.num, .int (q.den : Int)]) (.tuple [.int q.num, .int (q.den : Int)]) = true := SeqAt.eqv_refl _ rfl
  rw [if_pos rfl, this]; rfl
def sp_law_figures_right : DSp := fun ds S Q _ => ∃ b u, ds = [b, fr u] ∧ Uq u ∧ Q (.bl true) S
theorem ok_law_figures_right {P : Program} {w : World} {K : PySem.W.Frag} {mg : Str → Option Value} {base : Heap} (T : Txt K mg) : FnOk P w K mg base (L2.CX P w) 7 T.a_law_figures_right T.fd_law_figures_right ["bag", "number"] (toSp K sp_law_figures_right) := by
  refine fnE T.F_law_figures_right sc_law_figures_right (fun ds S Q E h => ?_) (fun cdv A outer s H E RX hr => ⟨_, (pds_cons (pd_for (passes_of rfl) rfl (pdi_range1 T.b_range (pda_cons pd_int pda_nil)) (pdg_name 2 sc_law_figures_right.nd) (pds_one (pd_ifS (PDW.pt (pdw_or (pdt_cmp (od_ne hr.units) (pd_call (takes_of rfl rfl rfl rfl) (ok_figure T) (hr.mono (by decide)) T.m_figure T.F_figure.kp T.d_figure (pda_cons (pd_var 1) (pda_cons (pd_var 2) pda_nil))) (pd_call (takes_of rfl rfl rfl rfl) (ok_law_figure T) (hr.mono (by decide)) T.m_law_figure T.F_law_figure.kp T.d_law_figure (pda_cons (pd_var 1) (pda_cons (pd_var 2) pda_nil)))) (pdw_or1 (pdt_cmp (od_ne hr.units) (pd_call (takes_of rfl rfl rfl rfl) (ok_rest T) (hr.mono (by decide)) T.m_rest T.F_rest.kp T.d_rest (pda_cons (pd_var 1) (pda_cons (pd_var 2) pda_nil))) (pd_call (takes_of rfl rfl rfl rfl) (ok_law_rest T) (hr.mono (by decide)) T.m_law_rest T.F_law_rest.kp T.d_law_rest (pda_cons (pd_var 1) (pda_cons (pd_var 2) pda_nil))))))) (pds_one (pd_ret pd_bl)) pds_nil)))
    (pds_cons (pd_asg (pd_call (takes_of rfl rfl rfl rfl) (ok_figures T) (hr.mono (by decide)) T.m_figures T.F_figures.kp T.d_figures (pda_cons (pd_var 1) pda_nil)) (pdg_tup rfl (pdgs_cons (pdg_name 3 sc_law_figures_right.nd) (pdgs_cons (pdg_name 4 sc_law_figures_right.nd) pdgs_nil))))
    (pds_cons (pd_set 5 sc_law_figures_right.nd (pd_bltTy cd_list T.b_list (by decide +kernel) (pda_cons (pd_var 3) pda_nil)))
    (pds_cons (pd_for (passes_of rfl) rfl (pdi_range1 T.b_range (pda_cons pd_int pda_nil)) (pdg_name 6 sc_law_figures_right.nd) (pds_one (pd_set 5 sc_law_figures_right.nd (pd_bin od_add (pd_var 5) (pd_bltTy cd_list T.b_list (by decide +kernel) (pda_cons (pd_var 4) pda_nil))))))
    (pds_cons (pd_for (passes_of rfl) rfl (pdi_range1 T.b_range (pda_cons (pd_bin od_add (pd_bin od_add (pd_blt cd_len T.b_len (by decide +kernel) (pda_cons (pd_var 3) pda_nil)) (pd_blt cd_len T.b_len (by decide +kernel) (pda_cons (pd_var 4) pda_nil))) pd_int) pda_nil)) (pdg_name 2 sc_law_figures_right.nd) (pds_one (pd_ifS (pdt_cmp (od_ne hr.units) (pd_ix (pd_var 5) (pd_var 2)) (pd_call (takes_of rfl rfl rfl rfl) (ok_law_figure T) (hr.mono (by decide)) T.m_law_figure T.F_law_figure.kp T.d_law_figure (pda_cons (pd_var 1) (pda_cons (pd_var 2) pda_nil)))) (pds_one (pd_ret pd_bl)) pds_nil)))
    (pds_one (pd_ret (pd_cmp (od_eq hr.units) (pd_call (takes_of rfl rfl rfl rfl) (ok_cost T) (hr.mono (by decide)) T.m_cost T.F_cost.kp T.d_cost (pda_cons (pd_var 1) pda_nil)) (pd_call (takes_of rfl rfl rfl rfl) (ok_law_cost T) (hr.mono (by decide)) T.m_law_cost T.F_law_cost.kp T.d_law_cost (pda_cons (pd_var 1) pda_nil)))))))))), fun ds S Q h => ?_⟩)
  · obtain ⟨_, _, rfl, _⟩ := h
    rfl
  · obtain ⟨b, u, rfl, hu, h⟩ := h
    have hun := hu.dle
    walk_at "w"
    refine ⟨⟨by decide, by decide⟩, for_rg (fun i ρ' S' => S' = S ∧ ∃ o, ρ' = [some b, some (fr u), o, none, none, none, none]) ⟨rfl, _, rfl⟩ ?_ ?_⟩
    · rintro i _ _ hi ⟨rfl, o, rfl⟩
      have hi : i < 12 := hi
      walk_at "w"
      rw [show (0 : Int) + (i : Int) = (i : Int) by omega]
      refine ⟨u, i, rfl, hu, by omega, ?_⟩
      walk_at "w"
      refine ⟨u, i, rfl, hu, by omega, ?_⟩
      walk_at "w"
      refine IFB.np (fun c => absurd rfl c) (fun _ => ?_)
      walk_at "w"
      refine ⟨u, i, rfl, hu, by omega, ?_⟩
      walk_at "w"
      refine ⟨u, i, rfl, hu.rb.mono (by decide), by omega, ?_⟩
      walk_at "w"
      refine ⟨_, _, pyr_fr _, pyr_fr _, rfl, rfl, ?_⟩
      refine IFB.f (ne_eqv _) ?_
      walk_at "w"
      exact ⟨rfl, _, rfl⟩
    · rintro _ s0 ⟨e_, o, rfl⟩
      subst e_
      walk_at "w"
      refine ⟨u, rfl, hu, fun j m hr hjm => ?_⟩
      obtain ⟨A, G, hf, hA, hG1, hG, hrep⟩ := fig_rep hr hjm
      rw [hf]
      walk_at "w"
      refine ⟨rfl, ?_⟩
      walk_at "w"
      intro p hp
      have ep : DL.sup s0 p (.lst (A.map D.int)) p = some (.lst (A.map D.int)) := sup_same
      have xp : Ext s0 (DL.sup s0 p (.lst (A.map D.int))) := Ext.new hp _
      generalize DL.sup s0 p _ = S1 at *
      walk_at "w"
      refine ⟨⟨by decide, by decide⟩, for_rg (fun i ρ' S' => ∃ q o1 o2, S' q = some (.lst ((repL A G i).map D.int)) ∧ Ext s0 S' ∧ ρ' = [some b, some (fr u), o1, some (figs A), some (figs G), some (.ref q), o2]) ⟨p, _, _, ep, xp, rfl⟩ ?_ ?_⟩
      · rintro i _ S2 hi ⟨q, o1, o2, eq, x2, rfl⟩
        have hi : i < 30 := hi
        have hmul : i * G.length ≤ 30 * 512 := Nat.mul_le_mul (by omega) hG
        have hrl := repL_len A G i
        walk_at "w"
        intro q2 hq2
        have e2 : DL.sup S2 q2 (.lst (G.map D.int)) q2 = some (.lst (G.map D.int)) := sup_same
        have x3 : Ext S2 (DL.sup S2 q2 (.lst (G.map D.int))) := Ext.new hq2 _
        generalize DL.sup S2 q2 _ = S3 at *
        walk_at "w"
        refine ⟨_, _, x3 _ _ eq, e2, by rw [List.length_map, List.length_map]; show _ ≤ 16777216; omega, ?_⟩
        intro w hw
        rw [← List.map_append]
        walk_at "w"
        exact ⟨w, _, _, sup_same, (x2.trans x3).trans (Ext.new hw _), rfl⟩
      · rintro _ S2 ⟨q, o1, o2, eq, x2, rfl⟩
        have eq : S2 q = some (.lst ((repL A G 30).map D.int)) := eq
        walk_at "w"
        rw [List.length_map, List.length_map]
        refine ⟨⟨by omega, by omega⟩, for_rg (fun i ρ' S' => S' = S2 ∧ ∃ o1 o2, ρ' = [some b, some (fr u), o1, some (figs A), some (figs G), some (.ref q), o2]) ⟨rfl, _, _, rfl⟩ ?_ ?_⟩
        · rintro i _ _ hi ⟨rfl, o1, o2, rfl⟩
          have hi : i < A.length + G.length + 8 := by omega
          walk_at "w"
          rw [show (0 : Int) + (i : Int) = (i : Int) by omega]
          refine ⟨_, .int (figI u i), .inl ⟨q, rfl, eq⟩, atI_nat (by rw [List.getElem?_map, hrep 30 i (by omega), fig_line hu]; rfl), ?_⟩
          walk_at "w"
          refine ⟨u, i, rfl, hu, by omega, ?_⟩
          walk_at "w"
          refine IFB.np (fun c => absurd rfl c) (fun _ => ?_)
          walk_at "w"
          exact ⟨rfl, _, _, rfl⟩
        · rintro _ S3 ⟨e_, o1, o2, rfl⟩
          subst e_
          walk_at "w"
          refine ⟨u, rfl, hu, fun j' m' hr' _ => ?_⟩
          rw [nuQ_per hr'.m1 hr'.per]
          walk_at "w"
          refine ⟨u, rfl, hu, ?_⟩
          walk_at "w"
          refine ⟨_, _, pyr_fr _, pyr_fr _, rfl, rfl, ?_⟩
          rw [if_neg (by decide), frP_eq, decide_eq_true rfl]
          exact ⟨s0, x2, h⟩
end K53
set_option Elab.async false
set_option linter.all false
set_option maxRecDepth 100000
set_option maxHeartbeats 4000000
namespace K53
open PySem PySem.Spec PyProof.Rows L2 DL
local macro_rules | `(tactic| walk_at "w") => `(tactic| conv => whnf)
local macro_rules | `(tactic| walk_at "g") => `(tactic| ((conv => whnf); repeat' (first | (refine IFB.t ?_ ?_; rfl; conv => whnf) | (refine IFB.f ?_ ?_; rfl; conv => whnf))))
set_option exponentiation.threshold 9000
theorem rat_div_le {a b : Rat} {c : Rat} (hc : 0 < c) (h : a ≤ b) : a / c ≤ b / c := by
  rw [Rat.div_def, Rat.div_def]
  exact Rat.mul_le_mul_of_nonneg_right h (Rat.le_of_lt (Rat.inv_pos.mpr hc))
theorem tail_bound {qs : List Rat} {l : Nat} (h : qs.length ≤ 2 ^ l) (e : Nat) : tailQ qs (e + l) ≤ 1 / ((2 ^ e : Int) : Rat) := by
  have h1 := Rat.le_trans (rests_sum (e + l) qs) (natR_le h)
  have h2 := ratPos (pow2_pos (e + l))
  have h3 : tailQ qs (e + l) ≤ ((2 ^ l : Nat) : Rat) / ((2 ^ (e + l) : Int) : Rat) := rat_div_le h2 h1
  have n1 := ratNe (pow2_pos e)
  have n2 := ratNe (pow2_pos l)
  have e1 : ((2 ^ l : Nat) : Rat) = ((2 ^ l : Int) : Rat) := by first | norm_cast | exact_mod_cast rfl
  rw [e1, Int.pow_add, Rat.intCast_mul] at h3
  have e2 : ((2 ^ l : Int) : Rat) / (((2 ^ e : Int) : Rat) * ((2 ^ l : Int) : Rat)) = 1 / ((2 ^ e : Int) : Rat) := by grind
  rw [e2] at h3
  exact h3
theorem within_ex {qs : List Rat} {l e : Nat} (h : qs.length ≤ 2 ^ l) (he : e + l ≤ 300) {far : Rat} (hf : 1 / ((2 ^ e : Int) : Rat) ≤ far) : ∃ K, K ≤ 300 ∧ tailQ qs K ≤ far ∧ ∀ j, j < K → far < tailQ qs j := by
  obtain ⟨K, hK, h1, h2⟩ := least_of (p := fun K => tailQ qs K ≤ far) (e + l) (Rat.le_trans (tail_bound h e) hf)
  exact ⟨K, by omega, h1, fun j hj => Rat.not_le.mp (h2 j hj)⟩

theorem lc_xsW {xs : List D} {src : Sto → Prop} {p : Pat} {tt : RT} {te : RE} {vs : List Nat} {ρ : Ro} {S : Sto} {G : Addr → Sto → List D → Prop} (W : Nat → List D → Sto → Prop) (h0 : W 0 [] S) (hq : ∀ i acc S', W i acc S' → src S')
    (hs : ∀ (i : Nat) x acc S', xs[i]? = some x → W i acc S' → Pat.put p x (dwipe ρ vs) fun ρ2 => tt ρ2 S' fun b S3 => IFB b (te ρ2 S3 fun d S4 => acc.length < sizeLine ∧ W (i + 1) (acc ++ [d]) S4) (W (i + 1) acc S3))
    (hd : ∀ S' q acc, W xs.length acc S' → S' q = none → G q S' acc) :
    ∃ W : Nat → List D → Sto → Prop, W 0 [] S ∧ ∀ i acc S', W i acc S' → src S' ∧
      (∀ x, xs[i]? = some x → Pat.put p x (dwipe ρ vs) fun ρ2 => tt ρ2 S' fun b S3 => IFB b (te ρ2 S3 fun d S4 => acc.length < sizeLine ∧ W (i + 1) (acc ++ [d]) S4) (W (i + 1) acc S3)) ∧
      (i = xs.length → ∀ p, S' p = none → G p S' acc) := by
  refine ⟨W, h0, fun i acc S' w => ⟨hq i acc S' w, fun x hx => hs i x acc S' hx w, fun h q hq => ?_⟩⟩
  subst h
  exact hd S' q acc w hq
theorem two_fr (k : Nat) : D.tup [.int 1, .int (2 ^ k)] = fr ((1 : Rat) / ((2 ^ k : Int) : Rat)) := by
  have h := fr_one (n := 2 ^ k) (Nat.two_pow_pos k)
  have e : ((2 ^ k : Nat) : Int) = (2 : Int) ^ k := by simp
  rw [e] at h
  exact h
theorem fifty_ex : ∃ q : Rat, D.tup [.int 1, .int 50] = fr q ∧ RB 3000 q ∧ 0 < q ∧ (1 : Rat) / ((2 ^ 6 : Int) : Rat) ≤ q := by
  obtain ⟨h1, h2⟩ := one_over (M := 50) (by decide)
  refine ⟨1 / (((50 : Nat) : Int) : Rat), fr_one (n := 50) (by decide), ⟨by rw [h1]; decide, by rw [h2]; decide⟩, ?_, ?_⟩
  · rw [Rat.div_def, Rat.one_mul]; exact Rat.inv_pos.mpr (ratPos (by decide))
  · decide +kernel
def pS : Option Nat → Nat → Bool
  | some m, k => decide (m ≤ k)
  | none, _ => false
theorem pS_tail (qs : List Rat) (k : Nat) : ((qs.filter fun q => !decide (restQ q k = 0)).map fr).isEmpty = pS (sureO qs) k := by
  have h := sure_tail qs k
  rw [tail_zero] at h
  have e : ((qs.filter fun q => !decide (restQ q k = 0)).map fr).isEmpty = true ↔ ∀ q ∈ qs, q.den ∣ 2 ^ k := by
    rw [List.isEmpty_iff, List.map_eq_nil_iff, List.filter_eq_nil_iff]
    constructor
    · intro z q hq
      have := z q hq
      exact den_two.mp (by simpa using this)
    · intro z q hq
      have := den_two.mpr (z q hq)
      simp [this]
  have e2 : pS (sureO qs) k = true ↔ ∃ m, sureO qs = some m ∧ m ≤ k := by
    cases sureO qs with
    | none => simp [pS]
    | some m => simp [pS]
  rw [Bool.eq_iff_iff, e, e2]
  exact h
theorem sure_le {M : Nat} {qs : List Rat} (hs : Sh (M : Int) qs) (hM : M ≤ 24) {m : Nat} (h : sureO qs = some m) : m ≤ 4 := by
  unfold sureO at h
  split at h
  · cases h
    refine mx_of fun y hy => ?_
    obtain ⟨q, hq, rfl⟩ := List.mem_map.mp hy
    have hp : 0 < M := by have := hs.pos; omega
    have hd := Nat.le_of_dvd hp (ov_den hp (hs.all q hq).2)
    have : Nat.log2 q.den < 5 := (Nat.log2_lt (by have := q.den_pos; omega)).mpr (by omega)
    show q.den.log2 ≤ 4
    omega
  · cases h
theorem pS_first {m : Nat} (h : m < 40) : ((List.range 40).filter (pS (some m))).map (fun (k : Nat) => D.int (k : Int)) ≠ [] ∧ (((List.range 40).filter (pS (some m))).map (fun (k : Nat) => D.int (k : Int)))[0]? = some (.int (m : Int)) := by
  have e : List.range 40 = (List.range m) ++ (List.range' m (40 - m)) := by
    obtain ⟨d, rfl⟩ : ∃ d, 40 - m = d := ⟨_, rfl⟩
    have h40 : (40 : Nat) = m + (40 - m) := by omega
    conv => lhs; rw [h40]
    rw [List.range_eq_range', List.range_eq_range', ← List.range'_append_1, Nat.zero_add]
  have e1 : (List.range m).filter (pS (some m)) = [] := by
    rw [List.filter_eq_nil_iff]
    intro k hk
    have := List.mem_range.mp hk
    simp [pS]
    omega
  obtain ⟨n, hn⟩ : ∃ n, 40 - m = n + 1 := ⟨40 - m - 1, by omega⟩
  rw [e, List.filter_append, e1, hn, List.range'_succ, List.nil_append, List.filter_cons]
  have : pS (some m) m = true := by simp [pS]
  rw [if_pos this]
  exact ⟨by simp, rfl⟩
def sp_law_tails_right : DSp := fun ds S Q _ => ∃ (M : Nat) (qs : List Rat), ds = [shD qs] ∧ Sh (M : Int) qs ∧ M ≤ 24 ∧ qs.length ≤ 16 ∧ Q (.bl true) S
theorem ok_law_tails_right {P : Program} {w : World} {K : PySem.W.Frag} {mg : Str → Option Value} {base : Heap} (T : Txt K mg) : FnOk P w K mg base (L2.CX P w) 7 T.a_law_tails_right T.fd_law_tails_right ["shares"] (toSp K sp_law_tails_right) := by
  refine fnE T.F_law_tails_right sc_law_tails_right (fun ds S Q E h => ?_) (fun cdv A outer s H E RX hr => ⟨_, (pds_cons (pd_for (passes_of rfl) rfl (pdi_range1 T.b_range (pda_cons pd_int pda_nil)) (pdg_name 1 sc_law_tails_right.nd) (pds_cons (pd_set 2 sc_law_tails_right.nd (pd_call (takes_of rfl rfl rfl rfl) (ok_law_times T) (hr.mono (by decide)) T.m_law_times T.F_law_times.kp T.d_law_times (pda_cons (pd_call (takes_of rfl rfl rfl rfl) (ok_law_sum T) (hr.mono (by decide)) T.m_law_sum T.F_law_sum.kp T.d_law_sum (pda_cons (pd_lc (own := [("share", 4)]) (p := .n 4) rfl sc_law_tails_right.nd (pdi_it (pd_var 0)) (blkOk_by (N := ["shares", "k", "due", "sure", "share"]) (sc := defScope s_law_tails_right) (own := [("share", 4)]) (by decide +kernel)) (fun _ _ _ _ _ => (pg_name (i := 4) sc_law_tails_right.nd rfl (by first | exact Or.inl rfl | exact Or.inr rfl))) (fun _ _ _ _ _ => pdts_nil) (fun _ _ _ _ _ => (pd_call takes0 (ok_law_rest T) (hr.mono (by decide)) T.m_law_rest T.F_law_rest.kp T.d_law_rest (pda_cons (pd_var 4) (pda_cons (pd_var 1) pda_nil))))) pda_nil)) (pda_cons (pd_tup (pda_cons pd_int (pda_cons (pd_call (takes_of rfl rfl rfl rfl) (ok_law_two T) (hr.mono (by decide)) T.m_law_two T.F_law_two.kp T.d_law_two (pda_cons (pd_var 1) pda_nil)) pda_nil))) pda_nil))))
    (pds_one (pd_ifS (pdt_cmp (od_ne hr.units) (pd_call (takes_of rfl rfl rfl rfl) (ok_least_tail T) (hr.mono (by decide)) T.m_least_tail T.F_least_tail.kp T.d_least_tail (pda_cons (pd_var 0) (pda_cons (pd_var 1) pda_nil))) (pd_var 2)) (pds_one (pd_ret pd_bl)) pds_nil))))
    (pds_cons (pd_setLc 3 (own := [("k", 1)]) (p := .n 1) rfl sc_law_tails_right.nd rfl rfl (sw_true rfl rfl rfl (by decide +kernel)) (pdi_range1 T.b_range (pda_cons pd_int pda_nil)) (blkOk_by (N := ["shares", "k", "due", "sure", "share"]) (sc := defScope s_law_tails_right) (own := [("k", 1)]) (by decide +kernel)) (fun _ _ _ _ _ => (pg_name (i := 1) sc_law_tails_right.nd rfl (by first | exact Or.inl rfl | exact Or.inr rfl))) (fun _ _ _ _ _ => (pdts_one (pdt_cmp (od_eqE hr.units) (pd_lc (own := [("share", 4)]) (p := .n 4) rfl sc_law_tails_right.nd (pdi_it (pd_var 0)) (blkOk_by (by rfl)) (fun _ _ _ _ _ => (pg_name (i := 4) sc_law_tails_right.nd rfl (by first | exact Or.inl rfl | exact Or.inr rfl))) (fun _ _ _ _ _ => (pdts_one (pdt_cmp (od_ne hr.units) (pd_call takes0 (ok_law_rest T) (hr.mono (by decide)) T.m_law_rest T.F_law_rest.kp T.d_law_rest (pda_cons (pd_var 4) (pda_cons (pd_var 1) pda_nil))) (pd_tup (pda_cons pd_int (pda_cons pd_int pda_nil)))))) (fun _ _ _ _ _ => (pd_var 4))) (pd_lst pda_nil)))) (fun _ _ _ _ _ => (pd_var 1)))
    (pds_cons (pd_ifS (pdt_cmp (od_ne hr.units) (pd_call (takes_of rfl rfl rfl rfl) (ok_surely T) (hr.mono (by decide)) T.m_surely T.F_surely.kp T.d_surely (pda_cons (pd_var 0) pda_nil)) (pd_if (pdt_cmp (od_neE hr.units) (pd_var 3) (pd_lst pda_nil)) (pd_ix (pd_var 3) pd_int) pd_non)) (pds_one (pd_ret pd_bl)) pds_nil)
    (pds_cons (pd_set 1 sc_law_tails_right.nd (pd_call (takes_of rfl rfl rfl rfl) (ok_within T) (hr.mono (by decide)) T.m_within T.F_within.kp T.d_within (pda_cons (pd_var 0) (pda_cons (pd_tup (pda_cons pd_int (pda_cons pd_int pda_nil))) pda_nil))))
    (pds_cons (pd_ifS (pdt_not (pdt_tru (pd_call (takes_of rfl rfl rfl rfl) (ok_law_under T) (hr.mono (by decide)) T.m_law_under T.F_law_under.kp T.d_law_under (pda_cons (pd_call (takes_of rfl rfl rfl rfl) (ok_least_tail T) (hr.mono (by decide)) T.m_least_tail T.F_least_tail.kp T.d_least_tail (pda_cons (pd_var 0) (pda_cons (pd_var 1) pda_nil))) (pda_cons (pd_tup (pda_cons pd_int (pda_cons pd_int pda_nil))) pda_nil))))) (pds_one (pd_ret pd_bl)) pds_nil)
    (pds_one (pd_ret (pd_or (pd_cmp (od_eq hr.units) (pd_var 1) pd_int) (pd_one (pd_not (pd_call (takes_of rfl rfl rfl rfl) (ok_law_under T) (hr.mono (by decide)) T.m_law_under T.F_law_under.kp T.d_law_under (pda_cons (pd_call (takes_of rfl rfl rfl rfl) (ok_least_tail T) (hr.mono (by decide)) T.m_least_tail T.F_least_tail.kp T.d_least_tail (pda_cons (pd_var 0) (pda_cons (pd_bin od_sub (pd_var 1) pd_int) pda_nil))) (pda_cons (pd_tup (pda_cons pd_int (pda_cons pd_int pda_nil))) pda_nil))))))))))))), fun ds S Q h => ?_⟩)
  · obtain ⟨_, _, rfl, _⟩ := h
    rfl
  · obtain ⟨M, qs, rfl, hs, hM, hl, h⟩ := h
    have hMb : ((M : Int)).natAbs < 2 ^ 5 := by rw [Int.natAbs_natCast]; show _ < 32; omega
    obtain ⟨f50, e50, rb50, p50, l50⟩ := fifty_ex
    obtain ⟨KK, hK, hK1, hK2⟩ := within_ex (qs := qs) (l := 4) (e := 6) (by show qs.length ≤ 16; omega) (by decide) l50
    have ho : ∀ k, ∀ q ∈ qs.map (restQ · k), 0 ≤ q ∧ Ov (M : Int) q := fun k q hq => by
      obtain ⟨x, hx, rfl⟩ := List.mem_map.mp hq
      exact ⟨restQ_nn x k, ov_rest hs.pos (hs.all x hx).2 k⟩
    walk_at "w"
    refine ⟨⟨by decide, by decide⟩, for_rg (fun i ρ' S' => Ext S S' ∧ ∃ o1 o2, ρ' = [some (shD qs), o1, o2, none, none]) ⟨Ext.refl S, _, _, rfl⟩ ?_ ?_⟩
    · rintro i _ S1 hi ⟨x1, o1, o2, rfl⟩
      have hi : i < 9 := hi
      walk_at "w"
      refine lc_xsm (restD i) (fun _ _ => trivial) ?_ ?_
      · rintro k x acc S2 hk w2
        obtain ⟨q, hq, rfl⟩ := fr_at hk
        walk_at "w"
        refine IFB.t rfl ?_
        walk_at "w"
        rw [show (0 : Int) + (i : Int) = (i : Int) by omega]
        refine ⟨q, i, rfl, (hs.rb hMb (List.mem_of_getElem? hq)).mono (by decide), by omega, ?_⟩
        exact lc_leafL hk w2 (by rw [List.length_map]; show _ ≤ 16777216; omega) (restD_fr _ _).symm (Ext.refl _)
      · rintro S2 v ex hv
        rw [rests_D]
        have e2 : DL.sup S2 v (.lst ((qs.map (restQ · i)).map fr)) v = some (.lst ((qs.map (restQ · i)).map fr)) := sup_same
        have x2 : Ext S2 (DL.sup S2 v (.lst ((qs.map (restQ · i)).map fr))) := Ext.new hv _
        generalize DL.sup S2 v _ = S3 at *
        walk_at "w"
        refine .inl ⟨_, qs.map (restQ · i), M, rfl, .inr (.inl ⟨v, rfl, e2⟩), hs.pos, lt_up hMb (by decide), ho i, rests_le (by omega) i, ?_⟩
        walk_at "w"
        rw [show (0 : Int) + (i : Int) = (i : Int) by omega]
        refine ⟨i, rfl, by omega, ?_⟩
        walk_at "w"
        rw [two_fr i]
        refine ⟨_, _, rfl, (rests_rb hs.pos hMb (fun q hq => (hs.all q hq).2) (by omega) i).mono (by decide), rb_div (pow2_pos i) (by decide) (lt_up (pow2_lt i) (by omega)), ?_⟩
        have eT : (qs.map (restQ · i)).sum * (1 / ((2 ^ i : Int) : Rat)) = tailQ qs i := by
          unfold tailQ
          have := ratNe (pow2_pos i)
          generalize (qs.map (restQ · i)).sum = x at *
          grind
        rw [eT]
        walk_at "w"
        refine ⟨qs, M, i, rfl, hs, lt_up hMb (by decide), by omega, by omega, ?_⟩
        walk_at "w"
        refine ⟨_, _, pyr_fr _, pyr_fr _, rfl, rfl, ?_⟩
        refine IFB.f (ne_eqv _) ?_
        walk_at "w"
        exact ⟨(x1.trans ex).trans x2, _, _, rfl⟩
    · rintro _ S1 ⟨x1, o1, o2, rfl⟩
      walk_at "w"
      refine ⟨⟨by decide, by decide⟩, ?_⟩
      refine lc_rgW (fun i acc S' => acc = ((List.range i).filter (pS (sureO qs))).map (fun (k : Nat) => D.int (k : Int)) ∧ Ext S1 S') ⟨rfl, Ext.refl _⟩ ?_ ?_
      · rintro i acc S2 hi ⟨rfl, x2⟩
        walk_at "w"
        refine lc_xsW (fun t acc' S' => acc' = ((qs.take t).filter fun q => !decide (restQ q i = 0)).map fr ∧ Ext S2 S') ⟨rfl, Ext.refl _⟩ (fun _ _ _ _ => trivial) ?_ ?_
        · rintro t x acc' S3 ht ⟨rfl, x3⟩
          obtain ⟨q, hq, rfl⟩ := fr_at ht
          have hql := (List.getElem?_eq_some_iff.mp hq).1
          walk_at "w"
          rw [show (0 : Int) + (i : Int) = (i : Int) by omega]
          refine ⟨q, i, rfl, (hs.rb hMb (List.mem_of_getElem? hq)).mono (by decide), by omega, ?_⟩
          walk_at "w"
          refine ⟨_, _, pyr_fr _, pyr_fr 0, rfl, rfl, ?_⟩
          rw [if_pos rfl, frP_eq]
          have et : (qs.take (t + 1)).filter (fun q => !decide (restQ q i = 0)) = (qs.take t).filter (fun q => !decide (restQ q i = 0)) ++ [q].filter (fun q => !decide (restQ q i = 0)) := by
            rw [List.take_succ, hq, List.filter_append]
            rfl
          by_cases hz : restQ q i = 0
          · rw [decide_eq_true hz]
            refine IFB.f rfl ?_
            refine ⟨?_, x3⟩
            rw [et, List.filter_cons, if_neg (by rw [decide_eq_true hz]; decide), List.filter_nil, List.append_nil]
          · rw [decide_eq_false hz]
            refine IFB.t rfl ?_
            walk_at "w"
            refine ⟨?_, ?_, x3⟩
            · rw [List.length_map]
              have := List.length_filter_le (fun q => !decide (restQ q i = 0)) (qs.take t)
              rw [List.length_take] at this
              show _ < 16777216
              omega
            · rw [et, List.filter_cons, if_pos (by rw [decide_eq_false hz]; decide), List.filter_nil, List.map_append]
              rfl
        · rintro S3 v acc' ⟨rfl, x3⟩ hv
          rw [List.length_map, List.take_length]
          have e3 : DL.sup S3 v (.lst ((qs.filter fun q => !decide (restQ q i = 0)).map fr)) v = some (.lst ((qs.filter fun q => !decide (restQ q i = 0)).map fr)) := sup_same
          have x4 : Ext S3 (DL.sup S3 v (.lst ((qs.filter fun q => !decide (restQ q i = 0)).map fr))) := Ext.new hv _
          generalize DL.sup S3 v _ = S4 at *
          walk_at "w"
          intro v2 hv2
          refine .inr ⟨_, .inl ⟨v, rfl, Ext.new hv2 _ _ _ e3⟩, .inl ⟨v2, rfl, sup_same⟩, ?_⟩
          have x5 : Ext S1 (DL.sup S4 v2 (.lst [])) := ((x2.trans x3).trans x4).trans (Ext.new hv2 _)
          generalize DL.sup S4 v2 _ = S5 at *
          rw [if_neg (by decide), pS_tail]
          have et : (List.range (i + 1)).filter (pS (sureO qs)) = (List.range i).filter (pS (sureO qs)) ++ [i].filter (pS (sureO qs)) := by rw [List.range_succ, List.filter_append]
          cases hp : pS (sureO qs) i with
          | false =>
            refine IFB.f rfl ?_
            refine ⟨?_, x5⟩
            rw [et, List.filter_cons, if_neg (by rw [hp]; decide), List.filter_nil, List.append_nil]
          | true =>
            refine IFB.t rfl ?_
            walk_at "w"
            rw [show (0 : Int) + (i : Int) = (i : Int) by omega]
            refine ⟨?_, ?_, x5⟩
            · rw [List.length_map]
              have := List.length_filter_le (pS (sureO qs)) (List.range i)
              rw [List.length_range] at this
              have hi : i < 40 := hi
              show _ < 16777216
              omega
            · rw [et, List.filter_cons, if_pos hp, List.filter_nil, List.map_append]
              rfl
      · rintro S2 v acc ⟨hacc, x2⟩ hv
        have hacc : acc = ((List.range 40).filter (pS (sureO qs))).map (fun (k : Nat) => D.int (k : Int)) := hacc
        subst hacc
        have e3 : DL.sup S2 v (.lst (((List.range 40).filter (pS (sureO qs))).map (fun (k : Nat) => D.int (k : Int)))) v = some (.lst (((List.range 40).filter (pS (sureO qs))).map (fun (k : Nat) => D.int (k : Int)))) := sup_same
        have x3 : Ext S (DL.sup S2 v (.lst (((List.range 40).filter (pS (sureO qs))).map (fun (k : Nat) => D.int (k : Int))))) := (x1.trans x2).trans (Ext.new hv _)
        generalize DL.sup S2 v _ = S3 at *
        walk_at "w"
        refine ⟨qs, M, rfl, hs, lt_up hMb (by decide), by omega, ?_⟩
        walk_at "w"
        intro v2 hv2
        refine .inr ⟨_, .inl ⟨v, rfl, Ext.new hv2 _ _ _ e3⟩, .inl ⟨v2, rfl, sup_same⟩, ?_⟩
        have e4 := Ext.new hv2 (.lst []) _ _ e3
        have x4 : Ext S (DL.sup S3 v2 (.lst [])) := x3.trans (Ext.new hv2 _)
        generalize DL.sup S3 v2 (.lst []) = S4 at *
        rw [if_pos rfl]
        cases hso : sureO qs with
        | none =>
          rw [show ((List.range 40).filter (pS none)).map (fun (k : Nat) => D.int (k : Int)) = [] by rfl]
          refine IFB.f rfl ?_
          walk_at "w"
          refine ⟨_, _, .non, .non, rfl, rfl, ?_⟩
          refine IFB.f rfl ?_
          walk_at "w"
          rw [e50]
          refine ⟨qs, M, f50, KK, rfl, hs, lt_up hMb (by decide), by omega, rb50, p50, by omega, hK1, hK2, ?_⟩
          walk_at "w"
          refine ⟨qs, M, KK, rfl, hs, lt_up hMb (by decide), by omega, by omega, ?_⟩
          walk_at "w"
          rw [e50]
          refine ⟨_, f50, rfl, (tail_rb hs (lt_up hMb (by decide)) (by omega) (by omega)).mono (by decide), rb50, ?_⟩
          rw [decide_eq_true hK1]
          walk_at "g"
          by_cases hk0 : (KK : Int) = 0
          · rw [decide_eq_true hk0]
            walk_at "g"
            exact ⟨S, x4, h⟩
          · rw [decide_eq_false hk0]
            walk_at "g"
            refine ⟨qs, M, KK - 1, by rw [show ((KK - 1 : Nat) : Int) = (KK : Int) - 1 by omega], hs, lt_up hMb (by decide), by omega, by omega, ?_⟩
            walk_at "w"
            rw [e50]
            refine ⟨_, f50, rfl, (tail_rb hs (lt_up hMb (by decide)) (by omega) (by omega)).mono (by decide), rb50, ?_⟩
            rw [decide_eq_false (Rat.not_le.mpr (hK2 (KK - 1) (by omega)))]
            walk_at "g"
            exact ⟨S, x4, h⟩
        | some m =>
          have hm4 := sure_le hs hM hso
          obtain ⟨f1, f2⟩ := pS_first (m := m) (by omega)
          rw [hso] at e4
          refine IFB.t (by cases hh : ((List.range 40).filter (pS (some m))).map (fun (k : Nat) => D.int (k : Int)) with
            | nil => exact absurd hh f1
            | cons _ _ => rfl) ?_
          walk_at "w"
          refine ⟨_, .int (m : Int), .inl ⟨v, rfl, e4⟩, atI_nat (j := 0) f2, ?_⟩
          walk_at "w"
          refine IFB.np (fun c => absurd rfl c) (fun _ => ?_)
          walk_at "w"
          rw [e50]
          refine ⟨qs, M, f50, KK, rfl, hs, lt_up hMb (by decide), by omega, rb50, p50, by omega, hK1, hK2, ?_⟩
          walk_at "w"
          refine ⟨qs, M, KK, rfl, hs, lt_up hMb (by decide), by omega, by omega, ?_⟩
          walk_at "w"
          rw [e50]
          refine ⟨_, f50, rfl, (tail_rb hs (lt_up hMb (by decide)) (by omega) (by omega)).mono (by decide), rb50, ?_⟩
          rw [decide_eq_true hK1]
          walk_at "g"
          by_cases hk0 : (KK : Int) = 0
          · rw [decide_eq_true hk0]
            walk_at "g"
            exact ⟨S, x4, h⟩
          · rw [decide_eq_false hk0]
            walk_at "g"
            refine ⟨qs, M, KK - 1, by rw [show ((KK - 1 : Nat) : Int) = (KK : Int) - 1 by omega], hs, lt_up hMb (by decide), by omega, by omega, ?_⟩
            walk_at "w"
            rw [e50]
            refine ⟨_, f50, rfl, (tail_rb hs (lt_up hMb (by decide)) (by omega) (by omega)).mono (by decide), rb50, ?_⟩
            rw [decide_eq_false (Rat.not_le.mpr (hK2 (KK - 1) (by omega)))]
            walk_at "g"
            exact ⟨S, x4, h⟩
end K53
set_option Elab.async false
set_option linter.all false
set_option maxRecDepth 100000
set_option maxHeartbeats 4000000
namespace K53
open PySem PySem.Spec PyProof.Rows L2 DL
local macro_rules | `(tactic| walk_at "w") => `(tactic| conv => whnf)
local macro_rules | `(tactic| walk_at "g") => `(tactic| ((conv => whnf); repeat' (first | (refine IFB.t ?_ ?_; rfl; conv => whnf) | (refine IFB.f ?_ ?_; rfl; conv => whnf))))
set_option exponentiation.threshold 9000
theorem ov_up {N M : Int} (h : 0 < N) (h' : 0 < M) {q : Rat} (o : Ov N q) : Ov (N * M) q := by
  have := ov_mul h h' o (ov_one h')
  rwa [Rat.mul_one] at this
theorem take_sum3 {qs : List Rat} {t : Nat} (h : t < qs.length) : qs.sum = (qs.take t).sum + qs[t] + (qs.drop (t + 1)).sum := by
  have e : qs = qs.take t ++ qs[t] :: qs.drop (t + 1) := by
    rw [← List.drop_eq_getElem_cons h, List.take_append_drop]
  have e2 := congrArg List.sum e
  rw [List.sum_append, List.sum_cons] at e2
  rw [e2]
  grind
theorem Sh.part {N M : Int} {qs bs : List Rat} (s : Sh N qs) (u : Sh M bs) {t : Nat} (h : t < qs.length) : Sh (N * M) (qs.take t ++ bs.map (qs[t] * ·) ++ qs.drop (t + 1)) := by
  refine ⟨Int.mul_pos s.pos u.pos, fun z => ?_, fun q hq => ?_, ?_⟩
  · have := congrArg List.length z
    have hb := List.length_pos_iff.mpr u.ne
    rw [List.length_append, List.length_append, List.length_map, List.length_nil] at this
    omega
  · rcases List.mem_append.mp hq with hq | hq
    · rcases List.mem_append.mp hq with hq | hq
      · have := s.all q (List.mem_of_mem_take hq)
        exact ⟨this.1, ov_up s.pos u.pos this.2⟩
      · obtain ⟨b, hb, rfl⟩ := List.mem_map.mp hq
        have h1 := s.all qs[t] (List.getElem_mem h)
        have h2 := u.all b hb
        exact ⟨Rat.mul_pos h1.1 h2.1, ov_mul s.pos u.pos h1.2 h2.2⟩
    · have := s.all q (List.mem_of_mem_drop hq)
      exact ⟨this.1, ov_up s.pos u.pos this.2⟩
  · rw [List.sum_append, List.sum_append, sum_mul, u.sum]
    have := take_sum3 h
    rw [s.sum] at this
    grind

theorem shapedT_frs (qs : List Rat) : SeqAt.shaped (.tuple (qs.map frP)) = true := by
  have h1 := lay_frs qs
  have h2 := dep_frs qs
  unfold SeqAt.shaped
  rw [show PyData.canLay0 (.tuple (qs.map frP)) = PyData.canLayAll0 (qs.map frP) from by simp [PyData.canLay0], h1, Bool.true_and]
  apply decide_eq_true
  simp only [PyData.depth]
  omega
theorem ne_sh (qs : List Rat) : (if true = true then !PyData.eqv (.tuple (qs.map frP)) (.tuple (qs.map frP)) else PyData.eqv (.tuple (qs.map frP)) (.tuple (qs.map frP))) = false := by
  have : PyData.eqv (.tuple (qs.map frP)) (.tuple (qs.map frP)) = true := SeqAt.eqv_refl _ (by rw [show PyData.canLay0 (.tuple (qs.map frP)) = PyData.canLayAll0 (qs.map frP) from by simp [PyData.canLay0]]; exact lay_frs qs)
  rw [if_pos rfl, this]; rfl
theorem inD_int (i : Int) (ns : List Int) : inD (.int i) (ns.map D.int) = decide (i ∈ ns) := by
  unfold DL.inD
  show ((ns.map D.int).map DL.fl).any (fun y => eqV y (.int i)) = _
  rw [List.map_map, List.any_map, Bool.eq_iff_iff, List.any_eq_true, decide_eq_true_iff]
  constructor
  · rintro ⟨n, hn, e⟩
    have e : (n == i) = true := e
    rw [← eq_of_beq e]
    exact hn
  · intro h
    exact ⟨i, h, by show (i == i) = true; simp⟩
theorem inD_nat (i : Nat) (ts : List Nat) : inD (.int (i : Int)) (ts.map fun (t : Nat) => D.int (t : Int)) = decide (i ∈ ts) := by
  have e : (ts.map fun (t : Nat) => D.int (t : Int)) = (ts.map fun (t : Nat) => (t : Int)).map D.int := by rw [List.map_map]; rfl
  rw [e, inD_int]
  apply decide_eq_decide.mpr
  constructor
  · intro h
    obtain ⟨t, ht, e⟩ := List.mem_map.mp h
    have : t = i := by omega
    rw [← this]; exact ht
  · intro h
    exact List.mem_map.mpr ⟨i, h, rfl⟩
theorem asc_ext : ∀ {xs ys : List Int}, xs.Pairwise (· < ·) → ys.Pairwise (· < ·) → (∀ k, k ∈ xs ↔ k ∈ ys) → xs = ys
  | [], [], _, _, _ => rfl
  | [], y :: ys, _, _, h => by have := (h y).mpr (by simp); cases this
  | x :: xs, [], _, _, h => by have := (h x).mp (by simp); cases this
  | x :: xs, y :: ys, hx, hy, h => by
    rw [List.pairwise_cons] at hx hy
    have e : x = y := by
      have a := (h x).mp (by simp)
      have b := (h y).mpr (by simp)
      rcases List.mem_cons.mp a with a | a
      · exact a
      rcases List.mem_cons.mp b with b | b
      · exact b.symm
      have := hx.1 y b
      have := hy.1 x a
      omega
    subst e
    congr 1
    refine asc_ext hx.2 hy.2 fun k => ?_
    constructor
    · intro hk
      rcases List.mem_cons.mp ((h k).mp (List.mem_cons_of_mem _ hk)) with z | z
      · have := hx.1 k hk; omega
      · exact z
    · intro hk
      rcases List.mem_cons.mp ((h k).mpr (List.mem_cons_of_mem _ hk)) with z | z
      · have := hy.1 k hk; omega
      · exact z
def mkps (ms : List Int) (as : List Rat) : List (Rat × Bool) := as.mapIdx fun i q => (q, decide ((i : Int) ∈ ms))
theorem mkps_fst (ms : List Int) (as : List Rat) : (mkps ms as).map (·.1) = as := by
  apply List.ext_getElem?
  intro i
  unfold mkps
  rw [List.getElem?_map, List.getElem?_mapIdx]
  cases as[i]? <;> rfl
theorem mkps_idx {ms : List Int} {as : List Rat} (hp : ms.Pairwise (· < ·)) (hr : ∀ k ∈ ms, 0 ≤ k ∧ k < as.length) : ms = (idx 0 (mkps ms as)).map fun (t : Nat) => (t : Int) := by
  refine asc_ext hp ?_ fun k => ?_
  · rw [List.pairwise_map]
    exact (idx_asc (mkps ms as) 0).imp fun h => by omega
  · constructor
    · intro hk
      obtain ⟨a, b⟩ := hr k hk
      obtain ⟨t, rfl⟩ := Int.eq_ofNat_of_zero_le a
      refine List.mem_map.mpr ⟨t, ?_, rfl⟩
      have h := idx_mem (mkps ms as) 0 t
      rw [Nat.zero_add] at h
      refine h.mpr ⟨as[t], ?_⟩
      unfold mkps
      rw [List.getElem?_mapIdx, List.getElem?_eq_getElem (by omega)]
      show some (as[t], decide ((t : Int) ∈ ms)) = _
      rw [decide_eq_true hk]
    · intro hk
      obtain ⟨t, ht, rfl⟩ := List.mem_map.mp hk
      have h := idx_mem (mkps ms as) 0 t
      rw [Nat.zero_add] at h
      obtain ⟨q, hq⟩ := h.mp ht
      unfold mkps at hq
      rw [List.getElem?_mapIdx] at hq
      cases e : as[t]? with
      | none => rw [e] at hq; cases hq
      | some x =>
        rw [e] at hq
        have := congrArg Prod.snd (Option.some.inj hq)
        exact of_decide_eq_true this
theorem any_idx {ps : List (Rat × Bool)} (h : idx 0 ps ≠ []) : ps.any (·.2) = true := by
  cases hq : idx 0 ps with
  | nil => exact absurd hq h
  | cons t ts =>
    have m := idx_mem ps 0 t
    rw [Nat.zero_add, hq] at m
    obtain ⟨q, e⟩ := m.mp (by simp)
    exact List.any_eq_true.mpr ⟨_, List.mem_of_getElem? e, rfl⟩
theorem BagD.wrN {S : Sto} {a p : Addr} {c : Int} {x : Cell} (h : BagD S a c) (hp : p ≠ a) : BagD (DL.sup S p x) a c := by
  obtain ⟨w0, w1, w2, e, r⟩ := h
  exact ⟨w0, w1, w2, by rw [sup_ne hp.symm]; exact e, r⟩
def sp_law_changed_right : DSp := fun ds S Q _ => ∃ (a : Addr) (c : Int) (as bs : List Rat) (M M' : Nat), ds = [.ref a, shD as, shD bs] ∧ BagD S a c ∧ 0 ≤ c ∧ c < 900000 ∧ Sh (M : Int) as ∧ Sh (M' : Int) bs ∧ M ≤ 24 ∧ M' ≤ 18 ∧ as.length ≤ 4 ∧ bs.length ≤ 3 ∧ ∀ S', BagD S' a (c + 10) → (∀ b, b ≠ a → S' b = S b) → Q (.bl true) S'
theorem ok_law_changed_right {P : Program} {w : World} {K : PySem.W.Frag} {mg : Str → Option Value} {base : Heap} (T : Txt K mg) : FnOk P w K mg base (L2.CX P w) 8 T.a_law_changed_right T.fd_law_changed_right ["bag", "one", "other"] (toSp K sp_law_changed_right) := by
  refine fnE T.F_law_changed_right sc_law_changed_right (fun ds S Q E h => ?_) (fun cdv A outer s H E RX hr => ⟨_, (pds_cons (pd_set 3 sc_law_changed_right.nd (pd_blt cd_len T.b_len (by decide +kernel) (pda_cons (pd_var 1) pda_nil)))
    (pds_cons (pd_set 4 sc_law_changed_right.nd (pd_bltTy cd_tuple T.b_tuple (by decide +kernel) (pda_cons (pd_sortedSet rfl T.b_sorted T.b_set (pd_lc (own := [("turn", 11)]) (p := .n 11) rfl sc_law_changed_right.nd (pdi_range1 T.b_range (pda_cons (pd_bin od_add pd_int (pd_call (takes_of rfl rfl rfl rfl) (ok_law_take T) (hr.mono (by decide)) T.m_law_take T.F_law_take.kp T.d_law_take (pda_cons (pd_var 0) (pda_cons pd_int pda_nil)))) pda_nil)) (blkOk_by (N := ["bag", "one", "other", "n", "things", "due", "thing", "told", "cut", "most", "pairs", "turn", "k", "part"]) (sc := defScope s_law_changed_right) (own := [("turn", 11)]) (by decide +kernel)) (fun _ _ _ _ _ => (pg_name (i := 11) sc_law_changed_right.nd rfl (by first | exact Or.inl rfl | exact Or.inr rfl))) (fun _ _ _ _ _ => pdts_nil) (fun _ _ _ _ _ => (pd_call takes0 (ok_law_take T) (hr.mono (by decide)) T.m_law_take T.F_law_take.kp T.d_law_take (pda_cons (pd_var 0) (pda_cons (pd_var 3) pda_nil)))))) pda_nil)))
    (pds_cons (pd_set 5 sc_law_changed_right.nd (pd_lst pda_nil))
    (pds_cons (pd_for (passes_of rfl) rfl (pdi_range1 T.b_range (pda_cons (pd_var 3) pda_nil)) (pdg_name 6 sc_law_changed_right.nd) (pds_one (pd_ifS (pdt_cmp (od_eq hr.units) (pd_var 6) (pd_ix (pd_var 4) pd_int)) (pds_one (pd_expr (pd_lm PySem.F.slot_list_append PySem.F.type_list_append md_append (pd_var 5) (pda_cons (pd_call (takes_of rfl rfl rfl rfl) (ok_law_sum T) (hr.mono (by decide)) T.m_law_sum T.F_law_sum.kp T.d_law_sum (pda_cons (pd_lc (own := [("k", 12)]) (p := .n 12) rfl sc_law_changed_right.nd (pdi_it (pd_var 4)) (blkOk_by (N := ["bag", "one", "other", "n", "things", "due", "thing", "told", "cut", "most", "pairs", "turn", "k", "part"]) (sc := defScope s_law_changed_right) (own := [("k", 12)]) (by decide +kernel)) (fun _ _ _ _ _ => (pg_name (i := 12) sc_law_changed_right.nd rfl (by first | exact Or.inl rfl | exact Or.inr rfl))) (fun _ _ _ _ _ => pdts_nil) (fun _ _ _ _ _ => (pd_ix (pd_var 1) (pd_var 12)))) pda_nil)) pda_nil)))) (pds_one (pd_ifS (pdt_cmp od_notin (pd_var 6) (pd_var 4)) (pds_one (pd_expr (pd_lm PySem.F.slot_list_append PySem.F.type_list_append md_append (pd_var 5) (pda_cons (pd_ix (pd_var 1) (pd_var 6)) pda_nil)))) pds_nil)))))
    (pds_cons (pd_set 7 sc_law_changed_right.nd (pd_call (takes_of rfl rfl rfl rfl) (ok_put_together T) (hr.mono (by decide)) T.m_put_together T.F_put_together.kp T.d_put_together (pda_cons (pd_var 1) (pda_cons (pd_var 4) pda_nil))))
    (pds_cons (pd_ifS (PDW.pt (pdw_or (pdt_cmp (od_ne hr.units) (pd_var 7) (pd_bltTy cd_tuple T.b_tuple (by decide +kernel) (pda_cons (pd_var 5) pda_nil))) (pdw_or (pdt_not (pdt_tru (pd_call (takes_of rfl rfl rfl rfl) (ok_is_shares T) (hr.mono (by decide)) T.m_is_shares T.F_is_shares.kp T.d_is_shares (pda_cons (pd_var 7) pda_nil)))) (pdw_or1 (pdt_cmp (od_ne hr.units) (pd_call (takes_of rfl rfl rfl rfl) (ok_least_mean T) (hr.mono (by decide)) T.m_least_mean T.F_least_mean.kp T.d_least_mean (pda_cons (pd_var 7) pda_nil)) (pd_call (takes_of rfl rfl rfl rfl) (ok_law_least T) (hr.mono (by decide)) T.m_law_least T.F_law_least.kp T.d_law_least (pda_cons (pd_var 7) pda_nil))))))) (pds_one (pd_ret pd_bl)) pds_nil)
    (pds_cons (pd_ifS (pdt_not (pdt_tru (pd_call (takes_of rfl rfl rfl rfl) (ok_law_under T) (hr.mono (by decide)) T.m_law_under T.F_law_under.kp T.d_law_under (pda_cons (pd_call (takes_of rfl rfl rfl rfl) (ok_least_mean T) (hr.mono (by decide)) T.m_least_mean T.F_least_mean.kp T.d_least_mean (pda_cons (pd_var 7) pda_nil)) (pda_cons (pd_call (takes_of rfl rfl rfl rfl) (ok_least_mean T) (hr.mono (by decide)) T.m_least_mean T.F_least_mean.kp T.d_least_mean (pda_cons (pd_var 1) pda_nil)) pda_nil))))) (pds_one (pd_ret pd_bl)) pds_nil)
    (pds_cons (pd_set 6 sc_law_changed_right.nd (pd_call (takes_of rfl rfl rfl rfl) (ok_law_take T) (hr.mono (by decide)) T.m_law_take T.F_law_take.kp T.d_law_take (pda_cons (pd_var 0) (pda_cons (pd_var 3) pda_nil))))
    (pds_cons (pd_set 8 sc_law_changed_right.nd (pd_call (takes_of rfl rfl rfl rfl) (ok_parted T) (hr.mono (by decide)) T.m_parted T.F_parted.kp T.d_parted (pda_cons (pd_var 1) (pda_cons (pd_var 6) (pda_cons (pd_var 2) pda_nil)))))
    (pds_cons (pd_ifS (pdt_cmp (od_ne hr.units) (pd_var 8) (pd_bin od_add (pd_bin od_add (pd_slice (pd_var 1) pdo_none (pdo_some (pd_var 6))) (pd_bltTy cd_tuple T.b_tuple (by decide +kernel) (pda_cons (pd_lc (own := [("part", 13)]) (p := .n 13) rfl sc_law_changed_right.nd (pdi_it (pd_var 2)) (blkOk_by (N := ["bag", "one", "other", "n", "things", "due", "thing", "told", "cut", "most", "pairs", "turn", "k", "part"]) (sc := defScope s_law_changed_right) (own := [("part", 13)]) (by decide +kernel)) (fun _ _ _ _ _ => (pg_name (i := 13) sc_law_changed_right.nd rfl (by first | exact Or.inl rfl | exact Or.inr rfl))) (fun _ _ _ _ _ => pdts_nil) (fun _ _ _ _ _ => (pd_call takes0 (ok_law_times T) (hr.mono (by decide)) T.m_law_times T.F_law_times.kp T.d_law_times (pda_cons (pd_ix (pd_var 1) (pd_var 6)) (pda_cons (pd_var 13) pda_nil))))) pda_nil))) (pd_slice (pd_var 1) (pdo_some (pd_bin od_add (pd_var 6) pd_int)) pdo_none))) (pds_one (pd_ret pd_bl)) pds_nil)
    (pds_cons (pd_set 9 sc_law_changed_right.nd (pd_call (takes_of rfl rfl rfl rfl) (ok_law_plus T) (hr.mono (by decide)) T.m_law_plus T.F_law_plus.kp T.d_law_plus (pda_cons (pd_call (takes_of rfl rfl rfl rfl) (ok_least_mean T) (hr.mono (by decide)) T.m_least_mean T.F_least_mean.kp T.d_least_mean (pda_cons (pd_var 1) pda_nil)) (pda_cons (pd_call (takes_of rfl rfl rfl rfl) (ok_law_times T) (hr.mono (by decide)) T.m_law_times T.F_law_times.kp T.d_law_times (pda_cons (pd_ix (pd_var 1) (pd_var 6)) (pda_cons (pd_call (takes_of rfl rfl rfl rfl) (ok_least_mean T) (hr.mono (by decide)) T.m_least_mean T.F_least_mean.kp T.d_least_mean (pda_cons (pd_var 2) pda_nil)) pda_nil))) pda_nil))))
    (pds_cons (pd_set 10 sc_law_changed_right.nd (pd_call (takes_of rfl rfl rfl rfl) (ok_both T) (hr.mono (by decide)) T.m_both T.F_both.kp T.d_both (pda_cons (pd_var 1) (pda_cons (pd_var 2) pda_nil))))
    (pds_cons (pd_ifS (PDW.pt (pdw_or (pdt_not (pdt_tru (pd_call (takes_of rfl rfl rfl rfl) (ok_law_under T) (hr.mono (by decide)) T.m_law_under T.F_law_under.kp T.d_law_under (pda_cons (pd_call (takes_of rfl rfl rfl rfl) (ok_least_mean T) (hr.mono (by decide)) T.m_least_mean T.F_least_mean.kp T.d_least_mean (pda_cons (pd_var 8) pda_nil)) (pda_cons (pd_var 9) pda_nil))))) (pdw_or1 (pdt_cmp (od_ne hr.units) (pd_var 10) (pd_call (takes_of rfl rfl rfl rfl) (ok_law_both T) (hr.mono (by decide)) T.m_law_both T.F_law_both.kp T.d_law_both (pda_cons (pd_var 1) (pda_cons (pd_var 2) pda_nil))))))) (pds_one (pd_ret pd_bl)) pds_nil)
    (pds_cons (pd_ifS (PDW.pt (pdw_or (pdt_cmp (od_ne hr.units) (pd_call (takes_of rfl rfl rfl rfl) (ok_least_mean T) (hr.mono (by decide)) T.m_least_mean T.F_least_mean.kp T.d_least_mean (pda_cons (pd_var 8) pda_nil)) (pd_call (takes_of rfl rfl rfl rfl) (ok_law_least T) (hr.mono (by decide)) T.m_law_least T.F_law_least.kp T.d_law_least (pda_cons (pd_var 8) pda_nil))) (pdw_or1 (pdt_cmp (od_ne hr.units) (pd_call (takes_of rfl rfl rfl rfl) (ok_least_mean T) (hr.mono (by decide)) T.m_least_mean T.F_least_mean.kp T.d_least_mean (pda_cons (pd_var 10) pda_nil)) (pd_call (takes_of rfl rfl rfl rfl) (ok_law_least T) (hr.mono (by decide)) T.m_law_least T.F_law_least.kp T.d_law_least (pda_cons (pd_var 10) pda_nil)))))) (pds_one (pd_ret pd_bl)) pds_nil)
    (pds_one (pd_ret (pd_call (takes_of rfl rfl rfl rfl) (ok_law_under T) (hr.mono (by decide)) T.m_law_under T.F_law_under.kp T.d_law_under (pda_cons (pd_call (takes_of rfl rfl rfl rfl) (ok_least_mean T) (hr.mono (by decide)) T.m_least_mean T.F_least_mean.kp T.d_least_mean (pda_cons (pd_var 10) pda_nil)) (pda_cons (pd_call (takes_of rfl rfl rfl rfl) (ok_law_plus T) (hr.mono (by decide)) T.m_law_plus T.F_law_plus.kp T.d_law_plus (pda_cons (pd_call (takes_of rfl rfl rfl rfl) (ok_least_mean T) (hr.mono (by decide)) T.m_least_mean T.F_least_mean.kp T.d_least_mean (pda_cons (pd_var 1) pda_nil)) (pda_cons (pd_call (takes_of rfl rfl rfl rfl) (ok_least_mean T) (hr.mono (by decide)) T.m_least_mean T.F_least_mean.kp T.d_least_mean (pda_cons (pd_var 2) pda_nil)) pda_nil))) pda_nil))))))))))))))))))), fun ds S Q h => ?_⟩)
  · obtain ⟨_, _, _, _, _, _, rfl, _⟩ := h
    rfl
  · obtain ⟨a, c, as, bs, M, M', rfl, hd, hc0, hc, hs, hs', hM, hM', hl, hl', h⟩ := h
    have hn : 0 < as.length := List.length_pos_iff.mpr hs.ne
    have hMp : 0 < M := by have := hs.pos; omega
    have hMp' : 0 < M' := by have := hs'.pos; omega
    have hMM : M * M' ≤ 24 * 18 := Nat.mul_le_mul hM hM'
    have dM : Dok M := ⟨hMp, .inl (by omega)⟩
    have dM' : Dok M' := ⟨hMp', .inl (by omega)⟩
    have dMM : Dok (M * M') := ⟨Nat.mul_pos hMp hMp', .inl (by omega)⟩
    walk_at "w"
    refine ⟨a, 3, c, rfl, hd, by omega, by decide, by decide, ?_⟩
    rintro t S1 t0 t1 hd1 fr1
    walk_at "w"
    rw [List.length_map]
    refine ⟨⟨by omega, by omega⟩, ?_⟩
    refine lc_rgW (fun i acc S' => ∃ ws : List Int, acc = ws.map D.int ∧ ws.length = i ∧ (∀ w ∈ ws, 0 ≤ w ∧ w < (as.length : Int)) ∧ BagD S' a (c + 1 + i) ∧ ∀ b, b ≠ a → S' b = S b) ⟨[], rfl, rfl, (fun _ z => nomatch z), hd1.mono (by omega), fr1⟩ ?_ ?_
    · rintro i acc S2 hi ⟨ws, rfl, hwl, hw, hd2, fr2⟩
      walk_at "w"
      refine IFB.t rfl ?_
      walk_at "w"
      refine ⟨a, (as.length : Int), _, rfl, hd2, by omega, by omega, by omega, ?_⟩
      rintro f S3 f0 f1 hd3 fr3
      refine ⟨by rw [List.length_map]; show _ < 16777216; omega, ws ++ [f], by rw [List.map_append]; rfl, by rw [List.length_append, hwl]; rfl, fun w hw2 => ?_, hd3.mono (by omega), fun b hb => (fr3 b hb).trans (fr2 b hb)⟩
      rcases List.mem_append.mp hw2 with z | z
      · exact hw w z
      · cases List.mem_singleton.mp z; omega
    · rintro S2 q acc ⟨ws, rfl, hwl, hw, hd2, fr2⟩ hq
      have hlm : ws.length = (1 + t).toNat := hwl
      have hqa := hd2.ne hq
      have e2 : DL.sup S2 q (.lst (ws.map D.int)) q = some (.lst (ws.map D.int)) := sup_same
      have hd4 := hd2.sup (x := .lst (ws.map D.int)) hq
      have fr4 : ExtB a S (DL.sup S2 q (.lst (ws.map D.int))) := (ExtB.of fr2).wr (by rw [← fr2 q hqa]; exact hq)
      generalize DL.sup S2 q _ = S4 at *
      walk_at "w"
      refine ⟨ws, .inl ⟨q, rfl, e2⟩, by omega, fun ms p hpw hmem hp => ?_⟩
      have e5 : DL.sup S4 p (.lst (ms.map D.int)) p = some (.lst (ms.map D.int)) := sup_same
      have hd5 := hd4.sup (x := .lst (ms.map D.int)) hp
      have fr5 := fr4.trans (ExtB.ext (a := a) (Ext.new hp (.lst (ms.map D.int))))
      generalize DL.sup S4 p _ = S5 at *
      walk_at "w"
      refine ⟨_, .inl ⟨p, rfl, e5⟩, ?_⟩
      have hms : ms ≠ [] := fun z => by
        cases hww : ws with
        | nil => rw [hww] at hlm; have : (0 : Nat) = (1 + t).toNat := hlm; omega
        | cons w _ => have := (hmem w).mpr (by rw [hww]; simp); rw [z] at this; cases this
      have hidx := mkps_idx hpw fun k hk => hw k ((hmem k).mp hk)
      have hfst := mkps_fst ms as
      have hany := any_idx (ps := mkps ms as) fun z => by rw [z] at hidx; exact hms hidx
      have eT : D.tup (ms.map D.int) = nts (idx 0 (mkps ms as)) := by
        conv => lhs; rw [hidx]
        unfold nts
        rw [List.map_map]
        rfl
      rw [eT]
      generalize mkps ms as = ps at *
      subst hfst
      clear hidx eT e5 hmem hpw
      have hsel : ∀ q ∈ sel ps, 0 ≤ q ∧ Ov (M : Int) q := fun q hq => ⟨Rat.le_of_lt (hs.all q (sel_mem hq)).1, (hs.all q (sel_mem hq)).2⟩
      have h1 : (sel ps).sum ≤ 1 := hs.sum ▸ sel_le fun q hq => Rat.le_of_lt (hs.all q hq).1
      have hil := idx_len ps 0
      have hpl : (ps.map (·.1)).length = ps.length := by rw [List.length_map]
      rw [hpl] at hn hl
      have hMb : ((M : Int)).natAbs < 2 ^ 5 := by rw [Int.natAbs_natCast]; show _ < 32; omega
      have hMb' : ((M' : Int)).natAbs < 2 ^ 5 := by rw [Int.natAbs_natCast]; show _ < 32; omega
      have hts : ∃ t, (idx 0 ps).head? = some t := by
        cases hq : idx 0 ps with
        | nil => exact absurd hq (idx_ne hany)
        | cons t _ => exact ⟨t, rfl⟩
      obtain ⟨t9, ht9⟩ := hts
      have ht0 : (idx 0 ps)[0]? = some t9 := by rw [← List.head?_eq_getElem?]; exact ht9
      walk_at "w"
      intro u hu
      have hua := hd5.ne hu
      have hSu : S u = none := fr5.free hua hu
      have eu : DL.sup S5 u (.lst []) u = some (.lst []) := sup_same
      have hd6 := hd5.sup (x := .lst []) hu
      have fr6 := fr5.trans (ExtB.ext (a := a) (Ext.new hu (.lst [])))
      generalize DL.sup S5 u _ = S6 at *
      walk_at "w"
      rw [hpl]
      refine ⟨⟨by omega, by omega⟩, for_rg (fun i ρ' S' => S' u = some (.lst ((tog (sel ps).sum (ps.take i)).map fr)) ∧ BagD S' a (c + 4) ∧ ExtB a S S' ∧ ∃ o1, ρ' = [some (.ref a), some (shD (ps.map (·.1))), some (shD bs), some (.int (ps.length : Int)), some (nts (idx 0 ps)), some (.ref u), o1, none, none, none, none, none, none, none]) ⟨by rw [List.take_zero]; exact eu, hd6.mono (by omega), fr6, _, by rw [← hpl]; rfl⟩ ?_ ?_⟩
      · rintro i _ S7 hi ⟨e7, hd7, fr7, o1, rfl⟩
        have hil' : i < ps.length := by omega
        have e : ps[i]? = some ps[i] := List.getElem?_eq_getElem hil'
        cases hqb : ps[i] with
        | mk q b =>
        rw [hqb] at e
        have htk : ps.take (i + 1) = ps.take i ++ [(q, b)] := by rw [List.take_succ, e]; rfl
        have hhd := idx_head ps 0 i
        rw [Nat.zero_add, ht9] at hhd
        have hlen : (tog (sel ps).sum (ps.take i)).length ≤ i := by
          have := tog_len (sel ps).sum (ps.take i)
          rw [List.length_take] at this
          omega
        have hin : inD (.int (i : Int)) ((idx 0 ps).map fun (t : Nat) => D.int (t : Int)) = b := by
          rw [inD_nat]
          have := idx_mem ps 0 i
          rw [Nat.zero_add, e] at this
          cases b with
          | true => exact decide_eq_true (this.mpr ⟨q, rfl⟩)
          | false => exact decide_eq_false fun z => by obtain ⟨_, z⟩ := this.mp z; cases z
        walk_at "w"
        rw [show (0 : Int) + (i : Int) = (i : Int) from Int.zero_add _]
        refine ⟨.int (t9 : Int), atI_nat (j := 0) (by rw [List.getElem?_map, ht0]; rfl), ?_⟩
        walk_at "w"
        refine IFB.p (fun c => ?_) (fun c => ?_)
        · have ct : t9 = i := by omega
          subst ct
          obtain ⟨⟨q', hq'⟩, hany2⟩ := hhd.mp rfl
          rw [e] at hq'
          cases (Option.some.inj hq')
          walk_at "w"
          refine ⟨⟨_, e7⟩, ?_⟩
          walk_at "w"
          refine lc_xsm (pickD (ps.map (·.1))) (fun _ _ => trivial) ?_ ?_
          · rintro k x acc S8 hk w8
            rw [List.getElem?_map] at hk
            cases e9 : (idx 0 ps)[k]? with
            | none => rw [e9] at hk; cases hk
            | some t =>
              have hk' := hk
              rw [e9] at hk
              cases (Option.some.inj hk)
              have htl := idx_lt ps t (List.mem_of_getElem? e9)
              have ht2 : (ps.map (·.1))[t]? = some (ps.map (·.1))[t] := List.getElem?_eq_getElem (by omega)
              walk_at "w"
              refine IFB.t rfl ?_
              walk_at "w"
              refine ⟨fr (ps.map (·.1))[t], atI_nat (by rw [List.getElem?_map, ht2]; rfl), ?_⟩
              refine lc_leafL (by rw [List.getElem?_map, e9]; rfl) w8 (by rw [List.length_map]; show _ ≤ 16777216; omega) ?_ (Ext.refl _)
              show _ = fr ((ps.map (·.1))[((t : Int)).toNat]?.getD 0)
              rw [Int.toNat_natCast, ht2]
              rfl
          · rintro S8 v ex hv
            rw [sel_vals]
            have e8 := ex _ _ e7
            have ev : DL.sup S8 v (.lst ((sel ps).map fr)) v = some (.lst ((sel ps).map fr)) := sup_same
            have e9 := Ext.new hv (.lst ((sel ps).map fr)) _ _ e8
            have x9 := ex.trans (Ext.new hv (.lst ((sel ps).map fr)))
            generalize DL.sup S8 v _ = S9 at *
            walk_at "w"
            refine .inl ⟨_, sel ps, M, rfl, .inr (.inl ⟨v, rfl, ev⟩), hs.pos, lt_up hMb (by decide), hsel, Rat.le_trans h1 (by decide +kernel), ?_⟩
            walk_at "w"
            refine ⟨_, e9, by rw [List.length_map]; show _ < 16777216; omega, ?_⟩
            walk_at "w"
            exact ⟨by rw [sup_same, htk, tog_push, if_pos rfl, if_neg (by rw [hany2]; decide), List.map_append]; rfl, (hd7.ext x9).wrN hua, (fr7.trans (ExtB.ext x9)).wr hSu, _, rfl⟩
        · have ct : t9 ≠ i := by omega
          walk_at "w"
          refine ⟨rfl, by simp [fb], ?_⟩
          rw [hin]
          cases b with
          | true =>
            refine IFB.f rfl ?_
            walk_at "w"
            have hany2 : (ps.take i).any (·.2) = true := by
              cases hq : (ps.take i).any (·.2) with
              | true => rfl
              | false => exact absurd (Option.some.inj (hhd.mpr ⟨⟨q, e⟩, hq⟩)) ct
            exact ⟨by rw [e7, htk, tog_push, if_pos rfl, if_pos hany2, List.append_nil], hd7, fr7, _, rfl⟩
          | false =>
            refine IFB.t rfl ?_
            walk_at "w"
            refine ⟨⟨_, e7⟩, ?_⟩
            walk_at "w"
            refine ⟨fr q, atI_nat (by rw [List.getElem?_map, List.getElem?_map, e]; rfl), ?_⟩
            walk_at "w"
            refine ⟨_, e7, by rw [List.length_map]; show _ < 16777216; omega, ?_⟩
            walk_at "w"
            exact ⟨by rw [sup_same, htk, tog_push, if_neg (show ¬ (false = true) by decide), List.map_append]; rfl, hd7.wrN hua, fr7.wr hSu, _, rfl⟩
      · rintro _ S7 ⟨e7, hd7, fr7, o1, rfl⟩
        rw [show (ps.length : Int).toNat = ps.length from Int.toNat_natCast _, List.take_length] at e7
        have ht := hs.tog hany
        have htl := tog_len (sel ps).sum ps
        have hpts := Pts.of dM hs (by omega)
        have hTl : (tog (sel ps).sum ps).length ≤ 1000 := by omega
        walk_at "w"
        refine ⟨M, ps, rfl, hs, lt_up hMb (by decide), hany, by omega, ?_⟩
        walk_at "w"
        refine ⟨_, .inl ⟨u, rfl, e7⟩, ?_⟩
        walk_at "w"
        refine ⟨_, _, .tup (pyrs_frs _), .tup (pyrs_frs _), shapedT_frs _, shapedT_frs _, ?_⟩
        refine IFB.f (ne_sh _) ?_
        walk_at "w"
        refine ⟨_, M, rfl, ht, lt_up hMb (by decide), by omega, ?_⟩
        walk_at "g"
        refine ⟨M, _, rfl, dM, ht, hTl, ?_⟩
        walk_at "w"
        refine ⟨M, _, rfl, .of dM ht hTl, ?_⟩
        walk_at "w"
        refine ⟨_, _, pyr_fr _, pyr_fr _, rfl, rfl, ?_⟩
        refine IFB.f (ne_eqv _) ?_
        walk_at "w"
        refine ⟨M, _, rfl, dM, ht, hTl, ?_⟩
        walk_at "w"
        refine ⟨M, _, rfl, dM, hs, by omega, ?_⟩
        walk_at "w"
        refine ⟨_, _, rfl, (Pts.of dM ht hTl).rb.mono (by decide), hpts.rb.mono (by decide), ?_⟩
        rw [decide_eq_true (H_together ps hany)]
        walk_at "g"
        refine ⟨a, (ps.length : Int), _, rfl, hd7, by omega, by omega, by omega, ?_⟩
        rintro f S8 f0 f1 hd8 fr8
        obtain ⟨tt, rfl⟩ := Int.eq_ofNat_of_zero_le f0
        have htt : tt < (ps.map (·.1)).length := by omega
        have fr9 : ExtB a S S8 := fr7.trans (.of fr8)
        clear fr7 fr8 e7
        generalize ps.map (·.1) = one at *
        have et : one[tt]? = some one[tt] := List.getElem?_eq_getElem htt
        walk_at "w"
        refine ⟨one, bs, M, M', tt, rfl, hs, hs', lt_up hMb (by decide), lt_up hMb' (by decide), by omega, by omega, htt, ?_⟩
        have hcut := Sh.part hs hs' htt
        have hcutH := H_parted (M := M') (t := tt) (fun q hq => Sh.all01 hs q hq) hs' htt
        rw [et, Option.getD_some] at hcutH ⊢
        walk_at "w"
        refine lc_xsm (mulD one[tt]) (fun _ _ => trivial) ?_ ?_
        · rintro k x acc S9 hk w9
          obtain ⟨b, hb2, rfl⟩ := fr_at hk
          walk_at "w"
          refine IFB.t rfl ?_
          walk_at "w"
          refine ⟨fr one[tt], atI_nat (by rw [List.getElem?_map, et]; rfl), ?_⟩
          walk_at "w"
          refine ⟨_, b, rfl, (hs.rb hMb (List.getElem_mem htt)).mono (by decide), (hs'.rb hMb' (List.mem_of_getElem? hb2)).mono (by decide), ?_⟩
          exact lc_leafL hk w9 (by rw [List.length_map]; show _ ≤ 16777216; omega) (mulD_fr _ _).symm (Ext.refl _)
        · rintro S9 v ex hv
          rw [mulD_map]
          have ev : DL.sup S9 v (.lst ((bs.map fun b => one[tt] * b).map fr)) v = some (.lst ((bs.map fun b => one[tt] * b).map fr)) := sup_same
          have x9 := ex.trans (Ext.new hv (.lst ((bs.map fun b => one[tt] * b).map fr)))
          have hd9 := hd8.ext x9
          have fr10 := fr9.trans (ExtB.ext (a := a) x9)
          clear hd8 fr9 x9 ex
          generalize DL.sup S9 v _ = S10 at *
          walk_at "w"
          refine ⟨_, .inl ⟨v, rfl, ev⟩, ?_⟩
          walk_at "w"
          rw [cut_to (by rw [List.length_map]; omega)]
          refine ⟨by rw [List.length_take, List.length_map, List.length_map, List.length_map]; show _ ≤ 16777216; omega, ?_⟩
          walk_at "w"
          rw [show (tt : Int) + 1 = ((tt + 1 : Nat) : Int) by omega, cut_from (by rw [List.length_map]; omega)]
          refine ⟨by rw [List.length_append, List.length_take, List.length_drop, List.length_map, List.length_map, List.length_map]; show _ ≤ 16777216; omega, ?_⟩
          rw [show List.take tt (one.map fr) ++ (bs.map fun b => one[tt] * b).map fr ++ List.drop (tt + 1) (one.map fr) = (one.take tt ++ bs.map (fun b => one[tt] * b) ++ one.drop (tt + 1)).map fr by rw [List.map_append, List.map_append, List.map_take, List.map_drop]]
          walk_at "w"
          refine ⟨_, _, .tup (pyrs_frs _), .tup (pyrs_frs _), shapedT_frs _, shapedT_frs _, ?_⟩
          refine IFB.f (ne_sh _) ?_
          have hcl : (one.take tt ++ bs.map (fun b => one[tt] * b) ++ one.drop (tt + 1)).length ≤ 1000 := by
            rw [List.length_append, List.length_append, List.length_take, List.length_drop, List.length_map]
            omega
          have hcut : Sh ((M * M' : Nat) : Int) (one.take tt ++ bs.map (fun b => one[tt] * b) ++ one.drop (tt + 1)) := by rw [Int.natCast_mul]; exact hcut
          generalize one.take tt ++ bs.map (fun b => one[tt] * b) ++ one.drop (tt + 1) = cut at *
          have rbO := hpts.rb
          have rbB := (Pts.of dM' hs' (by omega)).rb
          have rbC := (Pts.of dMM hcut hcl).rb
          have rb1 := hs.rb hMb (List.getElem_mem htt)
          have hpr : Sh ((M * M' : Nat) : Int) (prods one bs) := by rw [Int.natCast_mul]; exact hs.prods hs'
          have hpl2 : (prods one bs).length ≤ 1000 := by rw [prods_len]; exact Nat.le_trans (Nat.mul_le_mul (show one.length ≤ 4 by omega) hl') (by decide)
          have hboth := H_both hs hs'
          have rbP := (Pts.of dMM hpr hpl2).rb
          walk_at "w"
          refine ⟨M, one, rfl, dM, hs, by omega, ?_⟩
          walk_at "w"
          refine ⟨fr one[tt], atI_nat (by rw [List.getElem?_map, et]; rfl), ?_⟩
          walk_at "w"
          refine ⟨M', bs, rfl, dM', hs', by omega, ?_⟩
          walk_at "w"
          refine ⟨_, _, rfl, rb1.mono (by decide), rbB.mono (by decide), ?_⟩
          walk_at "w"
          refine ⟨_, _, rfl, rbO.mono (by decide), (rb_mul rb1 rbB).mono (by decide), ?_⟩
          walk_at "w"
          refine ⟨one, bs, M, M', rfl, hs, hs', lt_up hMb (by decide), lt_up hMb' (by decide), by omega, by omega, ?_⟩
          walk_at "w"
          refine ⟨M * M', cut, rfl, dMM, hcut, hcl, ?_⟩
          walk_at "w"
          refine ⟨_, _, rfl, rbC.mono (by decide), (rb_add rbO (rb_mul rb1 rbB)).mono (by decide), ?_⟩
          rw [decide_eq_true hcutH]
          walk_at "g"
          refine ⟨one, bs, rfl, fun q hq => (hs.rb hMb hq).mono (by decide), fun q hq => (hs'.rb hMb' hq).mono (by decide), by omega, by omega, ?_⟩
          walk_at "w"
          refine ⟨_, _, .tup (pyrs_frs _), .tup (pyrs_frs _), shapedT_frs _, shapedT_frs _, ?_⟩
          refine IFB.f (ne_sh _) ?_
          walk_at "w"
          refine ⟨M * M', cut, rfl, dMM, hcut, hcl, ?_⟩
          walk_at "w"
          refine ⟨M * M', cut, rfl, .of dMM hcut hcl, ?_⟩
          walk_at "w"
          refine ⟨_, _, pyr_fr _, pyr_fr _, rfl, rfl, ?_⟩
          refine IFB.f (ne_eqv _) ?_
          walk_at "w"
          refine ⟨M * M', _, rfl, dMM, hpr, hpl2, ?_⟩
          walk_at "w"
          refine ⟨M * M', _, rfl, .of dMM hpr hpl2, ?_⟩
          walk_at "w"
          refine ⟨_, _, pyr_fr _, pyr_fr _, rfl, rfl, ?_⟩
          refine IFB.f (ne_eqv _) ?_
          walk_at "w"
          refine ⟨M * M', _, rfl, dMM, hpr, hpl2, ?_⟩
          walk_at "w"
          refine ⟨M, one, rfl, dM, hs, by omega, ?_⟩
          walk_at "w"
          refine ⟨M', bs, rfl, dM', hs', by omega, ?_⟩
          walk_at "w"
          refine ⟨_, _, rfl, rbO.mono (by decide), rbB.mono (by decide), ?_⟩
          walk_at "w"
          refine ⟨_, _, rfl, rbP.mono (by decide), (rb_add rbO rbB).mono (by decide), ?_⟩
          rw [decide_eq_true hboth]
          exact ⟨keepA a S _, keepA_ext fr10, h _ (hd9.keep.mono (by omega)) keepA_ne⟩
end K53
set_option Elab.async false
set_option linter.all false
set_option maxRecDepth 100000
set_option maxHeartbeats 4000000
namespace K53
open PySem PySem.Spec PyProof.Rows L2 DL
local macro_rules | `(tactic| walk_at "w") => `(tactic| conv => whnf)
local macro_rules | `(tactic| walk_at "g") => `(tactic| ((conv => whnf); repeat' (first | (refine IFB.t ?_ ?_; rfl; conv => whnf) | (refine IFB.f ?_ ?_; rfl; conv => whnf))))
set_option exponentiation.threshold 9000

theorem prods_app (xs ys zs : List Rat) : prods (xs ++ ys) zs = prods xs zs ++ prods ys zs := by unfold prods; rw [List.flatMap_append]
theorem prods_map (x : Rat) (zs : List Rat) : ∀ ys : List Rat, prods (ys.map fun b => x * b) zs = (prods ys zs).map fun b => x * b
  | [] => rfl
  | y :: ys => by
    have e1 : prods ((y :: ys).map fun b => x * b) zs = (zs.map fun b => (x * y) * b) ++ prods (ys.map fun b => x * b) zs := rfl
    have e2 : prods (y :: ys) zs = (zs.map fun b => y * b) ++ prods ys zs := rfl
    rw [e1, e2, List.map_append, prods_map x zs ys, List.map_map]
    congr 1
    apply List.map_congr_left
    intro b _
    exact Rat.mul_assoc x y b
theorem prods_assoc (ys zs : List Rat) : ∀ xs : List Rat, prods (prods xs ys) zs = prods xs (prods ys zs)
  | [] => rfl
  | x :: xs => by
    have e1 : prods (x :: xs) ys = (ys.map fun b => x * b) ++ prods xs ys := rfl
    have e2 : prods (x :: xs) (prods ys zs) = ((prods ys zs).map fun b => x * b) ++ prods xs (prods ys zs) := rfl
    rw [e1, e2, prods_app, prods_map, prods_assoc ys zs xs]
theorem prods_one (as : List Rat) : prods as [1] = as := by
  induction as with
  | nil => rfl
  | cons a as ih =>
    have e : prods (a :: as) [1] = [a * 1] ++ prods as [1] := rfl
    rw [e, ih, Rat.mul_one]
    rfl
theorem pw_left (qs : List Rat) : ∀ k, prods qs (pw qs k) = pw qs (k + 1)
  | 0 => by show prods qs [1] = prods [1] qs; rw [prods_one, one_prods]
  | k + 1 => by
    show prods qs (prods (pw qs k) qs) = prods (pw qs (k + 1)) qs
    rw [← prods_assoc, pw_left qs k]
theorem H_pw {N : Int} {qs : List Rat} (h : Sh N qs) : ∀ k : Nat, HQ (pw qs k) ≤ (((k : Int) : Int) : Rat) * HQ qs
  | 0 => by
    show HQ [1] ≤ ((0 : Int) : Rat) * HQ qs
    rw [HQ_cons, HQ_nil, nu_one, show ((0 : Int) : Rat) = 0 from rfl, Rat.zero_mul, Rat.add_zero]
    exact Rat.le_refl
  | k + 1 => by
    have a := H_pw h k
    have b : HQ (pw qs (k + 1)) ≤ HQ (pw qs k) + HQ qs := H_both (pw_shk h k) h
    have e : ((((k + 1 : Nat) : Int) : Int) : Rat) = ((k : Int) : Rat) + 1 := by rw [Int.natCast_add, Rat.intCast_add]; rfl
    rw [e]
    grind
theorem dok_pow {M k : Nat} (h0 : 0 < M) (h1 : M ≤ 9) (h2 : k ≤ 3) : Dok (M ^ k) := by
  have := (by decide +kernel : ∀ M : Nat, M < 10 → 0 < M → ∀ k : Nat, k < 4 → 0 < M ^ k ∧ (M ^ k ≤ 512 ∨ M ^ k = 729)) M (by omega) h0 k (by omega)
  exact ⟨this.1, this.2⟩
theorem fr_int (z : Int) : D.tup [.int z, .int 1] = fr ((z : Int) : Rat) := rfl
theorem fr_neg (q : Rat) : D.tup [.int (-q.num), .int (q.den : Int)] = fr (-q) := rfl
theorem eV_rb {n : Nat} (hn : Dok n) : RB 3000 (((n : Int) : Rat)) := ⟨hn.lt (by decide), by show 1 < _; decide +kernel⟩
theorem fact_step : ∀ i : Nat, i < 5 → (Builtin.Math.factorialNat i : Int) * (1 + (i : Int)) = (Builtin.Math.factorialNat (i + 1) : Int) ∧ Builtin.Math.factorialNat i ≤ 120 := by decide +kernel
theorem fact_dok : ∀ i : Nat, i < 6 → 0 < Builtin.Math.factorialNat i ∧ Builtin.Math.factorialNat i ≤ 512 := by decide +kernel
theorem comb_step : ∀ n : Nat, n < 6 → ∀ i : Nat, i < n → PySem.W.mcComb n i * ((n : Int) - (i : Int)) / ((i : Int) + 1) = PySem.W.mcComb n ((i + 1 : Nat) : Int) := by decide +kernel
theorem comb_dok : ∀ n : Nat, n < 6 → ∀ k : Nat, k < n + 1 → 0 < PySem.W.mcComb n k ∧ PySem.W.mcComb n k ≤ 512 := by decide +kernel
theorem comb_zero : ∀ n : Nat, n < 6 → PySem.W.mcComb n ((0 : Nat) : Int) = 1 := by decide +kernel
def sp_law_rows_right : DSp := fun ds S Q _ => ∃ (a : Addr) (c : Int) (qs : List Rat) (M : Nat), ds = [.ref a, shD qs] ∧ BagD S a c ∧ 0 ≤ c ∧ c < 900000 ∧ Sh (M : Int) qs ∧ M ≤ 9 ∧ qs.length ≤ 3 ∧ ∀ S', BagD S' a (c + 10) → (∀ b, b ≠ a → S' b = S b) → Q (.bl true) S'
theorem ok_law_rows_right {P : Program} {w : World} {K : PySem.W.Frag} {mg : Str → Option Value} {base : Heap} (T : Txt K mg) : FnOk P w K mg base (L2.CX P w) 8 T.a_law_rows_right T.fd_law_rows_right ["bag", "shares"] (toSp K sp_law_rows_right) := by
  refine fnD T.F_law_rows_right sc_law_rows_right (fun ds S Q E h => ?_) (fun cdv A outer s H E RX hr => ⟨_, (pds_cons (pd_par 2 3 rfl sc_law_rows_right.nd (pda_cons (pd_bin od_add pd_int (pd_call (takes_of rfl rfl rfl rfl) (ok_law_take T) (hr.mono (by decide)) T.m_law_take T.F_law_take.kp T.d_law_take (pda_cons (pd_var 0) (pda_cons pd_int pda_nil)))) (pda_cons (pd_var 1) pda_nil)) rfl)
    (pds_cons (pd_for (passes_of rfl) rfl (pdi_range1 T.b_range (pda_cons (pd_bin od_sub (pd_var 2) pd_int) pda_nil)) (pdg_name 4 sc_law_rows_right.nd) (pds_one (pd_set 3 sc_law_rows_right.nd (pd_call (takes_of rfl rfl rfl rfl) (ok_law_both T) (hr.mono (by decide)) T.m_law_both T.F_law_both.kp T.d_law_both (pda_cons (pd_var 1) (pda_cons (pd_var 3) pda_nil))))))
    (pds_cons (pd_set 5 sc_law_rows_right.nd (pd_call (takes_of rfl rfl rfl rfl) (ok_law_least T) (hr.mono (by decide)) T.m_law_least T.F_law_least.kp T.d_law_least (pda_cons (pd_var 3) pda_nil)))
    (pds_cons (pd_ifS (PDW.pt (pdw_or (pdt_cmp (od_ne hr.units) (pd_call (takes_of rfl rfl rfl rfl) (ok_many T) (hr.mono (by decide)) T.m_many T.F_many.kp T.d_many (pda_cons (pd_var 1) (pda_cons (pd_var 2) pda_nil))) (pd_var 3)) (pdw_or1 (pdt_cmp (od_ne hr.units) (pd_call (takes_of rfl rfl rfl rfl) (ok_least_mean T) (hr.mono (by decide)) T.m_least_mean T.F_least_mean.kp T.d_least_mean (pda_cons (pd_var 3) pda_nil)) (pd_var 5))))) (pds_one (pd_ret pd_bl)) pds_nil)
    (pds_cons (pd_set 6 sc_law_rows_right.nd (pd_call (takes_of rfl rfl rfl rfl) (ok_law_plus T) (hr.mono (by decide)) T.m_law_plus T.F_law_plus.kp T.d_law_plus (pda_cons (pd_call (takes_of rfl rfl rfl rfl) (ok_law_times T) (hr.mono (by decide)) T.m_law_times T.F_law_times.kp T.d_law_times (pda_cons (pd_tup (pda_cons (pd_var 2) (pda_cons pd_int pda_nil))) (pda_cons (pd_call (takes_of rfl rfl rfl rfl) (ok_law_least T) (hr.mono (by decide)) T.m_law_least T.F_law_least.kp T.d_law_least (pda_cons (pd_var 1) pda_nil)) pda_nil))) (pda_cons (pd_tup (pda_cons (pd_neg (pd_ix (pd_var 5) pd_int)) (pda_cons (pd_ix (pd_var 5) pd_int) pda_nil))) pda_nil))))
    (pds_cons (pd_par 7 8 rfl sc_law_rows_right.nd (pda_cons (pd_bin od_add pd_int (pd_call (takes_of rfl rfl rfl rfl) (ok_law_take T) (hr.mono (by decide)) T.m_law_take T.F_law_take.kp T.d_law_take (pda_cons (pd_var 0) (pda_cons pd_int pda_nil)))) (pda_cons (pd_bin od_add pd_int (pd_call (takes_of rfl rfl rfl rfl) (ok_law_take T) (hr.mono (by decide)) T.m_law_take T.F_law_take.kp T.d_law_take (pda_cons (pd_var 0) (pda_cons pd_int pda_nil)))) pda_nil)) rfl)
    (pds_cons (pd_set 9 sc_law_rows_right.nd pd_int)
    (pds_cons (pd_for (passes_of rfl) rfl (pdi_range2 T.b_range (pda_cons pd_int (pda_cons (pd_bin od_add (pd_var 8) pd_int) pda_nil))) (pdg_name 10 sc_law_rows_right.nd) (pds_one (pd_set 9 sc_law_rows_right.nd (pd_bin od_mul (pd_var 9) (pd_var 10)))))
    (pds_cons (pd_ifS (PDW.pt (pdw_or (pdt_cmp (od_ne hr.units) (pd_call (takes_of rfl rfl rfl rfl) (ok_saved T) (hr.mono (by decide)) T.m_saved T.F_saved.kp T.d_saved (pda_cons (pd_var 1) (pda_cons (pd_var 2) pda_nil))) (pd_var 6)) (pdw_or (pdt_cmp od_lt (pd_ix (pd_var 6) pd_int) pd_int) (pdw_or1 (pdt_cmp (od_ne hr.units) (pd_call (takes_of rfl rfl rfl rfl) (ok_even_mean T) (hr.mono (by decide)) T.m_even_mean T.F_even_mean.kp T.d_even_mean (pda_cons (pd_var 7) pda_nil)) (pd_call (takes_of rfl rfl rfl rfl) (ok_law_times T) (hr.mono (by decide)) T.m_law_times T.F_law_times.kp T.d_law_times (pda_cons (pd_tup (pda_cons (pd_var 7) (pda_cons pd_int pda_nil))) (pda_cons (pd_call (takes_of rfl rfl rfl rfl) (ok_law_cost T) (hr.mono (by decide)) T.m_law_cost T.F_law_cost.kp T.d_law_cost (pda_cons (pd_tup (pda_cons pd_int (pda_cons (pd_var 7) pda_nil))) pda_nil)) pda_nil)))))))) (pds_one (pd_ret pd_bl)) pds_nil)
    (pds_cons (pd_par 11 12 rfl sc_law_rows_right.nd (pda_cons (pd_call (takes_of rfl rfl rfl rfl) (ok_law_take T) (hr.mono (by decide)) T.m_law_take T.F_law_take.kp T.d_law_take (pda_cons (pd_var 0) (pda_cons (pd_bin od_add (pd_var 8) pd_int) pda_nil))) (pda_cons pd_int pda_nil)) rfl)
    (pds_cons (pd_for (passes_of rfl) rfl (pdi_range1 T.b_range (pda_cons (pd_var 11) pda_nil)) (pdg_name 13 sc_law_rows_right.nd) (pds_one (pd_set 12 sc_law_rows_right.nd (pd_bltTy cd_int T.b_int (by decide +kernel) (pda_cons (pd_bin od_fdiv (pd_bin od_mul (pd_var 12) (pd_bin od_sub (pd_var 8) (pd_var 13))) (pd_bin od_add (pd_var 13) pd_int)) pda_nil)))))
    (pds_cons (pd_ifS (pdt_cmp (od_ne hr.units) (pd_call (takes_of rfl rfl rfl rfl) (ok_shuffle_mean T) (hr.mono (by decide)) T.m_shuffle_mean T.F_shuffle_mean.kp T.d_shuffle_mean (pda_cons (pd_var 8) pda_nil)) (pd_call (takes_of rfl rfl rfl rfl) (ok_law_times T) (hr.mono (by decide)) T.m_law_times T.F_law_times.kp T.d_law_times (pda_cons (pd_tup (pda_cons (pd_var 9) (pda_cons pd_int pda_nil))) (pda_cons (pd_call (takes_of rfl rfl rfl rfl) (ok_law_cost T) (hr.mono (by decide)) T.m_law_cost T.F_law_cost.kp T.d_law_cost (pda_cons (pd_tup (pda_cons pd_int (pda_cons (pd_var 9) pda_nil))) pda_nil)) pda_nil)))) (pds_one (pd_ret pd_bl)) pds_nil)
    (pds_one (pd_ret (pd_cmp (od_eq hr.units) (pd_call (takes_of rfl rfl rfl rfl) (ok_lot_mean T) (hr.mono (by decide)) T.m_lot_mean T.F_lot_mean.kp T.d_lot_mean (pda_cons (pd_var 8) (pda_cons (pd_var 11) pda_nil))) (pd_call (takes_of rfl rfl rfl rfl) (ok_law_times T) (hr.mono (by decide)) T.m_law_times T.F_law_times.kp T.d_law_times (pda_cons (pd_tup (pda_cons (pd_var 12) (pda_cons pd_int pda_nil))) (pda_cons (pd_call (takes_of rfl rfl rfl rfl) (ok_law_cost T) (hr.mono (by decide)) T.m_law_cost T.F_law_cost.kp T.d_law_cost (pda_cons (pd_tup (pda_cons pd_int (pda_cons (pd_var 12) pda_nil))) pda_nil)) pda_nil)))))))))))))))))), fun ds S Q h => ?_⟩)
  · obtain ⟨_, _, _, _, rfl, _⟩ := h
    rfl
  · obtain ⟨a, c, qs, M, rfl, hd, hc0, hc, hs, hM, hl, h⟩ := h
    have hMp : 0 < M := by have := hs.pos; omega
    have dM : Dok M := ⟨hMp, .inl (by omega)⟩
    have hMb : ((M : Int)).natAbs < 2 ^ 5 := by rw [Int.natAbs_natCast]; show _ < 32; omega
    walk_at "w"
    refine ⟨a, 3, c, rfl, hd, by omega, by decide, by decide, ?_⟩
    rintro t S1 t0 t1 hd1 fr1
    obtain ⟨k, hk⟩ : ∃ k : Nat, 1 + t = (k : Int) := ⟨(1 + t).toNat, by omega⟩
    have hpw : ∀ i, i ≤ 3 → Sh ((M ^ i : Nat) : Int) (pw qs i) ∧ (pw qs i).length ≤ 27 := fun i hi => by
      refine ⟨by rw [Int.natCast_pow]; exact pw_shk hs i, ?_⟩
      rw [pw_len]
      exact Nat.le_trans (Nat.pow_le_pow_left hl i) (Nat.le_trans (Nat.pow_le_pow_right (by decide) hi) (by decide))
    walk_at "w"
    rw [hk]
    refine ⟨⟨by omega, by omega⟩, for_rg (fun i ρ' S' => S' = S1 ∧ ∃ o, ρ' = [some (.ref a), some (shD qs), some (.int (k : Int)), some (shD (pw qs (i + 1))), o, none, none, none, none, none, none, none, none, none]) ⟨rfl, _, by rw [pw_one]; rfl⟩ ?_ ?_⟩
    · rintro i _ _ hi ⟨rfl, o, rfl⟩
      obtain ⟨s1, l1⟩ := hpw (i + 1) (by omega)
      have rbp := (Pts.of (dok_pow hMp hM (show i + 1 ≤ 3 by omega)) s1 (by omega))
      walk_at "w"
      refine ⟨qs, pw qs (i + 1), rfl, fun q hq => (hs.rb hMb hq).mono (by decide), fun q hq => (s1.rb (n := 10) ((dok_pow hMp hM (show i + 1 ≤ 3 by omega)).lt (by decide)) hq).mono (by decide), by omega, by omega, ?_⟩
      rw [pw_left]
      walk_at "w"
      exact ⟨rfl, _, rfl⟩
    · rintro _ S2 ⟨e_, o, rfl⟩
      subst e_
      rw [show ((k : Int) - 1).toNat + 1 = k by omega]
      have dK := dok_pow hMp hM (show k ≤ 3 by omega)
      obtain ⟨sK, lK⟩ := hpw k (by omega)
      have pK := Pts.of dK sK (by omega)
      have pQ := Pts.of dM hs (by omega)
      have hH := H_pw hs k
      walk_at "w"
      refine ⟨M ^ k, _, rfl, pK, ?_⟩
      walk_at "w"
      refine ⟨qs, M, k, rfl, hs, lt_up hMb (by decide), by omega, by omega, by omega, ?_⟩
      walk_at "w"
      refine ⟨_, _, .tup (pyrs_frs _), .tup (pyrs_frs _), shapedT_frs _, shapedT_frs _, ?_⟩
      refine IFB.f (ne_sh _) ?_
      walk_at "w"
      refine ⟨M ^ k, _, rfl, dK, sK, by omega, ?_⟩
      walk_at "w"
      refine ⟨_, _, pyr_fr _, pyr_fr _, rfl, rfl, ?_⟩
      refine IFB.f (ne_eqv _) ?_
      have rbk : RB 4 (((k : Int) : Rat)) := ⟨by show _ < 16; have e : (((k : Int) : Rat)).num = (k : Int) := rfl; rw [e]; omega, by show 1 < 16; decide⟩
      walk_at "w"
      refine ⟨M, qs, rfl, pQ, ?_⟩
      walk_at "w"
      rw [fr_int]
      refine ⟨_, _, rfl, rbk.mono (by decide), pQ.rb.mono (by decide), ?_⟩
      walk_at "w"
      refine ⟨_, rfl, ?_⟩
      walk_at "w"
      refine ⟨_, rfl, ?_⟩
      walk_at "w"
      have rbd := rb_mul rbk pQ.rb
      refine ⟨_, -HQ (pw qs k), by rw [← fr_neg], rbd.mono (by decide), ⟨by show (-(HQ (pw qs k)).num).natAbs < _; rw [Int.natAbs_neg]; exact (pK.rb.mono (m := 3000) (by decide)).1, (pK.rb.mono (m := 3000) (by decide)).2⟩, ?_⟩
      have eS : ((k : Int) : Rat) * HQ qs + -HQ (pw qs k) = ((k : Int) : Rat) * HQ qs - HQ (pw qs k) := (Rat.sub_eq_add_neg _ _).symm
      rw [eS]
      have hnn : 0 ≤ (((k : Int) : Rat) * HQ qs - HQ (pw qs k)).num := num_nn (by grind)
      have hsv : DL.fr (((k : Int) : Rat) * HQ qs - HQ (pw qs k)) = fr (((k : Int) : Rat) * HQ qs - HQ (pw qs k)) := rfl
      walk_at "w"
      refine ⟨a, 30, _, rfl, hd1, by omega, by decide, by decide, ?_⟩
      rintro t2 S2 u0 u1 hd2 fr2
      obtain ⟨n, hn⟩ : ∃ n : Nat, 1 + t2 = (n : Int) := ⟨(1 + t2).toNat, by omega⟩
      walk_at "w"
      refine ⟨a, 4, _, rfl, hd2, by omega, by decide, by decide, ?_⟩
      rintro t3 S3 v0 v1 hd3 fr3
      obtain ⟨m, hm⟩ : ∃ m : Nat, 1 + t3 = (m : Int) := ⟨(1 + t3).toNat, by omega⟩
      walk_at "w"
      rw [hn, hm]
      refine ⟨⟨by omega, by omega, by omega, by omega⟩, for_rg (fun i ρ' S' => S' = S3 ∧ ∃ o1 o2, ρ' = [some (.ref a), some (shD qs), some (.int (k : Int)), some (shD (pw qs k)), o1, some (fr (HQ (pw qs k))), some (fr (((k : Int) : Rat) * HQ qs - HQ (pw qs k))), some (.int (n : Int)), some (.int (m : Int)), some (.int (Builtin.Math.factorialNat i : Int)), o2, none, none, none]) ⟨rfl, _, _, rfl⟩ ?_ ?_⟩
      · rintro i _ _ hi ⟨rfl, o1, o2, rfl⟩
        have hi : i < m := by omega
        obtain ⟨f1, f2⟩ := fact_step i (by omega)
        walk_at "w"
        refine ⟨small_r (by omega) (by omega), ?_⟩
        rw [f1]
        walk_at "w"
        exact ⟨rfl, _, _, rfl⟩
      · rintro _ S4 ⟨e_, o1, o2, rfl⟩
        subst e_
        rw [show ((m : Int) + 1 - 1).toNat = m by omega]
        have dN : Dok n := ⟨by omega, .inl (by omega)⟩
        obtain ⟨g1, g2⟩ := fact_dok m (by omega)
        have dF : Dok (Builtin.Math.factorialNat m) := ⟨g1, .inl g2⟩
        walk_at "w"
        refine ⟨M, qs, k, rfl, dM, hs, by omega, by omega, by omega, dK, ?_⟩
        walk_at "w"
        refine ⟨_, _, pyr_fr _, pyr_fr _, rfl, rfl, ?_⟩
        refine IFB.f (ne_eqv _) ?_
        walk_at "w"
        refine ⟨_, rfl, ?_⟩
        walk_at "w"
        refine IFB.f (decide_eq_false (by omega)) ?_
        walk_at "w"
        refine ⟨n, rfl, dN, ?_⟩
        walk_at "w"
        refine ⟨1 / (((n : Nat) : Int) : Rat), by rw [fr_one dN.pos], dN.uq1, ?_⟩
        walk_at "w"
        refine ⟨((n : Int) : Rat), _, by rw [← fr_int]; rfl, eV_rb dN, (dN.rb ⟨1, rfl⟩).mono (by decide), ?_⟩
        walk_at "w"
        refine ⟨_, _, pyr_fr _, pyr_fr _, rfl, rfl, ?_⟩
        refine IFB.f (ne_eqv (eV n)) ?_
        walk_at "w"
        refine ⟨a, (m : Int) + 1, _, rfl, hd3, by omega, by omega, by omega, ?_⟩
        rintro f S4 w0 w1 hd4 fr4
        obtain ⟨of_, rfl⟩ := Int.eq_ofNat_of_zero_le w0
        walk_at "w"
        refine ⟨⟨by omega, by omega⟩, for_rg (fun i ρ' S' => S' = S4 ∧ ∃ o1 o2 o3, ρ' = [some (.ref a), some (shD qs), some (.int (k : Int)), some (shD (pw qs k)), o1, some (fr (HQ (pw qs k))), some (fr (((k : Int) : Rat) * HQ qs - HQ (pw qs k))), some (.int (n : Int)), some (.int (m : Int)), some (.int (Builtin.Math.factorialNat m : Int)), o2, some (.int (of_ : Int)), some (.int (PySem.W.mcComb m i)), o3]) ⟨rfl, _, _, _, by rw [comb_zero m (by omega)]; rfl⟩ ?_ ?_⟩
        · rintro i _ _ hi ⟨rfl, o1, o2, o3, rfl⟩
          have hi : i < of_ := by omega
          have c1 := comb_dok m (by omega) i (by omega)
          have c2 := comb_step m (by omega) i (by omega)
          walk_at "w"
          rw [show (0 : Int) + (i : Int) = (i : Int) by omega]
          refine ⟨small_r (by omega) (by omega), ?_⟩
          walk_at "w"
          refine ⟨div_s (by omega) (Int.lt_of_le_of_lt (show (i : Int) + 1 ≤ 100 by omega) (by decide)), ?_⟩
          rw [c2]
          walk_at "w"
          exact ⟨rfl, _, _, _, rfl⟩
        · rintro _ S5 ⟨e_, o1, o2, o3, rfl⟩
          subst e_
          rw [show (of_ : Int).toNat = of_ from Int.toNat_natCast _]
          have c1 := comb_dok m (by omega) of_ (by omega)
          have dC : Dok (PySem.W.mcComb m of_).toNat := ⟨by omega, .inl (by omega)⟩
          have eC : PySem.W.mcComb m of_ = (((PySem.W.mcComb m of_).toNat : Nat) : Int) := by omega
          walk_at "w"
          refine ⟨m, rfl, by omega, by omega, ?_⟩
          walk_at "w"
          refine ⟨1 / (((Builtin.Math.factorialNat m : Nat) : Int) : Rat), by rw [fr_one dF.pos], dF.uq1, ?_⟩
          walk_at "w"
          refine ⟨((Builtin.Math.factorialNat m : Int) : Rat), _, by rw [← fr_int]; rfl, eV_rb dF, (dF.rb ⟨1, rfl⟩).mono (by decide), ?_⟩
          walk_at "w"
          refine ⟨_, _, pyr_fr _, pyr_fr _, rfl, rfl, ?_⟩
          refine IFB.f (ne_eqv (eV (Builtin.Math.factorialNat m))) ?_
          walk_at "w"
          refine ⟨m, of_, rfl, by omega, by omega, by omega, ?_⟩
          rw [eC]
          generalize (PySem.W.mcComb m of_).toNat = cc at *
          walk_at "w"
          refine ⟨1 / (((cc : Nat) : Int) : Rat), by rw [fr_one dC.pos], dC.uq1, ?_⟩
          walk_at "w"
          refine ⟨((cc : Int) : Rat), nuQ (1 / ((cc : Int) : Rat)), by rw [← fr_int], eV_rb dC, (dC.rb ⟨1, rfl⟩).mono (by decide), ?_⟩
          walk_at "w"
          refine ⟨_, _, pyr_fr _, pyr_fr _, rfl, rfl, ?_⟩
          rw [if_neg (by decide), Int.toNat_natCast]
          have : PyData.eqv (.tuple [.int (eV cc).num, .int ((eV cc).den : Int)]) (.tuple [.int (((cc : Int) : Rat) * nuQ (1 / ((cc : Int) : Rat))).num, .int ((((cc : Int) : Rat) * nuQ (1 / ((cc : Int) : Rat))).den : Int)]) = true := by rw [frP_eq]; exact decide_eq_true rfl
          rw [this]
          exact h _ (hd4.mono (by omega)) fun b hb => (fr4 b hb).trans ((fr3 b hb).trans ((fr2 b hb).trans (fr1 b hb)))
end K53
set_option Elab.async false
set_option linter.all false
set_option maxRecDepth 100000
set_option maxHeartbeats 4000000
namespace K53
open PySem PySem.Spec PyProof.Rows L2 DL
local macro_rules | `(tactic| walk_at "w") => `(tactic| conv => whnf)
local macro_rules | `(tactic| walk_at "g") => `(tactic| ((conv => whnf); repeat' (first | (refine IFB.t ?_ ?_; rfl; conv => whnf) | (refine IFB.f ?_ ?_; rfl; conv => whnf))))
set_option exponentiation.threshold 9000

def sp_law_right : DSp := fun ds S Q _ => ∃ a : Addr, ds = [.ref a] ∧ BagD S a 0 ∧ ∀ S', Q (.bl true) S'
def sp_law : DSp := fun ds S Q _ => ∃ xs : List Int, ds = [.fro (xs.map D.int)] ∧ ∀ S', Q (.bl true) S'
theorem ok_law_right {P : Program} {w : World} {K : PySem.W.Frag} {mg : Str → Option Value} {base : Heap} (T : Txt K mg) : FnOk P w K mg base (L2.CX P w) 9 T.a_law_right T.fd_law_right ["bag"] (toSp K sp_law_right) := by
  refine fnE T.F_law_right sc_law_right (fun ds S Q E h => ?_) (fun cdv A outer s H E RX hr => ⟨_, (pds_cons (pd_par 1 2 rfl sc_law_right.nd (pda_cons (pd_call (takes_of rfl rfl rfl rfl) (ok_law_shares T) (hr.mono (by decide)) T.m_law_shares T.F_law_shares.kp T.d_law_shares (pda_cons (pd_var 0) (pda_cons pd_int pda_nil))) (pda_cons (pd_call (takes_of rfl rfl rfl rfl) (ok_law_shares T) (hr.mono (by decide)) T.m_law_shares T.F_law_shares.kp T.d_law_shares (pda_cons (pd_var 0) (pda_cons pd_int pda_nil))) pda_nil)) rfl)
    (pds_cons (pd_ifS (PDW.pt (pdw_or (pdt_cmp (od_ne hr.units) (pd_call (takes_of rfl rfl rfl rfl) (ok_least_mean T) (hr.mono (by decide)) T.m_least_mean T.F_least_mean.kp T.d_least_mean (pda_cons (pd_var 1) pda_nil)) (pd_call (takes_of rfl rfl rfl rfl) (ok_law_least T) (hr.mono (by decide)) T.m_law_least T.F_law_least.kp T.d_law_least (pda_cons (pd_var 1) pda_nil))) (pdw_or1 (pdt_not (pdt_tru (pd_call (takes_of rfl rfl rfl rfl) (ok_law_figures_right T) (hr.mono (by decide)) T.m_law_figures_right T.F_law_figures_right.kp T.d_law_figures_right (pda_cons (pd_var 0) (pda_cons (pd_ix (pd_var 1) (pd_call (takes_of rfl rfl rfl rfl) (ok_law_take T) (hr.mono (by decide)) T.m_law_take T.F_law_take.kp T.d_law_take (pda_cons (pd_var 0) (pda_cons (pd_blt cd_len T.b_len (by decide +kernel) (pda_cons (pd_var 1) pda_nil)) pda_nil)))) pda_nil)))))))) (pds_one (pd_ret pd_bl)) pds_nil)
    (pds_cons (pd_ifS (PDW.pt (pdw_or (pdt_not (pdt_tru (pd_call (takes_of rfl rfl rfl rfl) (ok_law_tails_right T) (hr.mono (by decide)) T.m_law_tails_right T.F_law_tails_right.kp T.d_law_tails_right (pda_cons (pd_var 1) pda_nil)))) (pdw_or1 (pdt_not (pdt_tru (pd_call (takes_of rfl rfl rfl rfl) (ok_law_changed_right T) (hr.mono (by decide)) T.m_law_changed_right T.F_law_changed_right.kp T.d_law_changed_right (pda_cons (pd_var 0) (pda_cons (pd_var 1) (pda_cons (pd_var 2) pda_nil))))))))) (pds_one (pd_ret pd_bl)) pds_nil)
    (pds_cons (pd_set 3 sc_law_right.nd (pd_lc (own := [("thing", 4)]) (p := .n 4) rfl sc_law_right.nd (pdi_range1 T.b_range (pda_cons (pd_bin od_add pd_int (pd_call (takes_of rfl rfl rfl rfl) (ok_law_take T) (hr.mono (by decide)) T.m_law_take T.F_law_take.kp T.d_law_take (pda_cons (pd_var 0) (pda_cons pd_int pda_nil)))) pda_nil)) (blkOk_by (N := ["bag", "one", "other", "weights", "thing", "weight"]) (sc := defScope s_law_right) (own := [("thing", 4)]) (by decide +kernel)) (fun _ _ _ _ _ => (pg_name (i := 4) sc_law_right.nd rfl (by first | exact Or.inl rfl | exact Or.inr rfl))) (fun _ _ _ _ _ => pdts_nil) (fun _ _ _ _ _ => (pd_bin od_add pd_int (pd_call takes0 (ok_law_take T) (hr.mono (by decide)) T.m_law_take T.F_law_take.kp T.d_law_take (pda_cons (pd_var 0) (pda_cons pd_int pda_nil)))))))
    (pds_one (pd_ret (pd_call (takes_of rfl rfl rfl rfl) (ok_law_rows_right T) (hr.mono (by decide)) T.m_law_rows_right T.F_law_rows_right.kp T.d_law_rows_right (pda_cons (pd_var 0) (pda_cons (pd_bltTy cd_tuple T.b_tuple (by decide +kernel) (pda_cons (pd_lc (own := [("weight", 5)]) (p := .n 5) rfl sc_law_right.nd (pdi_it (pd_var 3)) (blkOk_by (N := ["bag", "one", "other", "weights", "thing", "weight"]) (sc := defScope s_law_right) (own := [("weight", 5)]) (by decide +kernel)) (fun _ _ _ _ _ => (pg_name (i := 5) sc_law_right.nd rfl (by first | exact Or.inl rfl | exact Or.inr rfl))) (fun _ _ _ _ _ => pdts_nil) (fun _ _ _ _ _ => (pd_call takes0 (ok_law_low T) (hr.mono (by decide)) T.m_law_low T.F_law_low.kp T.d_law_low (pda_cons (pd_var 5) (pda_cons (pd_blt (cd_sumA rfl) T.b_sum (by decide +kernel) (pda_cons (pd_var 3) pda_nil)) pda_nil))))) pda_nil)) pda_nil))))))))), fun ds S Q h => ?_⟩)
  · obtain ⟨_, rfl, _⟩ := h
    rfl
  · obtain ⟨a, rfl, hd, h⟩ := h
    walk_at "w"
    refine ⟨a, 4, 0, rfl, hd, by decide, by decide, by decide, by decide, ?_⟩
    rintro one M S1 hs hM hl hd1 fr1
    walk_at "w"
    refine ⟨a, 3, _, rfl, hd1, by decide, by decide, by decide, by decide, ?_⟩
    rintro other M' S2 hs' hM' hl' hd2 fr2
    have hn : 0 < one.length := List.length_pos_iff.mpr hs.ne
    have hMp : 0 < M := by have := hs.pos; omega
    have dM : Dok M := ⟨hMp, .inl (by omega)⟩
    walk_at "w"
    refine ⟨M, one, rfl, dM, hs, by omega, ?_⟩
    walk_at "w"
    refine ⟨M, one, rfl, .of dM hs (by omega), ?_⟩
    walk_at "w"
    refine ⟨_, _, pyr_fr _, pyr_fr _, rfl, rfl, ?_⟩
    refine IFB.f (ne_eqv _) ?_
    walk_at "w"
    rw [List.length_map]
    refine ⟨a, (one.length : Int), _, rfl, hd2, by omega, by omega, by omega, ?_⟩
    rintro f S3 f0 f1 hd3 fr3
    obtain ⟨tt, rfl⟩ := Int.eq_ofNat_of_zero_le f0
    have htt : tt < one.length := by omega
    have et : one[tt]? = some one[tt] := List.getElem?_eq_getElem htt
    walk_at "w"
    refine ⟨fr one[tt], atI_nat (by rw [List.getElem?_map, et]; rfl), ?_⟩
    walk_at "w"
    refine ⟨_, one[tt], rfl, (Pts.of dM hs (by omega)).uq (List.getElem_mem htt), ?_⟩
    walk_at "g"
    refine ⟨M, one, rfl, hs, by omega, by omega, ?_⟩
    walk_at "g"
    refine ⟨a, _, one, other, M, M', rfl, hd3, by decide, by decide, hs, hs', by omega, by omega, by omega, by omega, ?_⟩
    rintro S4 hd4 fr4
    walk_at "g"
    refine ⟨a, 3, _, rfl, hd4, by decide, by decide, by decide, ?_⟩
    rintro t S5 t0 t1 hd5 fr5
    walk_at "w"
    refine ⟨⟨by omega, by omega⟩, ?_⟩
    refine lc_rgW (fun i acc S' => ∃ ws : List Int, acc = ws.map D.int ∧ ws.length = i ∧ (∀ w ∈ ws, 1 ≤ w ∧ w ≤ 3) ∧ BagD S' a (100 + i)) ⟨[], rfl, rfl, (fun _ z => nomatch z), hd5.mono (by decide)⟩ ?_ ?_
    · rintro i acc S6 hi ⟨ws, rfl, hwl, hw, hd6⟩
      walk_at "w"
      refine IFB.t rfl ?_
      walk_at "w"
      refine ⟨a, 3, _, rfl, hd6, by omega, by decide, by decide, ?_⟩
      rintro f S7 f0 f1 hd7 fr7
      walk_at "w"
      refine ⟨by rw [List.length_map]; show _ < 16777216; omega, ws ++ [1 + f], by rw [List.map_append]; rfl, by rw [List.length_append, hwl]; rfl, fun w hw2 => ?_, hd7.mono (by omega)⟩
      rcases List.mem_append.mp hw2 with z | z
      · exact hw w z
      · cases List.mem_singleton.mp z; omega
    · rintro S6 q acc ⟨ws, rfl, hwl, hw, hd6⟩ hq
      have hsm := ws_sum hw
      have hlm : ws.length = (1 + t).toNat := hwl
      have e6 : DL.sup S6 q (.lst (ws.map D.int)) q = some (.lst (ws.map D.int)) := sup_same
      have hd7 := hd6.sup (x := .lst (ws.map D.int)) hq
      generalize DL.sup S6 q _ = S7 at *
      walk_at "w"
      refine ⟨_, .inl ⟨q, rfl, e6⟩, ?_⟩
      refine lc_xsm (divD ws.sum) (fun S' ex => .inl ⟨q, rfl, ex _ _ e6⟩) ?_ ?_
      · rintro i x acc S8 hi w8
        obtain ⟨w, hw2, rfl⟩ := int_at hi
        walk_at "w"
        refine IFB.t rfl ?_
        walk_at "w"
        refine ⟨ws, .inl ⟨q, rfl, w8.2.2 _ _ e6⟩, ?_⟩
        walk_at "w"
        refine ⟨_, _, rfl, by omega, lt_up (a := 10) (show ws.sum.natAbs < 1024 by omega) (by decide), ?_⟩
        exact lc_leafL hi w8 (by rw [List.length_map]; show _ ≤ 16777216; omega) rfl (Ext.refl _)
      · rintro S8 v ex hv
        walk_at "w"
        refine ⟨_, .inl ⟨v, rfl, sup_same⟩, ?_⟩
        rw [dvs_D]
        have hv6 := ex.trans (Ext.new hv (.lst ((ws.map D.int).map (divD ws.sum))))
        rw [dvs_D] at hv6
        have hd8 := hd7.ext hv6
        obtain ⟨M2, hM2⟩ := Int.eq_ofNat_of_zero_le (show 0 ≤ ws.sum by omega)
        have sh := dvs_sh (ws := ws) (fun z => by rw [z] at hlm; have : (0 : Nat) = (1 + t).toNat := hlm; omega) (fun w z => by have := hw w z; omega) (by omega)
        walk_at "w"
        refine ⟨a, _, dvs ws.sum ws, M2, rfl, hd8, by omega, by omega, by rw [← hM2]; exact sh, by omega, by unfold dvs; rw [List.length_map]; omega, ?_⟩
        rintro S9 - -
        exact ⟨_, Ext.refl _, h S9⟩
theorem ok_law {P : Program} {w : World} {K : PySem.W.Frag} {mg : Str → Option Value} {base : Heap} (T : Txt K mg) : FnOk P w K mg base (L2.CX P w) 10 T.a_law T.fd_law ["script"] (toSp K sp_law) := by
  refine fnD T.F_law sc_law (fun ds S Q E h => ?_) (fun cdv A outer s H E RX hr => ⟨_, (pds_cons (pd_for (passes_of rfl) rfl (pdi_range1 T.b_range (pda_cons (pd_blt (cd_max2 rfl) T.b_max (by decide +kernel) (pda_cons pd_int (pda_cons (pd_blt (cd_min2 rfl) T.b_min (by decide +kernel) (pda_cons pd_int (pda_cons (pd_blt cd_len T.b_len (by decide +kernel) (pda_cons (pd_var 0) pda_nil)) pda_nil))) pda_nil))) pda_nil)) (pdg_name 1 sc_law.nd) (pds_one (pd_ifS (pdt_not (pdt_tru (pd_call (takes_of rfl rfl rfl rfl) (ok_law_right T) (hr.mono (by decide)) T.m_law_right T.F_law_right.kp T.d_law_right (pda_cons (pd_call (takes_of rfl rfl rfl rfl) (ok_law_bag T) (hr.mono (by decide)) T.m_law_bag T.F_law_bag.kp T.d_law_bag (pda_cons (pd_var 0) (pda_cons (pd_var 1) pda_nil))) pda_nil)))) (pds_one (pd_ret pd_bl)) pds_nil)))
    (pds_one (pd_ret pd_bl))), fun ds S Q h => ?_⟩)
  · obtain ⟨_, rfl, _⟩ := h
    rfl
  · obtain ⟨xs, rfl, h⟩ := h
    walk_at "w"
    refine ⟨_, .inr rfl, ?_⟩
    walk_at "w"
    refine ⟨⟨by omega, by omega⟩, for_rg (fun i ρ' S' => ∃ o, ρ' = [some (.fro (xs.map D.int)), o]) ⟨_, rfl⟩ ?_ ?_⟩
    · rintro i _ S1 hi ⟨o, rfl⟩
      walk_at "w"
      refine ⟨xs, _, rfl, by omega, by omega, ?_⟩
      rintro a S2 - hd -
      walk_at "w"
      refine ⟨a, rfl, hd, ?_⟩
      rintro S3
      walk_at "g"
      exact ⟨_, rfl⟩
    · rintro _ S1 ⟨o, rfl⟩
      walk_at "w"
      exact h _
end K53
set_option Elab.async false
set_option linter.all false
set_option maxRecDepth 100000
set_option maxHeartbeats 4000000
namespace K53
open PySem PySem.Spec PyProof.Rows L2 DL
local macro_rules | `(tactic| walk_at "w") => `(tactic| conv => whnf)
local macro_rules | `(tactic| walk_at "g") => `(tactic| ((conv => whnf); repeat' (first | (refine IFB.t ?_ ?_; rfl; conv => whnf) | (refine IFB.f ?_ ?_; rfl; conv => whnf))))
theorem end_law (ns : List Int) (h : ns.length ≤ 63) (S : Sto) : sp_law [.fro (ns.map D.int)] S (fun d _ => d = .bl true) (fun _ _ _ => False) := ⟨ns, rfl, fun _ => rfl⟩
theorem all_of {l : PySem.W.OpenLaw} {w : World} {K : PySem.W.Frag} {mg : Str → Option Value} {fa : Addr} (T : Txt K mg) (hfa : mg "law" = some (.ref fa)) :
    ∃ fd : FuncData, (∀ (s : Shared) (u : Value), BindsTo s fd ⟨[u], []⟩ [("script", u)]) ∧ ∀ base : Heap, K.In base → base.Ns mainGlobals mg → FnOk l.prog w K mg base (L2.CX l.prog w) 10 fa fd ["script"] (toSp K sp_law) := by
  have e := hfa.symm.trans T.m_law
  cases e
  exact ⟨T.fd_law, law_binds T.F_law fun _ _ _ _ _ _ _ => rfl, fun base _ _ => ok_law T⟩
theorem all_mk {l : PySem.W.OpenLaw} {w : World} {K : PySem.W.Frag} {h : Heap} {mg : Str → Option Value} {fa : Addr} (X : K.In h) (G : h.Ns mainGlobals mg) (hfa : mg "law" = some (.ref fa))
    {g0 : Addr} {od0 an0 : Option Addr} {sl0 : Array (Option Value)} {oc0 kV0 dc0 pm0 cd0 ct0 : Value}
    {g1 : Addr} {od1 an1 : Option Addr} {sl1 : Array (Option Value)} {oc1 kV1 dc1 pm1 cd1 ct1 : Value}
    {g2 : Addr} {od2 an2 : Option Addr} {sl2 : Array (Option Value)} {oc2 kV2 dc2 pm2 cd2 ct2 : Value}
    {g3 : Addr} {od3 an3 : Option Addr} {sl3 : Array (Option Value)} {oc3 kV3 dc3 pm3 cd3 ct3 : Value}
    {g4 : Addr} {od4 an4 : Option Addr} {sl4 : Array (Option Value)} {oc4 kV4 dc4 pm4 cd4 ct4 : Value}
    {g5 : Addr} {od5 an5 : Option Addr} {sl5 : Array (Option Value)} {oc5 kV5 dc5 pm5 cd5 ct5 : Value}
    {g6 : Addr} {od6 an6 : Option Addr} {sl6 : Array (Option Value)} {oc6 kV6 dc6 pm6 cd6 ct6 : Value}
    {g7 : Addr} {od7 an7 : Option Addr} {sl7 : Array (Option Value)} {oc7 kV7 dc7 pm7 cd7 ct7 : Value}
    {g8 : Addr} {od8 an8 : Option Addr} {sl8 : Array (Option Value)} {oc8 kV8 dc8 pm8 cd8 ct8 : Value}
    {g9 : Addr} {od9 an9 : Option Addr} {sl9 : Array (Option Value)} {oc9 kV9 dc9 pm9 cd9 ct9 : Value}
    {g10 : Addr} {od10 an10 : Option Addr} {sl10 : Array (Option Value)} {oc10 kV10 dc10 pm10 cd10 ct10 : Value}
    {g11 : Addr} {od11 an11 : Option Addr} {sl11 : Array (Option Value)} {oc11 kV11 dc11 pm11 cd11 ct11 : Value}
    {g12 : Addr} {od12 an12 : Option Addr} {sl12 : Array (Option Value)} {oc12 kV12 dc12 pm12 cd12 ct12 : Value}
    {g13 : Addr} {od13 an13 : Option Addr} {sl13 : Array (Option Value)} {oc13 kV13 dc13 pm13 cd13 ct13 : Value}
    {g14 : Addr} {od14 an14 : Option Addr} {sl14 : Array (Option Value)} {oc14 kV14 dc14 pm14 cd14 ct14 : Value}
    {g15 : Addr} {od15 an15 : Option Addr} {sl15 : Array (Option Value)} {oc15 kV15 dc15 pm15 cd15 ct15 : Value}
    {g16 : Addr} {od16 an16 : Option Addr} {sl16 : Array (Option Value)} {oc16 kV16 dc16 pm16 cd16 ct16 : Value}
    {g17 : Addr} {od17 an17 : Option Addr} {sl17 : Array (Option Value)} {oc17 kV17 dc17 pm17 cd17 ct17 : Value}
    {g18 : Addr} {od18 an18 : Option Addr} {sl18 : Array (Option Value)} {oc18 kV18 dc18 pm18 cd18 ct18 : Value}
    {g19 : Addr} {od19 an19 : Option Addr} {sl19 : Array (Option Value)} {oc19 kV19 dc19 pm19 cd19 ct19 : Value}
    {g20 : Addr} {od20 an20 : Option Addr} {sl20 : Array (Option Value)} {oc20 kV20 dc20 pm20 cd20 ct20 : Value}
    {g21 : Addr} {od21 an21 : Option Addr} {sl21 : Array (Option Value)} {oc21 kV21 dc21 pm21 cd21 ct21 : Value}
    {g22 : Addr} {od22 an22 : Option Addr} {sl22 : Array (Option Value)} {oc22 kV22 dc22 pm22 cd22 ct22 : Value}
    {g23 : Addr} {od23 an23 : Option Addr} {sl23 : Array (Option Value)} {oc23 kV23 dc23 pm23 cd23 ct23 : Value}
    {g24 : Addr} {od24 an24 : Option Addr} {sl24 : Array (Option Value)} {oc24 kV24 dc24 pm24 cd24 ct24 : Value}
    {g25 : Addr} {od25 an25 : Option Addr} {sl25 : Array (Option Value)} {oc25 kV25 dc25 pm25 cd25 ct25 : Value}
    {g26 : Addr} {od26 an26 : Option Addr} {sl26 : Array (Option Value)} {oc26 kV26 dc26 pm26 cd26 ct26 : Value}
    {g27 : Addr} {od27 an27 : Option Addr} {sl27 : Array (Option Value)} {oc27 kV27 dc27 pm27 cd27 ct27 : Value}
    {g28 : Addr} {od28 an28 : Option Addr} {sl28 : Array (Option Value)} {oc28 kV28 dc28 pm28 cd28 ct28 : Value}
    {g29 : Addr} {od29 an29 : Option Addr} {sl29 : Array (Option Value)} {oc29 kV29 dc29 pm29 cd29 ct29 : Value}
    {g30 : Addr} {od30 an30 : Option Addr} {sl30 : Array (Option Value)} {oc30 kV30 dc30 pm30 cd30 ct30 : Value}
    {g31 : Addr} {od31 an31 : Option Addr} {sl31 : Array (Option Value)} {oc31 kV31 dc31 pm31 cd31 ct31 : Value}
    {g32 : Addr} {od32 an32 : Option Addr} {sl32 : Array (Option Value)} {oc32 kV32 dc32 pm32 cd32 ct32 : Value}
    {g33 : Addr} {od33 an33 : Option Addr} {sl33 : Array (Option Value)} {oc33 kV33 dc33 pm33 cd33 ct33 : Value}
    {g34 : Addr} {od34 an34 : Option Addr} {sl34 : Array (Option Value)} {oc34 kV34 dc34 pm34 cd34 ct34 : Value}
    {g35 : Addr} {od35 an35 : Option Addr} {sl35 : Array (Option Value)} {oc35 kV35 dc35 pm35 cd35 ct35 : Value}
    {g36 : Addr} {od36 an36 : Option Addr} {sl36 : Array (Option Value)} {oc36 kV36 dc36 pm36 cd36 ct36 : Value}
    {g37 : Addr} {od37 an37 : Option Addr} {sl37 : Array (Option Value)} {oc37 kV37 dc37 pm37 cd37 ct37 : Value}
    {g38 : Addr} {od38 an38 : Option Addr} {sl38 : Array (Option Value)} {oc38 kV38 dc38 pm38 cd38 ct38 : Value}
    {g39 : Addr} {od39 an39 : Option Addr} {sl39 : Array (Option Value)} {oc39 kV39 dc39 pm39 cd39 ct39 : Value}
    {g40 : Addr} {od40 an40 : Option Addr} {sl40 : Array (Option Value)} {oc40 kV40 dc40 pm40 cd40 ct40 : Value}
    {g41 : Addr} {od41 an41 : Option Addr} {sl41 : Array (Option Value)} {oc41 kV41 dc41 pm41 cd41 ct41 : Value}
    {g42 : Addr} {od42 an42 : Option Addr} {sl42 : Array (Option Value)} {oc42 kV42 dc42 pm42 cd42 ct42 : Value}
    {g43 : Addr} {od43 an43 : Option Addr} {sl43 : Array (Option Value)} {oc43 kV43 dc43 pm43 cd43 ct43 : Value}
    {g44 : Addr} {od44 an44 : Option Addr} {sl44 : Array (Option Value)} {oc44 kV44 dc44 pm44 cd44 ct44 : Value}
    {g45 : Addr} {od45 an45 : Option Addr} {sl45 : Array (Option Value)} {oc45 kV45 dc45 pm45 cd45 ct45 : Value}
    {g46 : Addr} {od46 an46 : Option Addr} {sl46 : Array (Option Value)} {oc46 kV46 dc46 pm46 cd46 ct46 : Value}
    {g47 : Addr} {od47 an47 : Option Addr} {sl47 : Array (Option Value)} {oc47 kV47 dc47 pm47 cd47 ct47 : Value}
    {g48 : Addr} {od48 an48 : Option Addr} {sl48 : Array (Option Value)} {oc48 kV48 dc48 pm48 cd48 ct48 : Value}
    {g49 : Addr} {od49 an49 : Option Addr} {sl49 : Array (Option Value)} {oc49 kV49 dc49 pm49 cd49 ct49 : Value}
    {g50 : Addr} {od50 an50 : Option Addr} {sl50 : Array (Option Value)} {oc50 kV50 dc50 pm50 cd50 ct50 : Value}
    {g51 : Addr} {od51 an51 : Option Addr} {sl51 : Array (Option Value)} {oc51 kV51 dc51 pm51 cd51 ct51 : Value}
    {g52 : Addr} {od52 an52 : Option Addr} {sl52 : Array (Option Value)} {oc52 kV52 dc52 pm52 cd52 ct52 : Value}
    {g53 : Addr} {od53 an53 : Option Addr} {sl53 : Array (Option Value)} {oc53 kV53 dc53 pm53 cd53 ct53 : Value}
    {g54 : Addr} {od54 an54 : Option Addr} {sl54 : Array (Option Value)} {oc54 kV54 dc54 pm54 cd54 ct54 : Value}
    {g55 : Addr} {od55 an55 : Option Addr} {sl55 : Array (Option Value)} {oc55 kV55 dc55 pm55 cd55 ct55 : Value}
    {g56 : Addr} {od56 an56 : Option Addr} {sl56 : Array (Option Value)} {oc56 kV56 dc56 pm56 cd56 ct56 : Value}
    {g57 : Addr} {od57 an57 : Option Addr} {sl57 : Array (Option Value)} {oc57 kV57 dc57 pm57 cd57 ct57 : Value}
    {g58 : Addr} {od58 an58 : Option Addr} {sl58 : Array (Option Value)} {oc58 kV58 dc58 pm58 cd58 ct58 : Value}
    {g59 : Addr} {od59 an59 : Option Addr} {sl59 : Array (Option Value)} {oc59 kV59 dc59 pm59 cd59 ct59 : Value}
    {g60 : Addr} {od60 an60 : Option Addr} {sl60 : Array (Option Value)} {oc60 kV60 dc60 pm60 cd60 ct60 : Value}
    {g61 : Addr} {od61 an61 : Option Addr} {sl61 : Array (Option Value)} {oc61 kV61 dc61 pm61 cd61 ct61 : Value}
    {g62 : Addr} {od62 an62 : Option Addr} {sl62 : Array (Option Value)} {oc62 kV62 dc62 pm62 cd62 ct62 : Value}
    {g63 : Addr} {od63 an63 : Option Addr} {sl63 : Array (Option Value)} {oc63 kV63 dc63 pm63 cd63 ct63 : Value}
    {g64 : Addr} {od64 an64 : Option Addr} {sl64 : Array (Option Value)} {oc64 kV64 dc64 pm64 cd64 ct64 : Value}
    {g65 : Addr} {od65 an65 : Option Addr} {sl65 : Array (Option Value)} {oc65 kV65 dc65 pm65 cd65 ct65 : Value}
    {g66 : Addr} {od66 an66 : Option Addr} {sl66 : Array (Option Value)} {oc66 kV66 dc66 pm66 cd66 ct66 : Value}
    {g67 : Addr} {od67 an67 : Option Addr} {sl67 : Array (Option Value)} {oc67 kV67 dc67 pm67 cd67 ct67 : Value}
    {g68 : Addr} {od68 an68 : Option Addr} {sl68 : Array (Option Value)} {oc68 kV68 dc68 pm68 cd68 ct68 : Value}
    {g69 : Addr} {od69 an69 : Option Addr} {sl69 : Array (Option Value)} {oc69 kV69 dc69 pm69 cd69 ct69 : Value}
    {g70 : Addr} {od70 an70 : Option Addr} {sl70 : Array (Option Value)} {oc70 kV70 dc70 pm70 cd70 ct70 : Value}
    {g71 : Addr} {od71 an71 : Option Addr} {sl71 : Array (Option Value)} {oc71 kV71 dc71 pm71 cd71 ct71 : Value}
    {g72 : Addr} {od72 an72 : Option Addr} {sl72 : Array (Option Value)} {oc72 kV72 dc72 pm72 cd72 ct72 : Value}
    {g73 : Addr} {od73 an73 : Option Addr} {sl73 : Array (Option Value)} {oc73 kV73 dc73 pm73 cd73 ct73 : Value}
    {g74 : Addr} {od74 an74 : Option Addr} {sl74 : Array (Option Value)} {oc74 kV74 dc74 pm74 cd74 ct74 : Value}
    {g75 : Addr} {od75 an75 : Option Addr} {sl75 : Array (Option Value)} {oc75 kV75 dc75 pm75 cd75 ct75 : Value}
    {g76 : Addr} {od76 an76 : Option Addr} {sl76 : Array (Option Value)} {oc76 kV76 dc76 pm76 cd76 ct76 : Value}
    {g77 : Addr} {od77 an77 : Option Addr} {sl77 : Array (Option Value)} {oc77 kV77 dc77 pm77 cd77 ct77 : Value}
    {zONE : Addr} {odONE : Option Addr} {nONE : Nat} {slONE : Array (Option Value)} {tONE0 : Tok} {tONE1 : Tok}
    {zZERO : Addr} {odZERO : Option Addr} {nZERO : Nat} {slZERO : Array (Option Value)} {tZERO0 : Tok} {tZERO1 : Tok}
    (a0 : PySem.W.nsIn K mainGlobals "is_integer" = some (some (.ref g0))) (l0 : K.lookup g0 = some ⟨oc0, od0, .func (PySem.W.fnOf "is_integer" "is_integer" (defArgs s_is_integer) (defBody s_is_integer) (defScope s_is_integer) .none kV0 dc0 pm0 an0 cd0 ct0), sl0⟩) (c0 : PySem.W.codeIn K cd0 "is_integer" = true) (k0 : PySem.W.keepIn K (.ref g0) = true)
    (a1 : PySem.W.nsIn K mainGlobals "is_natural" = some (some (.ref g1))) (l1 : K.lookup g1 = some ⟨oc1, od1, .func (PySem.W.fnOf "is_natural" "is_natural" (defArgs s_is_natural) (defBody s_is_natural) (defScope s_is_natural) .none kV1 dc1 pm1 an1 cd1 ct1), sl1⟩) (c1 : PySem.W.codeIn K cd1 "is_natural" = true) (k1 : PySem.W.keepIn K (.ref g1) = true)
    (a2 : PySem.W.nsIn K mainGlobals "is_below" = some (some (.ref g2))) (l2 : K.lookup g2 = some ⟨oc2, od2, .func (PySem.W.fnOf "is_below" "is_below" (defArgs s_is_below) (defBody s_is_below) (defScope s_is_below) .none kV2 dc2 pm2 an2 cd2 ct2), sl2⟩) (c2 : PySem.W.codeIn K cd2 "is_below" = true) (k2 : PySem.W.keepIn K (.ref g2) = true)
    (a3 : PySem.W.nsIn K mainGlobals "is_pair" = some (some (.ref g3))) (l3 : K.lookup g3 = some ⟨oc3, od3, .func (PySem.W.fnOf "is_pair" "is_pair" (defArgs s_is_pair) (defBody s_is_pair) (defScope s_is_pair) .none kV3 dc3 pm3 an3 cd3 ct3), sl3⟩) (c3 : PySem.W.codeIn K cd3 "is_pair" = true) (k3 : PySem.W.keepIn K (.ref g3) = true)
    (a4 : PySem.W.nsIn K mainGlobals "is_ascending" = some (some (.ref g4))) (l4 : K.lookup g4 = some ⟨oc4, od4, .func (PySem.W.fnOf "is_ascending" "is_ascending" (defArgs s_is_ascending) (defBody s_is_ascending) (defScope s_is_ascending) .none kV4 dc4 pm4 an4 cd4 ct4), sl4⟩) (c4 : PySem.W.codeIn K cd4 "is_ascending" = true) (k4 : PySem.W.keepIn K (.ref g4) = true)
    (a5 : PySem.W.nsIn K mainGlobals "lowest" = some (some (.ref g5))) (l5 : K.lookup g5 = some ⟨oc5, od5, .func (PySem.W.fnOf "lowest" "lowest" (defArgs s_lowest) (defBody s_lowest) (defScope s_lowest) .none kV5 dc5 pm5 an5 cd5 ct5), sl5⟩) (c5 : PySem.W.codeIn K cd5 "lowest" = true) (k5 : PySem.W.keepIn K (.ref g5) = true)
    (a6 : PySem.W.nsIn K mainGlobals "is_number_of" = some (some (.ref g6))) (l6 : K.lookup g6 = some ⟨oc6, od6, .func (PySem.W.fnOf "is_number_of" "is_number_of" (defArgs s_is_number_of) (defBody s_is_number_of) (defScope s_is_number_of) .none kV6 dc6 pm6 an6 cd6 ct6), sl6⟩) (c6 : PySem.W.codeIn K cd6 "is_number_of" = true) (k6 : PySem.W.keepIn K (.ref g6) = true)
    (a7 : PySem.W.nsIn K mainGlobals "is_part_of_one" = some (some (.ref g7))) (l7 : K.lookup g7 = some ⟨oc7, od7, .func (PySem.W.fnOf "is_part_of_one" "is_part_of_one" (defArgs s_is_part_of_one) (defBody s_is_part_of_one) (defScope s_is_part_of_one) .none kV7 dc7 pm7 an7 cd7 ct7), sl7⟩) (c7 : PySem.W.codeIn K cd7 "is_part_of_one" = true) (k7 : PySem.W.keepIn K (.ref g7) = true)
    (a8 : PySem.W.nsIn K mainGlobals "whole" = some (some (.ref g8))) (l8 : K.lookup g8 = some ⟨oc8, od8, .func (PySem.W.fnOf "whole" "whole" (defArgs s_whole) (defBody s_whole) (defScope s_whole) .none kV8 dc8 pm8 an8 cd8 ct8), sl8⟩) (c8 : PySem.W.codeIn K cd8 "whole" = true) (k8 : PySem.W.keepIn K (.ref g8) = true)
    (a9 : PySem.W.nsIn K mainGlobals "sum_of_two" = some (some (.ref g9))) (l9 : K.lookup g9 = some ⟨oc9, od9, .func (PySem.W.fnOf "sum_of_two" "sum_of_two" (defArgs s_sum_of_two) (defBody s_sum_of_two) (defScope s_sum_of_two) .none kV9 dc9 pm9 an9 cd9 ct9), sl9⟩) (c9 : PySem.W.codeIn K cd9 "sum_of_two" = true) (k9 : PySem.W.keepIn K (.ref g9) = true)
    (a10 : PySem.W.nsIn K mainGlobals "difference" = some (some (.ref g10))) (l10 : K.lookup g10 = some ⟨oc10, od10, .func (PySem.W.fnOf "difference" "difference" (defArgs s_difference) (defBody s_difference) (defScope s_difference) .none kV10 dc10 pm10 an10 cd10 ct10), sl10⟩) (c10 : PySem.W.codeIn K cd10 "difference" = true) (k10 : PySem.W.keepIn K (.ref g10) = true)
    (a11 : PySem.W.nsIn K mainGlobals "product" = some (some (.ref g11))) (l11 : K.lookup g11 = some ⟨oc11, od11, .func (PySem.W.fnOf "product" "product" (defArgs s_product) (defBody s_product) (defScope s_product) .none kV11 dc11 pm11 an11 cd11 ct11), sl11⟩) (c11 : PySem.W.codeIn K cd11 "product" = true) (k11 : PySem.W.keepIn K (.ref g11) = true)
    (a12 : PySem.W.nsIn K mainGlobals "quotient" = some (some (.ref g12))) (l12 : K.lookup g12 = some ⟨oc12, od12, .func (PySem.W.fnOf "quotient" "quotient" (defArgs s_quotient) (defBody s_quotient) (defScope s_quotient) .none kV12 dc12 pm12 an12 cd12 ct12), sl12⟩) (c12 : PySem.W.codeIn K cd12 "quotient" = true) (k12 : PySem.W.keepIn K (.ref g12) = true)
    (a13 : PySem.W.nsIn K mainGlobals "is_less" = some (some (.ref g13))) (l13 : K.lookup g13 = some ⟨oc13, od13, .func (PySem.W.fnOf "is_less" "is_less" (defArgs s_is_less) (defBody s_is_less) (defScope s_is_less) .none kV13 dc13 pm13 an13 cd13 ct13), sl13⟩) (c13 : PySem.W.codeIn K cd13 "is_less" = true) (k13 : PySem.W.keepIn K (.ref g13) = true)
    (a14 : PySem.W.nsIn K mainGlobals "sum_of_all" = some (some (.ref g14))) (l14 : K.lookup g14 = some ⟨oc14, od14, .func (PySem.W.fnOf "sum_of_all" "sum_of_all" (defArgs s_sum_of_all) (defBody s_sum_of_all) (defScope s_sum_of_all) .none kV14 dc14 pm14 an14 cd14 ct14), sl14⟩) (c14 : PySem.W.codeIn K cd14 "sum_of_all" = true) (k14 : PySem.W.keepIn K (.ref g14) = true)
    (a15 : PySem.W.nsIn K mainGlobals "power" = some (some (.ref g15))) (l15 : K.lookup g15 = some ⟨oc15, od15, .func (PySem.W.fnOf "power" "power" (defArgs s_power) (defBody s_power) (defScope s_power) .none kV15 dc15 pm15 an15 cd15 ct15), sl15⟩) (c15 : PySem.W.codeIn K cd15 "power" = true) (k15 : PySem.W.keepIn K (.ref g15) = true)
    (a16 : PySem.W.nsIn K mainGlobals "by_halves" = some (some (.ref g16))) (l16 : K.lookup g16 = some ⟨oc16, od16, .func (PySem.W.fnOf "by_halves" "by_halves" (defArgs s_by_halves) (defBody s_by_halves) (defScope s_by_halves) .none kV16 dc16 pm16 an16 cd16 ct16), sl16⟩) (c16 : PySem.W.codeIn K cd16 "by_halves" = true) (k16 : PySem.W.keepIn K (.ref g16) = true)
    (a17 : PySem.W.nsIn K mainGlobals "check_part" = some (some (.ref g17))) (l17 : K.lookup g17 = some ⟨oc17, od17, .func (PySem.W.fnOf "check_part" "check_part" (defArgs s_check_part) (defBody s_check_part) (defScope s_check_part) .none kV17 dc17 pm17 an17 cd17 ct17), sl17⟩) (c17 : PySem.W.codeIn K cd17 "check_part" = true) (k17 : PySem.W.keepIn K (.ref g17) = true)
    (a18 : PySem.W.nsIn K mainGlobals "check_natural" = some (some (.ref g18))) (l18 : K.lookup g18 = some ⟨oc18, od18, .func (PySem.W.fnOf "check_natural" "check_natural" (defArgs s_check_natural) (defBody s_check_natural) (defScope s_check_natural) .none kV18 dc18 pm18 an18 cd18 ct18), sl18⟩) (c18 : PySem.W.codeIn K cd18 "check_natural" = true) (k18 : PySem.W.keepIn K (.ref g18) = true)
    (a19 : PySem.W.nsIn K mainGlobals "rest_of" = some (some (.ref g19))) (l19 : K.lookup g19 = some ⟨oc19, od19, .func (PySem.W.fnOf "rest_of" "rest_of" (defArgs s_rest_of) (defBody s_rest_of) (defScope s_rest_of) .none kV19 dc19 pm19 an19 cd19 ct19), sl19⟩) (c19 : PySem.W.codeIn K cd19 "rest_of" = true) (k19 : PySem.W.keepIn K (.ref g19) = true)
    (a20 : PySem.W.nsIn K mainGlobals "figure_of" = some (some (.ref g20))) (l20 : K.lookup g20 = some ⟨oc20, od20, .func (PySem.W.fnOf "figure_of" "figure_of" (defArgs s_figure_of) (defBody s_figure_of) (defScope s_figure_of) .none kV20 dc20 pm20 an20 cd20 ct20), sl20⟩) (c20 : PySem.W.codeIn K cd20 "figure_of" = true) (k20 : PySem.W.keepIn K (.ref g20) = true)
    (a21 : PySem.W.nsIn K mainGlobals "shortest" = some (some (.ref g21))) (l21 : K.lookup g21 = some ⟨oc21, od21, .func (PySem.W.fnOf "shortest" "shortest" (defArgs s_shortest) (defBody s_shortest) (defScope s_shortest) .none kV21 dc21 pm21 an21 cd21 ct21), sl21⟩) (c21 : PySem.W.codeIn K cd21 "shortest" = true) (k21 : PySem.W.keepIn K (.ref g21) = true)
    (a22 : PySem.W.nsIn K mainGlobals "figures_of" = some (some (.ref g22))) (l22 : K.lookup g22 = some ⟨oc22, od22, .func (PySem.W.fnOf "figures_of" "figures_of" (defArgs s_figures_of) (defBody s_figures_of) (defScope s_figures_of) .none kV22 dc22 pm22 an22 cd22 ct22), sl22⟩) (c22 : PySem.W.codeIn K cd22 "figures_of" = true) (k22 : PySem.W.keepIn K (.ref g22) = true)
    (a23 : PySem.W.nsIn K mainGlobals "figures" = some (some (.ref g23))) (l23 : K.lookup g23 = some ⟨oc23, od23, .func (PySem.W.fnOf "figures" "figures" (defArgs s_figures) (defBody s_figures) (defScope s_figures) .none kV23 dc23 pm23 an23 cd23 ct23), sl23⟩) (c23 : PySem.W.codeIn K cd23 "figures" = true) (k23 : PySem.W.keepIn K (.ref g23) = true)
    (a24 : PySem.W.nsIn K mainGlobals "sum_of_figures" = some (some (.ref g24))) (l24 : K.lookup g24 = some ⟨oc24, od24, .func (PySem.W.fnOf "sum_of_figures" "sum_of_figures" (defArgs s_sum_of_figures) (defBody s_sum_of_figures) (defScope s_sum_of_figures) .none kV24 dc24 pm24 an24 cd24 ct24), sl24⟩) (c24 : PySem.W.codeIn K cd24 "sum_of_figures" = true) (k24 : PySem.W.keepIn K (.ref g24) = true)
    (a25 : PySem.W.nsIn K mainGlobals "again_and_again" = some (some (.ref g25))) (l25 : K.lookup g25 = some ⟨oc25, od25, .func (PySem.W.fnOf "again_and_again" "again_and_again" (defArgs s_again_and_again) (defBody s_again_and_again) (defScope s_again_and_again) .none kV25 dc25 pm25 an25 cd25 ct25), sl25⟩) (c25 : PySem.W.codeIn K cd25 "again_and_again" = true) (k25 : PySem.W.keepIn K (.ref g25) = true)
    (a26 : PySem.W.nsIn K mainGlobals "figure" = some (some (.ref g26))) (l26 : K.lookup g26 = some ⟨oc26, od26, .func (PySem.W.fnOf "figure" "figure" (defArgs s_figure) (defBody s_figure) (defScope s_figure) .none kV26 dc26 pm26 an26 cd26 ct26), sl26⟩) (c26 : PySem.W.codeIn K cd26 "figure" = true) (k26 : PySem.W.keepIn K (.ref g26) = true)
    (a27 : PySem.W.nsIn K mainGlobals "cost_of" = some (some (.ref g27))) (l27 : K.lookup g27 = some ⟨oc27, od27, .func (PySem.W.fnOf "cost_of" "cost_of" (defArgs s_cost_of) (defBody s_cost_of) (defScope s_cost_of) .none kV27 dc27 pm27 an27 cd27 ct27), sl27⟩) (c27 : PySem.W.codeIn K cd27 "cost_of" = true) (k27 : PySem.W.keepIn K (.ref g27) = true)
    (a28 : PySem.W.nsIn K mainGlobals "cost" = some (some (.ref g28))) (l28 : K.lookup g28 = some ⟨oc28, od28, .func (PySem.W.fnOf "cost" "cost" (defArgs s_cost) (defBody s_cost) (defScope s_cost) .none kV28 dc28 pm28 an28 cd28 ct28), sl28⟩) (c28 : PySem.W.codeIn K cd28 "cost" = true) (k28 : PySem.W.keepIn K (.ref g28) = true)
    (a29 : PySem.W.nsIn K mainGlobals "rest" = some (some (.ref g29))) (l29 : K.lookup g29 = some ⟨oc29, od29, .func (PySem.W.fnOf "rest" "rest" (defArgs s_rest) (defBody s_rest) (defScope s_rest) .none kV29 dc29 pm29 an29 cd29 ct29), sl29⟩) (c29 : PySem.W.codeIn K cd29 "rest" = true) (k29 : PySem.W.keepIn K (.ref g29) = true)
    (a30 : PySem.W.nsIn K mainGlobals "is_shares_of" = some (some (.ref g30))) (l30 : K.lookup g30 = some ⟨oc30, od30, .func (PySem.W.fnOf "is_shares_of" "is_shares_of" (defArgs s_is_shares_of) (defBody s_is_shares_of) (defScope s_is_shares_of) .none kV30 dc30 pm30 an30 cd30 ct30), sl30⟩) (c30 : PySem.W.codeIn K cd30 "is_shares_of" = true) (k30 : PySem.W.keepIn K (.ref g30) = true)
    (a31 : PySem.W.nsIn K mainGlobals "is_shares" = some (some (.ref g31))) (l31 : K.lookup g31 = some ⟨oc31, od31, .func (PySem.W.fnOf "is_shares" "is_shares" (defArgs s_is_shares) (defBody s_is_shares) (defScope s_is_shares) .none kV31 dc31 pm31 an31 cd31 ct31), sl31⟩) (c31 : PySem.W.codeIn K cd31 "is_shares" = true) (k31 : PySem.W.keepIn K (.ref g31) = true)
    (a32 : PySem.W.nsIn K mainGlobals "check_shares" = some (some (.ref g32))) (l32 : K.lookup g32 = some ⟨oc32, od32, .func (PySem.W.fnOf "check_shares" "check_shares" (defArgs s_check_shares) (defBody s_check_shares) (defScope s_check_shares) .none kV32 dc32 pm32 an32 cd32 ct32), sl32⟩) (c32 : PySem.W.codeIn K cd32 "check_shares" = true) (k32 : PySem.W.keepIn K (.ref g32) = true)
    (a33 : PySem.W.nsIn K mainGlobals "are_things" = some (some (.ref g33))) (l33 : K.lookup g33 = some ⟨oc33, od33, .func (PySem.W.fnOf "are_things" "are_things" (defArgs s_are_things) (defBody s_are_things) (defScope s_are_things) .none kV33 dc33 pm33 an33 cd33 ct33), sl33⟩) (c33 : PySem.W.codeIn K cd33 "are_things" = true) (k33 : PySem.W.keepIn K (.ref g33) = true)
    (a34 : PySem.W.nsIn K mainGlobals "put_together_of" = some (some (.ref g34))) (l34 : K.lookup g34 = some ⟨oc34, od34, .func (PySem.W.fnOf "put_together_of" "put_together_of" (defArgs s_put_together_of) (defBody s_put_together_of) (defScope s_put_together_of) .none kV34 dc34 pm34 an34 cd34 ct34), sl34⟩) (c34 : PySem.W.codeIn K cd34 "put_together_of" = true) (k34 : PySem.W.keepIn K (.ref g34) = true)
    (a35 : PySem.W.nsIn K mainGlobals "put_together" = some (some (.ref g35))) (l35 : K.lookup g35 = some ⟨oc35, od35, .func (PySem.W.fnOf "put_together" "put_together" (defArgs s_put_together) (defBody s_put_together) (defScope s_put_together) .none kV35 dc35 pm35 an35 cd35 ct35), sl35⟩) (c35 : PySem.W.codeIn K cd35 "put_together" = true) (k35 : PySem.W.keepIn K (.ref g35) = true)
    (a36 : PySem.W.nsIn K mainGlobals "check_thing" = some (some (.ref g36))) (l36 : K.lookup g36 = some ⟨oc36, od36, .func (PySem.W.fnOf "check_thing" "check_thing" (defArgs s_check_thing) (defBody s_check_thing) (defScope s_check_thing) .none kV36 dc36 pm36 an36 cd36 ct36), sl36⟩) (c36 : PySem.W.codeIn K cd36 "check_thing" = true) (k36 : PySem.W.keepIn K (.ref g36) = true)
    (a37 : PySem.W.nsIn K mainGlobals "parted" = some (some (.ref g37))) (l37 : K.lookup g37 = some ⟨oc37, od37, .func (PySem.W.fnOf "parted" "parted" (defArgs s_parted) (defBody s_parted) (defScope s_parted) .none kV37 dc37 pm37 an37 cd37 ct37), sl37⟩) (c37 : PySem.W.codeIn K cd37 "parted" = true) (k37 : PySem.W.keepIn K (.ref g37) = true)
    (a38 : PySem.W.nsIn K mainGlobals "both_of" = some (some (.ref g38))) (l38 : K.lookup g38 = some ⟨oc38, od38, .func (PySem.W.fnOf "both_of" "both_of" (defArgs s_both_of) (defBody s_both_of) (defScope s_both_of) .none kV38 dc38 pm38 an38 cd38 ct38), sl38⟩) (c38 : PySem.W.codeIn K cd38 "both_of" = true) (k38 : PySem.W.keepIn K (.ref g38) = true)
    (a39 : PySem.W.nsIn K mainGlobals "both" = some (some (.ref g39))) (l39 : K.lookup g39 = some ⟨oc39, od39, .func (PySem.W.fnOf "both" "both" (defArgs s_both) (defBody s_both) (defScope s_both) .none kV39 dc39 pm39 an39 cd39 ct39), sl39⟩) (c39 : PySem.W.codeIn K cd39 "both" = true) (k39 : PySem.W.keepIn K (.ref g39) = true)
    (a40 : PySem.W.nsIn K mainGlobals "check_throws" = some (some (.ref g40))) (l40 : K.lookup g40 = some ⟨oc40, od40, .func (PySem.W.fnOf "check_throws" "check_throws" (defArgs s_check_throws) (defBody s_check_throws) (defScope s_check_throws) .none kV40 dc40 pm40 an40 cd40 ct40), sl40⟩) (c40 : PySem.W.codeIn K cd40 "check_throws" = true) (k40 : PySem.W.keepIn K (.ref g40) = true)
    (a41 : PySem.W.nsIn K mainGlobals "doublings" = some (some (.ref g41))) (l41 : K.lookup g41 = some ⟨oc41, od41, .func (PySem.W.fnOf "doublings" "doublings" (defArgs s_doublings) (defBody s_doublings) (defScope s_doublings) .none kV41 dc41 pm41 an41 cd41 ct41), sl41⟩) (c41 : PySem.W.codeIn K cd41 "doublings" = true) (k41 : PySem.W.keepIn K (.ref g41) = true)
    (a42 : PySem.W.nsIn K mainGlobals "toss_cost" = some (some (.ref g42))) (l42 : K.lookup g42 = some ⟨oc42, od42, .func (PySem.W.fnOf "toss_cost" "toss_cost" (defArgs s_toss_cost) (defBody s_toss_cost) (defScope s_toss_cost) .none kV42 dc42 pm42 an42 cd42 ct42), sl42⟩) (c42 : PySem.W.codeIn K cd42 "toss_cost" = true) (k42 : PySem.W.keepIn K (.ref g42) = true)
    (a43 : PySem.W.nsIn K mainGlobals "many_of" = some (some (.ref g43))) (l43 : K.lookup g43 = some ⟨oc43, od43, .func (PySem.W.fnOf "many_of" "many_of" (defArgs s_many_of) (defBody s_many_of) (defScope s_many_of) .none kV43 dc43 pm43 an43 cd43 ct43), sl43⟩) (c43 : PySem.W.codeIn K cd43 "many_of" = true) (k43 : PySem.W.keepIn K (.ref g43) = true)
    (a44 : PySem.W.nsIn K mainGlobals "many" = some (some (.ref g44))) (l44 : K.lookup g44 = some ⟨oc44, od44, .func (PySem.W.fnOf "many" "many" (defArgs s_many) (defBody s_many) (defScope s_many) .none kV44 dc44 pm44 an44 cd44 ct44), sl44⟩) (c44 : PySem.W.codeIn K cd44 "many" = true) (k44 : PySem.W.keepIn K (.ref g44) = true)
    (a45 : PySem.W.nsIn K mainGlobals "even_of" = some (some (.ref g45))) (l45 : K.lookup g45 = some ⟨oc45, od45, .func (PySem.W.fnOf "even_of" "even_of" (defArgs s_even_of) (defBody s_even_of) (defScope s_even_of) .none kV45 dc45 pm45 an45 cd45 ct45), sl45⟩) (c45 : PySem.W.codeIn K cd45 "even_of" = true) (k45 : PySem.W.keepIn K (.ref g45) = true)
    (a46 : PySem.W.nsIn K mainGlobals "even_mean" = some (some (.ref g46))) (l46 : K.lookup g46 = some ⟨oc46, od46, .func (PySem.W.fnOf "even_mean" "even_mean" (defArgs s_even_mean) (defBody s_even_mean) (defScope s_even_mean) .none kV46 dc46 pm46 an46 cd46 ct46), sl46⟩) (c46 : PySem.W.codeIn K cd46 "even_mean" = true) (k46 : PySem.W.keepIn K (.ref g46) = true)
    (a47 : PySem.W.nsIn K mainGlobals "shuffle_mean" = some (some (.ref g47))) (l47 : K.lookup g47 = some ⟨oc47, od47, .func (PySem.W.fnOf "shuffle_mean" "shuffle_mean" (defArgs s_shuffle_mean) (defBody s_shuffle_mean) (defScope s_shuffle_mean) .none kV47 dc47 pm47 an47 cd47 ct47), sl47⟩) (c47 : PySem.W.codeIn K cd47 "shuffle_mean" = true) (k47 : PySem.W.keepIn K (.ref g47) = true)
    (a48 : PySem.W.nsIn K mainGlobals "lot_mean" = some (some (.ref g48))) (l48 : K.lookup g48 = some ⟨oc48, od48, .func (PySem.W.fnOf "lot_mean" "lot_mean" (defArgs s_lot_mean) (defBody s_lot_mean) (defScope s_lot_mean) .none kV48 dc48 pm48 an48 cd48 ct48), sl48⟩) (c48 : PySem.W.codeIn K cd48 "lot_mean" = true) (k48 : PySem.W.keepIn K (.ref g48) = true)
    (a49 : PySem.W.nsIn K mainGlobals "least_mean_of" = some (some (.ref g49))) (l49 : K.lookup g49 = some ⟨oc49, od49, .func (PySem.W.fnOf "least_mean_of" "least_mean_of" (defArgs s_least_mean_of) (defBody s_least_mean_of) (defScope s_least_mean_of) .none kV49 dc49 pm49 an49 cd49 ct49), sl49⟩) (c49 : PySem.W.codeIn K cd49 "least_mean_of" = true) (k49 : PySem.W.keepIn K (.ref g49) = true)
    (a50 : PySem.W.nsIn K mainGlobals "least_mean" = some (some (.ref g50))) (l50 : K.lookup g50 = some ⟨oc50, od50, .func (PySem.W.fnOf "least_mean" "least_mean" (defArgs s_least_mean) (defBody s_least_mean) (defScope s_least_mean) .none kV50 dc50 pm50 an50 cd50 ct50), sl50⟩) (c50 : PySem.W.codeIn K cd50 "least_mean" = true) (k50 : PySem.W.keepIn K (.ref g50) = true)
    (a51 : PySem.W.nsIn K mainGlobals "mean_of_shares" = some (some (.ref g51))) (l51 : K.lookup g51 = some ⟨oc51, od51, .func (PySem.W.fnOf "mean_of_shares" "mean_of_shares" (defArgs s_mean_of_shares) (defBody s_mean_of_shares) (defScope s_mean_of_shares) .none kV51 dc51 pm51 an51 cd51 ct51), sl51⟩) (c51 : PySem.W.codeIn K cd51 "mean_of_shares" = true) (k51 : PySem.W.keepIn K (.ref g51) = true)
    (a52 : PySem.W.nsIn K mainGlobals "saved" = some (some (.ref g52))) (l52 : K.lookup g52 = some ⟨oc52, od52, .func (PySem.W.fnOf "saved" "saved" (defArgs s_saved) (defBody s_saved) (defScope s_saved) .none kV52 dc52 pm52 an52 cd52 ct52), sl52⟩) (c52 : PySem.W.codeIn K cd52 "saved" = true) (k52 : PySem.W.keepIn K (.ref g52) = true)
    (a53 : PySem.W.nsIn K mainGlobals "least_tail_of" = some (some (.ref g53))) (l53 : K.lookup g53 = some ⟨oc53, od53, .func (PySem.W.fnOf "least_tail_of" "least_tail_of" (defArgs s_least_tail_of) (defBody s_least_tail_of) (defScope s_least_tail_of) .none kV53 dc53 pm53 an53 cd53 ct53), sl53⟩) (c53 : PySem.W.codeIn K cd53 "least_tail_of" = true) (k53 : PySem.W.keepIn K (.ref g53) = true)
    (a54 : PySem.W.nsIn K mainGlobals "least_tail" = some (some (.ref g54))) (l54 : K.lookup g54 = some ⟨oc54, od54, .func (PySem.W.fnOf "least_tail" "least_tail" (defArgs s_least_tail) (defBody s_least_tail) (defScope s_least_tail) .none kV54 dc54 pm54 an54 cd54 ct54), sl54⟩) (c54 : PySem.W.codeIn K cd54 "least_tail" = true) (k54 : PySem.W.keepIn K (.ref g54) = true)
    (a55 : PySem.W.nsIn K mainGlobals "halvings" = some (some (.ref g55))) (l55 : K.lookup g55 = some ⟨oc55, od55, .func (PySem.W.fnOf "halvings" "halvings" (defArgs s_halvings) (defBody s_halvings) (defScope s_halvings) .none kV55 dc55 pm55 an55 cd55 ct55), sl55⟩) (c55 : PySem.W.codeIn K cd55 "halvings" = true) (k55 : PySem.W.keepIn K (.ref g55) = true)
    (a56 : PySem.W.nsIn K mainGlobals "surely" = some (some (.ref g56))) (l56 : K.lookup g56 = some ⟨oc56, od56, .func (PySem.W.fnOf "surely" "surely" (defArgs s_surely) (defBody s_surely) (defScope s_surely) .none kV56 dc56 pm56 an56 cd56 ct56), sl56⟩) (c56 : PySem.W.codeIn K cd56 "surely" = true) (k56 : PySem.W.keepIn K (.ref g56) = true)
    (a57 : PySem.W.nsIn K mainGlobals "within" = some (some (.ref g57))) (l57 : K.lookup g57 = some ⟨oc57, od57, .func (PySem.W.fnOf "within" "within" (defArgs s_within) (defBody s_within) (defScope s_within) .none kV57 dc57 pm57 an57 cd57 ct57), sl57⟩) (c57 : PySem.W.codeIn K cd57 "within" = true) (k57 : PySem.W.keepIn K (.ref g57) = true)
    (a58 : PySem.W.nsIn K mainGlobals "_law_bag" = some (some (.ref g58))) (l58 : K.lookup g58 = some ⟨oc58, od58, .func (PySem.W.fnOf "_law_bag" "_law_bag" (defArgs s_law_bag) (defBody s_law_bag) (defScope s_law_bag) .none kV58 dc58 pm58 an58 cd58 ct58), sl58⟩) (c58 : PySem.W.codeIn K cd58 "_law_bag" = true) (k58 : PySem.W.keepIn K (.ref g58) = true)
    (a59 : PySem.W.nsIn K mainGlobals "_law_take" = some (some (.ref g59))) (l59 : K.lookup g59 = some ⟨oc59, od59, .func (PySem.W.fnOf "_law_take" "_law_take" (defArgs s_law_take) (defBody s_law_take) (defScope s_law_take) .none kV59 dc59 pm59 an59 cd59 ct59), sl59⟩) (c59 : PySem.W.codeIn K cd59 "_law_take" = true) (k59 : PySem.W.keepIn K (.ref g59) = true)
    (a60 : PySem.W.nsIn K mainGlobals "_law_low" = some (some (.ref g60))) (l60 : K.lookup g60 = some ⟨oc60, od60, .func (PySem.W.fnOf "_law_low" "_law_low" (defArgs s_law_low) (defBody s_law_low) (defScope s_law_low) .none kV60 dc60 pm60 an60 cd60 ct60), sl60⟩) (c60 : PySem.W.codeIn K cd60 "_law_low" = true) (k60 : PySem.W.keepIn K (.ref g60) = true)
    (a61 : PySem.W.nsIn K mainGlobals "_law_plus" = some (some (.ref g61))) (l61 : K.lookup g61 = some ⟨oc61, od61, .func (PySem.W.fnOf "_law_plus" "_law_plus" (defArgs s_law_plus) (defBody s_law_plus) (defScope s_law_plus) .none kV61 dc61 pm61 an61 cd61 ct61), sl61⟩) (c61 : PySem.W.codeIn K cd61 "_law_plus" = true) (k61 : PySem.W.keepIn K (.ref g61) = true)
    (a62 : PySem.W.nsIn K mainGlobals "_law_times" = some (some (.ref g62))) (l62 : K.lookup g62 = some ⟨oc62, od62, .func (PySem.W.fnOf "_law_times" "_law_times" (defArgs s_law_times) (defBody s_law_times) (defScope s_law_times) .none kV62 dc62 pm62 an62 cd62 ct62), sl62⟩) (c62 : PySem.W.codeIn K cd62 "_law_times" = true) (k62 : PySem.W.keepIn K (.ref g62) = true)
    (a63 : PySem.W.nsIn K mainGlobals "_law_sum" = some (some (.ref g63))) (l63 : K.lookup g63 = some ⟨oc63, od63, .func (PySem.W.fnOf "_law_sum" "_law_sum" (defArgs s_law_sum) (defBody s_law_sum) (defScope s_law_sum) .none kV63 dc63 pm63 an63 cd63 ct63), sl63⟩) (c63 : PySem.W.codeIn K cd63 "_law_sum" = true) (k63 : PySem.W.keepIn K (.ref g63) = true)
    (a64 : PySem.W.nsIn K mainGlobals "_law_two" = some (some (.ref g64))) (l64 : K.lookup g64 = some ⟨oc64, od64, .func (PySem.W.fnOf "_law_two" "_law_two" (defArgs s_law_two) (defBody s_law_two) (defScope s_law_two) .none kV64 dc64 pm64 an64 cd64 ct64), sl64⟩) (c64 : PySem.W.codeIn K cd64 "_law_two" = true) (k64 : PySem.W.keepIn K (.ref g64) = true)
    (a65 : PySem.W.nsIn K mainGlobals "_law_shares" = some (some (.ref g65))) (l65 : K.lookup g65 = some ⟨oc65, od65, .func (PySem.W.fnOf "_law_shares" "_law_shares" (defArgs s_law_shares) (defBody s_law_shares) (defScope s_law_shares) .none kV65 dc65 pm65 an65 cd65 ct65), sl65⟩) (c65 : PySem.W.codeIn K cd65 "_law_shares" = true) (k65 : PySem.W.keepIn K (.ref g65) = true)
    (a66 : PySem.W.nsIn K mainGlobals "_law_rest" = some (some (.ref g66))) (l66 : K.lookup g66 = some ⟨oc66, od66, .func (PySem.W.fnOf "_law_rest" "_law_rest" (defArgs s_law_rest) (defBody s_law_rest) (defScope s_law_rest) .none kV66 dc66 pm66 an66 cd66 ct66), sl66⟩) (c66 : PySem.W.codeIn K cd66 "_law_rest" = true) (k66 : PySem.W.keepIn K (.ref g66) = true)
    (a67 : PySem.W.nsIn K mainGlobals "_law_figure" = some (some (.ref g67))) (l67 : K.lookup g67 = some ⟨oc67, od67, .func (PySem.W.fnOf "_law_figure" "_law_figure" (defArgs s_law_figure) (defBody s_law_figure) (defScope s_law_figure) .none kV67 dc67 pm67 an67 cd67 ct67), sl67⟩) (c67 : PySem.W.codeIn K cd67 "_law_figure" = true) (k67 : PySem.W.keepIn K (.ref g67) = true)
    (a68 : PySem.W.nsIn K mainGlobals "_law_cost" = some (some (.ref g68))) (l68 : K.lookup g68 = some ⟨oc68, od68, .func (PySem.W.fnOf "_law_cost" "_law_cost" (defArgs s_law_cost) (defBody s_law_cost) (defScope s_law_cost) .none kV68 dc68 pm68 an68 cd68 ct68), sl68⟩) (c68 : PySem.W.codeIn K cd68 "_law_cost" = true) (k68 : PySem.W.keepIn K (.ref g68) = true)
    (a69 : PySem.W.nsIn K mainGlobals "_law_least" = some (some (.ref g69))) (l69 : K.lookup g69 = some ⟨oc69, od69, .func (PySem.W.fnOf "_law_least" "_law_least" (defArgs s_law_least) (defBody s_law_least) (defScope s_law_least) .none kV69 dc69 pm69 an69 cd69 ct69), sl69⟩) (c69 : PySem.W.codeIn K cd69 "_law_least" = true) (k69 : PySem.W.keepIn K (.ref g69) = true)
    (a70 : PySem.W.nsIn K mainGlobals "_law_under" = some (some (.ref g70))) (l70 : K.lookup g70 = some ⟨oc70, od70, .func (PySem.W.fnOf "_law_under" "_law_under" (defArgs s_law_under) (defBody s_law_under) (defScope s_law_under) .none kV70 dc70 pm70 an70 cd70 ct70), sl70⟩) (c70 : PySem.W.codeIn K cd70 "_law_under" = true) (k70 : PySem.W.keepIn K (.ref g70) = true)
    (a71 : PySem.W.nsIn K mainGlobals "_law_both" = some (some (.ref g71))) (l71 : K.lookup g71 = some ⟨oc71, od71, .func (PySem.W.fnOf "_law_both" "_law_both" (defArgs s_law_both) (defBody s_law_both) (defScope s_law_both) .none kV71 dc71 pm71 an71 cd71 ct71), sl71⟩) (c71 : PySem.W.codeIn K cd71 "_law_both" = true) (k71 : PySem.W.keepIn K (.ref g71) = true)
    (a72 : PySem.W.nsIn K mainGlobals "_law_figures_right" = some (some (.ref g72))) (l72 : K.lookup g72 = some ⟨oc72, od72, .func (PySem.W.fnOf "_law_figures_right" "_law_figures_right" (defArgs s_law_figures_right) (defBody s_law_figures_right) (defScope s_law_figures_right) .none kV72 dc72 pm72 an72 cd72 ct72), sl72⟩) (c72 : PySem.W.codeIn K cd72 "_law_figures_right" = true) (k72 : PySem.W.keepIn K (.ref g72) = true)
    (a73 : PySem.W.nsIn K mainGlobals "_law_tails_right" = some (some (.ref g73))) (l73 : K.lookup g73 = some ⟨oc73, od73, .func (PySem.W.fnOf "_law_tails_right" "_law_tails_right" (defArgs s_law_tails_right) (defBody s_law_tails_right) (defScope s_law_tails_right) .none kV73 dc73 pm73 an73 cd73 ct73), sl73⟩) (c73 : PySem.W.codeIn K cd73 "_law_tails_right" = true) (k73 : PySem.W.keepIn K (.ref g73) = true)
    (a74 : PySem.W.nsIn K mainGlobals "_law_changed_right" = some (some (.ref g74))) (l74 : K.lookup g74 = some ⟨oc74, od74, .func (PySem.W.fnOf "_law_changed_right" "_law_changed_right" (defArgs s_law_changed_right) (defBody s_law_changed_right) (defScope s_law_changed_right) .none kV74 dc74 pm74 an74 cd74 ct74), sl74⟩) (c74 : PySem.W.codeIn K cd74 "_law_changed_right" = true) (k74 : PySem.W.keepIn K (.ref g74) = true)
    (a75 : PySem.W.nsIn K mainGlobals "_law_rows_right" = some (some (.ref g75))) (l75 : K.lookup g75 = some ⟨oc75, od75, .func (PySem.W.fnOf "_law_rows_right" "_law_rows_right" (defArgs s_law_rows_right) (defBody s_law_rows_right) (defScope s_law_rows_right) .none kV75 dc75 pm75 an75 cd75 ct75), sl75⟩) (c75 : PySem.W.codeIn K cd75 "_law_rows_right" = true) (k75 : PySem.W.keepIn K (.ref g75) = true)
    (a76 : PySem.W.nsIn K mainGlobals "_law_right" = some (some (.ref g76))) (l76 : K.lookup g76 = some ⟨oc76, od76, .func (PySem.W.fnOf "_law_right" "_law_right" (defArgs s_law_right) (defBody s_law_right) (defScope s_law_right) .none kV76 dc76 pm76 an76 cd76 ct76), sl76⟩) (c76 : PySem.W.codeIn K cd76 "_law_right" = true) (k76 : PySem.W.keepIn K (.ref g76) = true)
    (a77 : PySem.W.nsIn K mainGlobals "law" = some (some (.ref g77))) (l77 : K.lookup g77 = some ⟨oc77, od77, .func (PySem.W.fnOf "law" "law" (defArgs s_law) (defBody s_law) (defScope s_law) .none kV77 dc77 pm77 an77 cd77 ct77), sl77⟩) (c77 : PySem.W.codeIn K cd77 "law" = true) (k77 : PySem.W.keepIn K (.ref g77) = true)
    (z_abs : PySem.W.nsIn K mainGlobals "abs" = some none)
    (z_all : PySem.W.nsIn K mainGlobals "all" = some none)
    (z_bool : PySem.W.nsIn K mainGlobals "bool" = some none)
    (z_enumerate : PySem.W.nsIn K mainGlobals "enumerate" = some none)
    (z_int : PySem.W.nsIn K mainGlobals "int" = some none)
    (z_isinstance : PySem.W.nsIn K mainGlobals "isinstance" = some none)
    (z_len : PySem.W.nsIn K mainGlobals "len" = some none)
    (z_list : PySem.W.nsIn K mainGlobals "list" = some none)
    (z_max : PySem.W.nsIn K mainGlobals "max" = some none)
    (z_min : PySem.W.nsIn K mainGlobals "min" = some none)
    (z_range : PySem.W.nsIn K mainGlobals "range" = some none)
    (z_set : PySem.W.nsIn K mainGlobals "set" = some none)
    (z_sorted : PySem.W.nsIn K mainGlobals "sorted" = some none)
    (z_sum : PySem.W.nsIn K mainGlobals "sum" = some none)
    (z_tuple : PySem.W.nsIn K mainGlobals "tuple" = some none)
    (yONE : PySem.W.nsIn K mainGlobals "ONE" = some (some (.ref zONE))) (xONE : K.lookup zONE = some ⟨.type "tuple", odONE, .seq #[.int 1 tONE0, .int 1 tONE1] nONE, slONE⟩)
    (yZERO : PySem.W.nsIn K mainGlobals "ZERO" = some (some (.ref zZERO))) (xZERO : K.lookup zZERO = some ⟨.type "tuple", odZERO, .seq #[.int 0 tZERO0, .int 1 tZERO1] nZERO, slZERO⟩)
    (i_comb : PySem.W.nsIn K mainGlobals "comb" = some (some (.builtin "math.comb")))
    (i_factorial : PySem.W.nsIn K mainGlobals "factorial" = some (some (.builtin "math.factorial")))
    (i_gcd : PySem.W.nsIn K mainGlobals "gcd" = some (some (.builtin "math.gcd"))) :
    ∃ fd : FuncData, (∀ (s : Shared) (u : Value), BindsTo s fd ⟨[u], []⟩ [("script", u)]) ∧ ∀ base : Heap, K.In base → base.Ns mainGlobals mg → FnOk l.prog w K mg base (L2.CX l.prog w) 10 fa fd ["script"] (toSp K sp_law) := by
  exact all_of {
    a_is_integer := g0, fd_is_integer := _, m_is_integer := PySem.W.mg_of X G a0, F_is_integer := fun_mk (st := s_is_integer) l0 c0 k0, d_is_integer := (fun_mk (st := s_is_integer) l0 c0 k0).binds (ps := ["value"]) (fun _ _ _ _ _ _ us hl => match us, hl with | [_], _ => rfl),
    a_is_natural := g1, fd_is_natural := _, m_is_natural := PySem.W.mg_of X G a1, F_is_natural := fun_mk (st := s_is_natural) l1 c1 k1, d_is_natural := (fun_mk (st := s_is_natural) l1 c1 k1).binds (ps := ["value"]) (fun _ _ _ _ _ _ us hl => match us, hl with | [_], _ => rfl),
    a_is_below := g2, fd_is_below := _, m_is_below := PySem.W.mg_of X G a2, F_is_below := fun_mk (st := s_is_below) l2 c2 k2, d_is_below := (fun_mk (st := s_is_below) l2 c2 k2).binds (ps := ["value", "many"]) (fun _ _ _ _ _ _ us hl => match us, hl with | [_, _], _ => rfl),
    a_is_pair := g3, fd_is_pair := _, m_is_pair := PySem.W.mg_of X G a3, F_is_pair := fun_mk (st := s_is_pair) l3 c3 k3, d_is_pair := (fun_mk (st := s_is_pair) l3 c3 k3).binds (ps := ["value"]) (fun _ _ _ _ _ _ us hl => match us, hl with | [_], _ => rfl),
    a_is_ascending := g4, fd_is_ascending := _, m_is_ascending := PySem.W.mg_of X G a4, F_is_ascending := fun_mk (st := s_is_ascending) l4 c4 k4, d_is_ascending := (fun_mk (st := s_is_ascending) l4 c4 k4).binds (ps := ["row"]) (fun _ _ _ _ _ _ us hl => match us, hl with | [_], _ => rfl),
    a_lowest := g5, fd_lowest := _, m_lowest := PySem.W.mg_of X G a5, F_lowest := fun_mk (st := s_lowest) l5 c5 k5, d_lowest := (fun_mk (st := s_lowest) l5 c5 k5).binds (ps := ["top", "bottom"]) (fun _ _ _ _ _ _ us hl => match us, hl with | [_, _], _ => rfl),
    a_is_number_of := g6, fd_is_number_of := _, m_is_number_of := PySem.W.mg_of X G a6, F_is_number_of := fun_mk (st := s_is_number_of) l6 c6 k6, d_is_number_of := (fun_mk (st := s_is_number_of) l6 c6 k6).binds (ps := ["told"]) (fun _ _ _ _ _ _ us hl => match us, hl with | [_], _ => rfl),
    a_is_part_of_one := g7, fd_is_part_of_one := _, m_is_part_of_one := PySem.W.mg_of X G a7, F_is_part_of_one := fun_mk (st := s_is_part_of_one) l7 c7 k7, d_is_part_of_one := (fun_mk (st := s_is_part_of_one) l7 c7 k7).binds (ps := ["told"]) (fun _ _ _ _ _ _ us hl => match us, hl with | [_], _ => rfl),
    a_whole := g8, fd_whole := _, m_whole := PySem.W.mg_of X G a8, F_whole := fun_mk (st := s_whole) l8 c8 k8, d_whole := (fun_mk (st := s_whole) l8 c8 k8).binds (ps := ["a"]) (fun _ _ _ _ _ _ us hl => match us, hl with | [_], _ => rfl),
    a_sum_of_two := g9, fd_sum_of_two := _, m_sum_of_two := PySem.W.mg_of X G a9, F_sum_of_two := fun_mk (st := s_sum_of_two) l9 c9 k9, d_sum_of_two := (fun_mk (st := s_sum_of_two) l9 c9 k9).binds (ps := ["a", "b"]) (fun _ _ _ _ _ _ us hl => match us, hl with | [_, _], _ => rfl),
    a_difference := g10, fd_difference := _, m_difference := PySem.W.mg_of X G a10, F_difference := fun_mk (st := s_difference) l10 c10 k10, d_difference := (fun_mk (st := s_difference) l10 c10 k10).binds (ps := ["a", "b"]) (fun _ _ _ _ _ _ us hl => match us, hl with | [_, _], _ => rfl),
    a_product := g11, fd_product := _, m_product := PySem.W.mg_of X G a11, F_product := fun_mk (st := s_product) l11 c11 k11, d_product := (fun_mk (st := s_product) l11 c11 k11).binds (ps := ["a", "b"]) (fun _ _ _ _ _ _ us hl => match us, hl with | [_, _], _ => rfl),
    a_quotient := g12, fd_quotient := _, m_quotient := PySem.W.mg_of X G a12, F_quotient := fun_mk (st := s_quotient) l12 c12 k12, d_quotient := (fun_mk (st := s_quotient) l12 c12 k12).binds (ps := ["a", "b"]) (fun _ _ _ _ _ _ us hl => match us, hl with | [_, _], _ => rfl),
    a_is_less := g13, fd_is_less := _, m_is_less := PySem.W.mg_of X G a13, F_is_less := fun_mk (st := s_is_less) l13 c13 k13, d_is_less := (fun_mk (st := s_is_less) l13 c13 k13).binds (ps := ["a", "b"]) (fun _ _ _ _ _ _ us hl => match us, hl with | [_, _], _ => rfl),
    a_sum_of_all := g14, fd_sum_of_all := _, m_sum_of_all := PySem.W.mg_of X G a14, F_sum_of_all := fun_mk (st := s_sum_of_all) l14 c14 k14, d_sum_of_all := (fun_mk (st := s_sum_of_all) l14 c14 k14).binds (ps := ["numbers"]) (fun _ _ _ _ _ _ us hl => match us, hl with | [_], _ => rfl),
    a_power := g15, fd_power := _, m_power := PySem.W.mg_of X G a15, F_power := fun_mk (st := s_power) l15 c15 k15, d_power := (fun_mk (st := s_power) l15 c15 k15).binds (ps := ["b", "n"]) (fun _ _ _ _ _ _ us hl => match us, hl with | [_, _], _ => rfl),
    a_by_halves := g16, fd_by_halves := _, m_by_halves := PySem.W.mg_of X G a16, F_by_halves := fun_mk (st := s_by_halves) l16 c16 k16, d_by_halves := (fun_mk (st := s_by_halves) l16 c16 k16).binds (ps := ["a", "k"]) (fun _ _ _ _ _ _ us hl => match us, hl with | [_, _], _ => rfl),
    a_check_part := g17, fd_check_part := _, m_check_part := PySem.W.mg_of X G a17, F_check_part := fun_mk (st := s_check_part) l17 c17 k17, d_check_part := (fun_mk (st := s_check_part) l17 c17 k17).binds (ps := ["number"]) (fun _ _ _ _ _ _ us hl => match us, hl with | [_], _ => rfl),
    a_check_natural := g18, fd_check_natural := _, m_check_natural := PySem.W.mg_of X G a18, F_check_natural := fun_mk (st := s_check_natural) l18 c18 k18, d_check_natural := (fun_mk (st := s_check_natural) l18 c18 k18).binds (ps := ["k"]) (fun _ _ _ _ _ _ us hl => match us, hl with | [_], _ => rfl),
    a_rest_of := g19, fd_rest_of := _, m_rest_of := PySem.W.mg_of X G a19, F_rest_of := fun_mk (st := s_rest_of) l19 c19 k19, d_rest_of := (fun_mk (st := s_rest_of) l19 c19 k19).binds (ps := ["number", "k"]) (fun _ _ _ _ _ _ us hl => match us, hl with | [_, _], _ => rfl),
    a_figure_of := g20, fd_figure_of := _, m_figure_of := PySem.W.mg_of X G a20, F_figure_of := fun_mk (st := s_figure_of) l20 c20 k20, d_figure_of := (fun_mk (st := s_figure_of) l20 c20 k20).binds (ps := ["number", "k"]) (fun _ _ _ _ _ _ us hl => match us, hl with | [_, _], _ => rfl),
    a_shortest := g21, fd_shortest := _, m_shortest := PySem.W.mg_of X G a21, F_shortest := fun_mk (st := s_shortest) l21 c21 k21, d_shortest := (fun_mk (st := s_shortest) l21 c21 k21).binds (ps := ["ahead", "again"]) (fun _ _ _ _ _ _ us hl => match us, hl with | [_, _], _ => rfl),
    a_figures_of := g22, fd_figures_of := _, m_figures_of := PySem.W.mg_of X G a22, F_figures_of := fun_mk (st := s_figures_of) l22 c22 k22, d_figures_of := (fun_mk (st := s_figures_of) l22 c22 k22).binds (ps := ["number"]) (fun _ _ _ _ _ _ us hl => match us, hl with | [_], _ => rfl),
    a_figures := g23, fd_figures := _, m_figures := PySem.W.mg_of X G a23, F_figures := fun_mk (st := s_figures) l23 c23 k23, d_figures := (fun_mk (st := s_figures) l23 c23 k23).binds (ps := ["number"]) (fun _ _ _ _ _ _ us hl => match us, hl with | [_], _ => rfl),
    a_sum_of_figures := g24, fd_sum_of_figures := _, m_sum_of_figures := PySem.W.mg_of X G a24, F_sum_of_figures := fun_mk (st := s_sum_of_figures) l24 c24 k24, d_sum_of_figures := (fun_mk (st := s_sum_of_figures) l24 c24 k24).binds (ps := ["some", "begin"]) (fun _ _ _ _ _ _ us hl => match us, hl with | [_, _], _ => rfl),
    a_again_and_again := g25, fd_again_and_again := _, m_again_and_again := PySem.W.mg_of X G a25, F_again_and_again := fun_mk (st := s_again_and_again) l25 c25 k25, d_again_and_again := (fun_mk (st := s_again_and_again) l25 c25 k25).binds (ps := ["first", "many"]) (fun _ _ _ _ _ _ us hl => match us, hl with | [_, _], _ => rfl),
    a_figure := g26, fd_figure := _, m_figure := PySem.W.mg_of X G a26, F_figure := fun_mk (st := s_figure) l26 c26 k26, d_figure := (fun_mk (st := s_figure) l26 c26 k26).binds (ps := ["number", "k"]) (fun _ _ _ _ _ _ us hl => match us, hl with | [_, _], _ => rfl),
    a_cost_of := g27, fd_cost_of := _, m_cost_of := PySem.W.mg_of X G a27, F_cost_of := fun_mk (st := s_cost_of) l27 c27 k27, d_cost_of := (fun_mk (st := s_cost_of) l27 c27 k27).binds (ps := ["number"]) (fun _ _ _ _ _ _ us hl => match us, hl with | [_], _ => rfl),
    a_cost := g28, fd_cost := _, m_cost := PySem.W.mg_of X G a28, F_cost := fun_mk (st := s_cost) l28 c28 k28, d_cost := (fun_mk (st := s_cost) l28 c28 k28).binds (ps := ["number"]) (fun _ _ _ _ _ _ us hl => match us, hl with | [_], _ => rfl),
    a_rest := g29, fd_rest := _, m_rest := PySem.W.mg_of X G a29, F_rest := fun_mk (st := s_rest) l29 c29 k29, d_rest := (fun_mk (st := s_rest) l29 c29 k29).binds (ps := ["number", "k"]) (fun _ _ _ _ _ _ us hl => match us, hl with | [_, _], _ => rfl),
    a_is_shares_of := g30, fd_is_shares_of := _, m_is_shares_of := PySem.W.mg_of X G a30, F_is_shares_of := fun_mk (st := s_is_shares_of) l30 c30 k30, d_is_shares_of := (fun_mk (st := s_is_shares_of) l30 c30 k30).binds (ps := ["told"]) (fun _ _ _ _ _ _ us hl => match us, hl with | [_], _ => rfl),
    a_is_shares := g31, fd_is_shares := _, m_is_shares := PySem.W.mg_of X G a31, F_is_shares := fun_mk (st := s_is_shares) l31 c31 k31, d_is_shares := (fun_mk (st := s_is_shares) l31 c31 k31).binds (ps := ["told"]) (fun _ _ _ _ _ _ us hl => match us, hl with | [_], _ => rfl),
    a_check_shares := g32, fd_check_shares := _, m_check_shares := PySem.W.mg_of X G a32, F_check_shares := fun_mk (st := s_check_shares) l32 c32 k32, d_check_shares := (fun_mk (st := s_check_shares) l32 c32 k32).binds (ps := ["shares"]) (fun _ _ _ _ _ _ us hl => match us, hl with | [_], _ => rfl),
    a_are_things := g33, fd_are_things := _, m_are_things := PySem.W.mg_of X G a33, F_are_things := fun_mk (st := s_are_things) l33 c33 k33, d_are_things := (fun_mk (st := s_are_things) l33 c33 k33).binds (ps := ["shares", "told"]) (fun _ _ _ _ _ _ us hl => match us, hl with | [_, _], _ => rfl),
    a_put_together_of := g34, fd_put_together_of := _, m_put_together_of := PySem.W.mg_of X G a34, F_put_together_of := fun_mk (st := s_put_together_of) l34 c34 k34, d_put_together_of := (fun_mk (st := s_put_together_of) l34 c34 k34).binds (ps := ["shares", "things"]) (fun _ _ _ _ _ _ us hl => match us, hl with | [_, _], _ => rfl),
    a_put_together := g35, fd_put_together := _, m_put_together := PySem.W.mg_of X G a35, F_put_together := fun_mk (st := s_put_together) l35 c35 k35, d_put_together := (fun_mk (st := s_put_together) l35 c35 k35).binds (ps := ["shares", "things"]) (fun _ _ _ _ _ _ us hl => match us, hl with | [_, _], _ => rfl),
    a_check_thing := g36, fd_check_thing := _, m_check_thing := PySem.W.mg_of X G a36, F_check_thing := fun_mk (st := s_check_thing) l36 c36 k36, d_check_thing := (fun_mk (st := s_check_thing) l36 c36 k36).binds (ps := ["shares", "thing"]) (fun _ _ _ _ _ _ us hl => match us, hl with | [_, _], _ => rfl),
    a_parted := g37, fd_parted := _, m_parted := PySem.W.mg_of X G a37, F_parted := fun_mk (st := s_parted) l37 c37 k37, d_parted := (fun_mk (st := s_parted) l37 c37 k37).binds (ps := ["shares", "thing", "parts"]) (fun _ _ _ _ _ _ us hl => match us, hl with | [_, _, _], _ => rfl),
    a_both_of := g38, fd_both_of := _, m_both_of := PySem.W.mg_of X G a38, F_both_of := fun_mk (st := s_both_of) l38 c38 k38, d_both_of := (fun_mk (st := s_both_of) l38 c38 k38).binds (ps := ["one", "other"]) (fun _ _ _ _ _ _ us hl => match us, hl with | [_, _], _ => rfl),
    a_both := g39, fd_both := _, m_both := PySem.W.mg_of X G a39, F_both := fun_mk (st := s_both) l39 c39 k39, d_both := (fun_mk (st := s_both) l39 c39 k39).binds (ps := ["one", "other"]) (fun _ _ _ _ _ _ us hl => match us, hl with | [_, _], _ => rfl),
    a_check_throws := g40, fd_check_throws := _, m_check_throws := PySem.W.mg_of X G a40, F_check_throws := fun_mk (st := s_check_throws) l40 c40 k40, d_check_throws := (fun_mk (st := s_check_throws) l40 c40 k40).binds (ps := ["n"]) (fun _ _ _ _ _ _ us hl => match us, hl with | [_], _ => rfl),
    a_doublings := g41, fd_doublings := _, m_doublings := PySem.W.mg_of X G a41, F_doublings := fun_mk (st := s_doublings) l41 c41 k41, d_doublings := (fun_mk (st := s_doublings) l41 c41 k41).binds (ps := ["bottom"]) (fun _ _ _ _ _ _ us hl => match us, hl with | [_], _ => rfl),
    a_toss_cost := g42, fd_toss_cost := _, m_toss_cost := PySem.W.mg_of X G a42, F_toss_cost := fun_mk (st := s_toss_cost) l42 c42 k42, d_toss_cost := (fun_mk (st := s_toss_cost) l42 c42 k42).binds (ps := ["number"]) (fun _ _ _ _ _ _ us hl => match us, hl with | [_], _ => rfl),
    a_many_of := g43, fd_many_of := _, m_many_of := PySem.W.mg_of X G a43, F_many_of := fun_mk (st := s_many_of) l43 c43 k43, d_many_of := (fun_mk (st := s_many_of) l43 c43 k43).binds (ps := ["shares", "k"]) (fun _ _ _ _ _ _ us hl => match us, hl with | [_, _], _ => rfl),
    a_many := g44, fd_many := _, m_many := PySem.W.mg_of X G a44, F_many := fun_mk (st := s_many) l44 c44 k44, d_many := (fun_mk (st := s_many) l44 c44 k44).binds (ps := ["shares", "k"]) (fun _ _ _ _ _ _ us hl => match us, hl with | [_, _], _ => rfl),
    a_even_of := g45, fd_even_of := _, m_even_of := PySem.W.mg_of X G a45, F_even_of := fun_mk (st := s_even_of) l45 c45 k45, d_even_of := (fun_mk (st := s_even_of) l45 c45 k45).binds (ps := ["n"]) (fun _ _ _ _ _ _ us hl => match us, hl with | [_], _ => rfl),
    a_even_mean := g46, fd_even_mean := _, m_even_mean := PySem.W.mg_of X G a46, F_even_mean := fun_mk (st := s_even_mean) l46 c46 k46, d_even_mean := (fun_mk (st := s_even_mean) l46 c46 k46).binds (ps := ["n"]) (fun _ _ _ _ _ _ us hl => match us, hl with | [_], _ => rfl),
    a_shuffle_mean := g47, fd_shuffle_mean := _, m_shuffle_mean := PySem.W.mg_of X G a47, F_shuffle_mean := fun_mk (st := s_shuffle_mean) l47 c47 k47, d_shuffle_mean := (fun_mk (st := s_shuffle_mean) l47 c47 k47).binds (ps := ["n"]) (fun _ _ _ _ _ _ us hl => match us, hl with | [_], _ => rfl),
    a_lot_mean := g48, fd_lot_mean := _, m_lot_mean := PySem.W.mg_of X G a48, F_lot_mean := fun_mk (st := s_lot_mean) l48 c48 k48, d_lot_mean := (fun_mk (st := s_lot_mean) l48 c48 k48).binds (ps := ["n", "k"]) (fun _ _ _ _ _ _ us hl => match us, hl with | [_, _], _ => rfl),
    a_least_mean_of := g49, fd_least_mean_of := _, m_least_mean_of := PySem.W.mg_of X G a49, F_least_mean_of := fun_mk (st := s_least_mean_of) l49 c49 k49, d_least_mean_of := (fun_mk (st := s_least_mean_of) l49 c49 k49).binds (ps := ["shares"]) (fun _ _ _ _ _ _ us hl => match us, hl with | [_], _ => rfl),
    a_least_mean := g50, fd_least_mean := _, m_least_mean := PySem.W.mg_of X G a50, F_least_mean := fun_mk (st := s_least_mean) l50 c50 k50, d_least_mean := (fun_mk (st := s_least_mean) l50 c50 k50).binds (ps := ["shares"]) (fun _ _ _ _ _ _ us hl => match us, hl with | [_], _ => rfl),
    a_mean_of_shares := g51, fd_mean_of_shares := _, m_mean_of_shares := PySem.W.mg_of X G a51, F_mean_of_shares := fun_mk (st := s_mean_of_shares) l51 c51 k51, d_mean_of_shares := (fun_mk (st := s_mean_of_shares) l51 c51 k51).binds (ps := ["shares"]) (fun _ _ _ _ _ _ us hl => match us, hl with | [_], _ => rfl),
    a_saved := g52, fd_saved := _, m_saved := PySem.W.mg_of X G a52, F_saved := fun_mk (st := s_saved) l52 c52 k52, d_saved := (fun_mk (st := s_saved) l52 c52 k52).binds (ps := ["shares", "k"]) (fun _ _ _ _ _ _ us hl => match us, hl with | [_, _], _ => rfl),
    a_least_tail_of := g53, fd_least_tail_of := _, m_least_tail_of := PySem.W.mg_of X G a53, F_least_tail_of := fun_mk (st := s_least_tail_of) l53 c53 k53, d_least_tail_of := (fun_mk (st := s_least_tail_of) l53 c53 k53).binds (ps := ["shares", "k"]) (fun _ _ _ _ _ _ us hl => match us, hl with | [_, _], _ => rfl),
    a_least_tail := g54, fd_least_tail := _, m_least_tail := PySem.W.mg_of X G a54, F_least_tail := fun_mk (st := s_least_tail) l54 c54 k54, d_least_tail := (fun_mk (st := s_least_tail) l54 c54 k54).binds (ps := ["shares", "k"]) (fun _ _ _ _ _ _ us hl => match us, hl with | [_, _], _ => rfl),
    a_halvings := g55, fd_halvings := _, m_halvings := PySem.W.mg_of X G a55, F_halvings := fun_mk (st := s_halvings) l55 c55 k55, d_halvings := (fun_mk (st := s_halvings) l55 c55 k55).binds (ps := ["bottom"]) (fun _ _ _ _ _ _ us hl => match us, hl with | [_], _ => rfl),
    a_surely := g56, fd_surely := _, m_surely := PySem.W.mg_of X G a56, F_surely := fun_mk (st := s_surely) l56 c56 k56, d_surely := (fun_mk (st := s_surely) l56 c56 k56).binds (ps := ["shares"]) (fun _ _ _ _ _ _ us hl => match us, hl with | [_], _ => rfl),
    a_within := g57, fd_within := _, m_within := PySem.W.mg_of X G a57, F_within := fun_mk (st := s_within) l57 c57 k57, d_within := (fun_mk (st := s_within) l57 c57 k57).binds (ps := ["shares", "far"]) (fun _ _ _ _ _ _ us hl => match us, hl with | [_, _], _ => rfl),
    a_law_bag := g58, fd_law_bag := _, m_law_bag := PySem.W.mg_of X G a58, F_law_bag := fun_mk (st := s_law_bag) l58 c58 k58, d_law_bag := (fun_mk (st := s_law_bag) l58 c58 k58).binds (ps := ["script", "k"]) (fun _ _ _ _ _ _ us hl => match us, hl with | [_, _], _ => rfl),
    a_law_take := g59, fd_law_take := _, m_law_take := PySem.W.mg_of X G a59, F_law_take := fun_mk (st := s_law_take) l59 c59 k59, d_law_take := (fun_mk (st := s_law_take) l59 c59 k59).binds (ps := ["bag", "below"]) (fun _ _ _ _ _ _ us hl => match us, hl with | [_, _], _ => rfl),
    a_law_low := g60, fd_law_low := _, m_law_low := PySem.W.mg_of X G a60, F_law_low := fun_mk (st := s_law_low) l60 c60 k60, d_law_low := (fun_mk (st := s_law_low) l60 c60 k60).binds (ps := ["top", "bottom"]) (fun _ _ _ _ _ _ us hl => match us, hl with | [_, _], _ => rfl),
    a_law_plus := g61, fd_law_plus := _, m_law_plus := PySem.W.mg_of X G a61, F_law_plus := fun_mk (st := s_law_plus) l61 c61 k61, d_law_plus := (fun_mk (st := s_law_plus) l61 c61 k61).binds (ps := ["one", "other"]) (fun _ _ _ _ _ _ us hl => match us, hl with | [_, _], _ => rfl),
    a_law_times := g62, fd_law_times := _, m_law_times := PySem.W.mg_of X G a62, F_law_times := fun_mk (st := s_law_times) l62 c62 k62, d_law_times := (fun_mk (st := s_law_times) l62 c62 k62).binds (ps := ["one", "other"]) (fun _ _ _ _ _ _ us hl => match us, hl with | [_, _], _ => rfl),
    a_law_sum := g63, fd_law_sum := _, m_law_sum := PySem.W.mg_of X G a63, F_law_sum := fun_mk (st := s_law_sum) l63 c63 k63, d_law_sum := (fun_mk (st := s_law_sum) l63 c63 k63).binds (ps := ["numbers"]) (fun _ _ _ _ _ _ us hl => match us, hl with | [_], _ => rfl),
    a_law_two := g64, fd_law_two := _, m_law_two := PySem.W.mg_of X G a64, F_law_two := fun_mk (st := s_law_two) l64 c64 k64, d_law_two := (fun_mk (st := s_law_two) l64 c64 k64).binds (ps := ["k"]) (fun _ _ _ _ _ _ us hl => match us, hl with | [_], _ => rfl),
    a_law_shares := g65, fd_law_shares := _, m_law_shares := PySem.W.mg_of X G a65, F_law_shares := fun_mk (st := s_law_shares) l65 c65 k65, d_law_shares := (fun_mk (st := s_law_shares) l65 c65 k65).binds (ps := ["bag", "limit"]) (fun _ _ _ _ _ _ us hl => match us, hl with | [_, _], _ => rfl),
    a_law_rest := g66, fd_law_rest := _, m_law_rest := PySem.W.mg_of X G a66, F_law_rest := fun_mk (st := s_law_rest) l66 c66 k66, d_law_rest := (fun_mk (st := s_law_rest) l66 c66 k66).binds (ps := ["number", "k"]) (fun _ _ _ _ _ _ us hl => match us, hl with | [_, _], _ => rfl),
    a_law_figure := g67, fd_law_figure := _, m_law_figure := PySem.W.mg_of X G a67, F_law_figure := fun_mk (st := s_law_figure) l67 c67 k67, d_law_figure := (fun_mk (st := s_law_figure) l67 c67 k67).binds (ps := ["number", "k"]) (fun _ _ _ _ _ _ us hl => match us, hl with | [_, _], _ => rfl),
    a_law_cost := g68, fd_law_cost := _, m_law_cost := PySem.W.mg_of X G a68, F_law_cost := fun_mk (st := s_law_cost) l68 c68 k68, d_law_cost := (fun_mk (st := s_law_cost) l68 c68 k68).binds (ps := ["number"]) (fun _ _ _ _ _ _ us hl => match us, hl with | [_], _ => rfl),
    a_law_least := g69, fd_law_least := _, m_law_least := PySem.W.mg_of X G a69, F_law_least := fun_mk (st := s_law_least) l69 c69 k69, d_law_least := (fun_mk (st := s_law_least) l69 c69 k69).binds (ps := ["shares"]) (fun _ _ _ _ _ _ us hl => match us, hl with | [_], _ => rfl),
    a_law_under := g70, fd_law_under := _, m_law_under := PySem.W.mg_of X G a70, F_law_under := fun_mk (st := s_law_under) l70 c70 k70, d_law_under := (fun_mk (st := s_law_under) l70 c70 k70).binds (ps := ["one", "other"]) (fun _ _ _ _ _ _ us hl => match us, hl with | [_, _], _ => rfl),
    a_law_both := g71, fd_law_both := _, m_law_both := PySem.W.mg_of X G a71, F_law_both := fun_mk (st := s_law_both) l71 c71 k71, d_law_both := (fun_mk (st := s_law_both) l71 c71 k71).binds (ps := ["one", "other"]) (fun _ _ _ _ _ _ us hl => match us, hl with | [_, _], _ => rfl),
    a_law_figures_right := g72, fd_law_figures_right := _, m_law_figures_right := PySem.W.mg_of X G a72, F_law_figures_right := fun_mk (st := s_law_figures_right) l72 c72 k72, d_law_figures_right := (fun_mk (st := s_law_figures_right) l72 c72 k72).binds (ps := ["bag", "number"]) (fun _ _ _ _ _ _ us hl => match us, hl with | [_, _], _ => rfl),
    a_law_tails_right := g73, fd_law_tails_right := _, m_law_tails_right := PySem.W.mg_of X G a73, F_law_tails_right := fun_mk (st := s_law_tails_right) l73 c73 k73, d_law_tails_right := (fun_mk (st := s_law_tails_right) l73 c73 k73).binds (ps := ["shares"]) (fun _ _ _ _ _ _ us hl => match us, hl with | [_], _ => rfl),
    a_law_changed_right := g74, fd_law_changed_right := _, m_law_changed_right := PySem.W.mg_of X G a74, F_law_changed_right := fun_mk (st := s_law_changed_right) l74 c74 k74, d_law_changed_right := (fun_mk (st := s_law_changed_right) l74 c74 k74).binds (ps := ["bag", "one", "other"]) (fun _ _ _ _ _ _ us hl => match us, hl with | [_, _, _], _ => rfl),
    a_law_rows_right := g75, fd_law_rows_right := _, m_law_rows_right := PySem.W.mg_of X G a75, F_law_rows_right := fun_mk (st := s_law_rows_right) l75 c75 k75, d_law_rows_right := (fun_mk (st := s_law_rows_right) l75 c75 k75).binds (ps := ["bag", "shares"]) (fun _ _ _ _ _ _ us hl => match us, hl with | [_, _], _ => rfl),
    a_law_right := g76, fd_law_right := _, m_law_right := PySem.W.mg_of X G a76, F_law_right := fun_mk (st := s_law_right) l76 c76 k76, d_law_right := (fun_mk (st := s_law_right) l76 c76 k76).binds (ps := ["bag"]) (fun _ _ _ _ _ _ us hl => match us, hl with | [_], _ => rfl),
    a_law := g77, fd_law := _, m_law := PySem.W.mg_of X G a77, F_law := fun_mk (st := s_law) l77 c77 k77, d_law := (fun_mk (st := s_law) l77 c77 k77).binds (ps := ["script"]) (fun _ _ _ _ _ _ us hl => match us, hl with | [_], _ => rfl),
    b_abs := PySem.W.mg_none_of X G z_abs,
    b_all := PySem.W.mg_none_of X G z_all,
    b_bool := PySem.W.mg_none_of X G z_bool,
    b_enumerate := PySem.W.mg_none_of X G z_enumerate,
    b_int := PySem.W.mg_none_of X G z_int,
    b_isinstance := PySem.W.mg_none_of X G z_isinstance,
    b_len := PySem.W.mg_none_of X G z_len,
    b_list := PySem.W.mg_none_of X G z_list,
    b_max := PySem.W.mg_none_of X G z_max,
    b_min := PySem.W.mg_none_of X G z_min,
    b_range := PySem.W.mg_none_of X G z_range,
    b_set := PySem.W.mg_none_of X G z_set,
    b_sorted := PySem.W.mg_none_of X G z_sorted,
    b_sum := PySem.W.mg_none_of X G z_sum,
    b_tuple := PySem.W.mg_none_of X G z_tuple,
    z_ONE := zONE, m_ONE := PySem.W.mg_of X G yONE, v_ONE := const_tup2 xONE,
    z_ZERO := zZERO, m_ZERO := PySem.W.mg_of X G yZERO, v_ZERO := const_tup2 xZERO,
    i_comb := PySem.W.mg_of X G i_comb,
    i_factorial := PySem.W.mg_of X G i_factorial,
    i_gcd := PySem.W.mg_of X G i_gcd } hfa
theorem walk {l : PySem.W.OpenLaw} {q : Program} {loose : List Str} {XP : (Str → Option Value) → Heap → Prop} {YP : World → Heap → Prop} {d : DefRec} {K : Params → PySem.W.Frag} (hn : l.most = some 63) (hdf : d.params.defaults = [])
    (hY : ∀ (w : World) (h : Heap), YP w h → (K w.params).In h)
    (F : ∀ (w : World) (mg : Str → Option Value) (fa : Addr) (h : Heap), (K w.params).In h → h.Ns mainGlobals mg → mg d.name = some (.ref fa) →
      ∃ fd : FuncData, (∀ (s : Shared) (u : Value), BindsTo s fd ⟨[u], []⟩ [("script", u)]) ∧ ∀ base : Heap, (K w.params).In base → base.Ns mainGlobals mg → FnOk l.prog w (K w.params) mg base (L2.CX l.prog w) 10 fa fd ["script"] (toSp (K w.params) sp_law)) :
    PySem.W.WalkO q loose XP YP l.row.toRowW d [] (fun f vs => PySem.call f vs) :=
  L2.walk_of (n := 63) (k := 10) (x := "script") (CX := fun w => L2.CX l.prog w) (sp := fun w => toSp (K w.params) sp_law) hn (by decide) hdf ⟨rfl, by decide, by decide⟩ hY F (fun _ _ a ns hl hO hS => law_end hO hS (end_law ns hl)) fun w H s e s' => cx_end l.prog w H s e s'
end K53
open PySem PySem.W PyProof.Rows in
set_option maxRecDepth 100000 in
set_option maxHeartbeats 0 in
theorem PySem.Challenge.cw_wholeplays_k53_whole_shares_put_together_holds : PySem.Challenge.rw_wholeplays_k53_whole_shares_put_together.Holds := by
  w_on; o_law; k_head; (case hw => w_witness2)
  k_fill
  refine K53.walk (l := PySem.Challenge.rw_wholeplays_k53_whole_shares_put_together) rfl rfl (fun w h Y => PySem.W.kIn_of Y) ?F
  case F =>
    intro w mg fa h KX G hmg
    refine' K53.all_mk KX G hmg ?a0 ?l0 ?c0 ?k0 ?a1 ?l1 ?c1 ?k1 ?a2 ?l2 ?c2 ?k2 ?a3 ?l3 ?c3 ?k3 ?a4 ?l4 ?c4 ?k4 ?a5 ?l5 ?c5 ?k5 ?a6 ?l6 ?c6 ?k6 ?a7 ?l7 ?c7 ?k7 ?a8 ?l8 ?c8 ?k8 ?a9 ?l9 ?c9 ?k9 ?a10 ?l10 ?c10 ?k10 ?a11 ?l11 ?c11 ?k11 ?a12 ?l12 ?c12 ?k12 ?a13 ?l13 ?c13 ?k13 ?a14 ?l14 ?c14 ?k14 ?a15 ?l15 ?c15 ?k15 ?a16 ?l16 ?c16 ?k16 ?a17 ?l17 ?c17 ?k17 ?a18 ?l18 ?c18 ?k18 ?a19 ?l19 ?c19 ?k19 ?a20 ?l20 ?c20 ?k20 ?a21 ?l21 ?c21 ?k21 ?a22 ?l22 ?c22 ?k22 ?a23 ?l23 ?c23 ?k23 ?a24 ?l24 ?c24 ?k24 ?a25 ?l25 ?c25 ?k25 ?a26 ?l26 ?c26 ?k26 ?a27 ?l27 ?c27 ?k27 ?a28 ?l28 ?c28 ?k28 ?a29 ?l29 ?c29 ?k29 ?a30 ?l30 ?c30 ?k30 ?a31 ?l31 ?c31 ?k31 ?a32 ?l32 ?c32 ?k32 ?a33 ?l33 ?c33 ?k33 ?a34 ?l34 ?c34 ?k34 ?a35 ?l35 ?c35 ?k35 ?a36 ?l36 ?c36 ?k36 ?a37 ?l37 ?c37 ?k37 ?a38 ?l38 ?c38 ?k38 ?a39 ?l39 ?c39 ?k39 ?a40 ?l40 ?c40 ?k40 ?a41 ?l41 ?c41 ?k41 ?a42 ?l42 ?c42 ?k42 ?a43 ?l43 ?c43 ?k43 ?a44 ?l44 ?c44 ?k44 ?a45 ?l45 ?c45 ?k45 ?a46 ?l46 ?c46 ?k46 ?a47 ?l47 ?c47 ?k47 ?a48 ?l48 ?c48 ?k48 ?a49 ?l49 ?c49 ?k49 ?a50 ?l50 ?c50 ?k50 ?a51 ?l51 ?c51 ?k51 ?a52 ?l52 ?c52 ?k52 ?a53 ?l53 ?c53 ?k53 ?a54 ?l54 ?c54 ?k54 ?a55 ?l55 ?c55 ?k55 ?a56 ?l56 ?c56 ?k56 ?a57 ?l57 ?c57 ?k57 ?a58 ?l58 ?c58 ?k58 ?a59 ?l59 ?c59 ?k59 ?a60 ?l60 ?c60 ?k60 ?a61 ?l61 ?c61 ?k61 ?a62 ?l62 ?c62 ?k62 ?a63 ?l63 ?c63 ?k63 ?a64 ?l64 ?c64 ?k64 ?a65 ?l65 ?c65 ?k65 ?a66 ?l66 ?c66 ?k66 ?a67 ?l67 ?c67 ?k67 ?a68 ?l68 ?c68 ?k68 ?a69 ?l69 ?c69 ?k69 ?a70 ?l70 ?c70 ?k70 ?a71 ?l71 ?c71 ?k71 ?a72 ?l72 ?c72 ?k72 ?a73 ?l73 ?c73 ?k73 ?a74 ?l74 ?c74 ?k74 ?a75 ?l75 ?c75 ?k75 ?a76 ?l76 ?c76 ?k76 ?a77 ?l77 ?c77 ?k77 ?z_abs ?z_all ?z_bool ?z_enumerate ?z_int ?z_isinstance ?z_len ?z_list ?z_max ?z_min ?z_range ?z_set ?z_sorted ?z_sum ?z_tuple ?yONE ?xONE ?yZERO ?xZERO ?i_comb ?i_factorial ?i_gcd
    (case a0 => k_is)
    (case l0 => k_is)
    (case c0 => k_is)
    (case k0 => k_is)
    (case a1 => k_is)
    (case l1 => k_is)
    (case c1 => k_is)
    (case k1 => k_is)
    (case a2 => k_is)
    (case l2 => k_is)
    (case c2 => k_is)
    (case k2 => k_is)
    (case a3 => k_is)
    (case l3 => k_is)
    (case c3 => k_is)
    (case k3 => k_is)
    (case a4 => k_is)
    (case l4 => k_is)
    (case c4 => k_is)
    (case k4 => k_is)
    (case a5 => k_is)
    (case l5 => k_is)
    (case c5 => k_is)
    (case k5 => k_is)
    (case a6 => k_is)
    (case l6 => k_is)
    (case c6 => k_is)
    (case k6 => k_is)
    (case a7 => k_is)
    (case l7 => k_is)
    (case c7 => k_is)
    (case k7 => k_is)
    (case a8 => k_is)
    (case l8 => k_is)
    (case c8 => k_is)
    (case k8 => k_is)
    (case a9 => k_is)
    (case l9 => k_is)
    (case c9 => k_is)
    (case k9 => k_is)
    (case a10 => k_is)
    (case l10 => k_is)
    (case c10 => k_is)
    (case k10 => k_is)
    (case a11 => k_is)
    (case l11 => k_is)
    (case c11 => k_is)
    (case k11 => k_is)
    (case a12 => k_is)
    (case l12 => k_is)
    (case c12 => k_is)
    (case k12 => k_is)
    (case a13 => k_is)
    (case l13 => k_is)
    (case c13 => k_is)
    (case k13 => k_is)
    (case a14 => k_is)
    (case l14 => k_is)
    (case c14 => k_is)
    (case k14 => k_is)
    (case a15 => k_is)
    (case l15 => k_is)
    (case c15 => k_is)
    (case k15 => k_is)
    (case a16 => k_is)
    (case l16 => k_is)
    (case c16 => k_is)
    (case k16 => k_is)
    (case a17 => k_is)
    (case l17 => k_is)
    (case c17 => k_is)
    (case k17 => k_is)
    (case a18 => k_is)
    (case l18 => k_is)
    (case c18 => k_is)
    (case k18 => k_is)
    (case a19 => k_is)
    (case l19 => k_is)
    (case c19 => k_is)
    (case k19 => k_is)
    (case a20 => k_is)
    (case l20 => k_is)
    (case c20 => k_is)
    (case k20 => k_is)
    (case a21 => k_is)
    (case l21 => k_is)
    (case c21 => k_is)
    (case k21 => k_is)
    (case a22 => k_is)
    (case l22 => k_is)
    (case c22 => k_is)
    (case k22 => k_is)
    (case a23 => k_is)
    (case l23 => k_is)
    (case c23 => k_is)
    (case k23 => k_is)
    (case a24 => k_is)
    (case l24 => k_is)
    (case c24 => k_is)
    (case k24 => k_is)
    (case a25 => k_is)
    (case l25 => k_is)
    (case c25 => k_is)
    (case k25 => k_is)
    (case a26 => k_is)
    (case l26 => k_is)
    (case c26 => k_is)
    (case k26 => k_is)
    (case a27 => k_is)
    (case l27 => k_is)
    (case c27 => k_is)
    (case k27 => k_is)
    (case a28 => k_is)
    (case l28 => k_is)
    (case c28 => k_is)
    (case k28 => k_is)
    (case a29 => k_is)
    (case l29 => k_is)
    (case c29 => k_is)
    (case k29 => k_is)
    (case a30 => k_is)
    (case l30 => k_is)
    (case c30 => k_is)
    (case k30 => k_is)
    (case a31 => k_is)
    (case l31 => k_is)
    (case c31 => k_is)
    (case k31 => k_is)
    (case a32 => k_is)
    (case l32 => k_is)
    (case c32 => k_is)
    (case k32 => k_is)
    (case a33 => k_is)
    (case l33 => k_is)
    (case c33 => k_is)
    (case k33 => k_is)
    (case a34 => k_is)
    (case l34 => k_is)
    (case c34 => k_is)
    (case k34 => k_is)
    (case a35 => k_is)
    (case l35 => k_is)
    (case c35 => k_is)
    (case k35 => k_is)
    (case a36 => k_is)
    (case l36 => k_is)
    (case c36 => k_is)
    (case k36 => k_is)
    (case a37 => k_is)
    (case l37 => k_is)
    (case c37 => k_is)
    (case k37 => k_is)
    (case a38 => k_is)
    (case l38 => k_is)
    (case c38 => k_is)
    (case k38 => k_is)
    (case a39 => k_is)
    (case l39 => k_is)
    (case c39 => k_is)
    (case k39 => k_is)
    (case a40 => k_is)
    (case l40 => k_is)
    (case c40 => k_is)
    (case k40 => k_is)
    (case a41 => k_is)
    (case l41 => k_is)
    (case c41 => k_is)
    (case k41 => k_is)
    (case a42 => k_is)
    (case l42 => k_is)
    (case c42 => k_is)
    (case k42 => k_is)
    (case a43 => k_is)
    (case l43 => k_is)
    (case c43 => k_is)
    (case k43 => k_is)
    (case a44 => k_is)
    (case l44 => k_is)
    (case c44 => k_is)
    (case k44 => k_is)
    (case a45 => k_is)
    (case l45 => k_is)
    (case c45 => k_is)
    (case k45 => k_is)
    (case a46 => k_is)
    (case l46 => k_is)
    (case c46 => k_is)
    (case k46 => k_is)
    (case a47 => k_is)
    (case l47 => k_is)
    (case c47 => k_is)
    (case k47 => k_is)
    (case a48 => k_is)
    (case l48 => k_is)
    (case c48 => k_is)
    (case k48 => k_is)
    (case a49 => k_is)
    (case l49 => k_is)
    (case c49 => k_is)
    (case k49 => k_is)
    (case a50 => k_is)
    (case l50 => k_is)
    (case c50 => k_is)
    (case k50 => k_is)
    (case a51 => k_is)
    (case l51 => k_is)
    (case c51 => k_is)
    (case k51 => k_is)
    (case a52 => k_is)
    (case l52 => k_is)
    (case c52 => k_is)
    (case k52 => k_is)
    (case a53 => k_is)
    (case l53 => k_is)
    (case c53 => k_is)
    (case k53 => k_is)
    (case a54 => k_is)
    (case l54 => k_is)
    (case c54 => k_is)
    (case k54 => k_is)
    (case a55 => k_is)
    (case l55 => k_is)
    (case c55 => k_is)
    (case k55 => k_is)
    (case a56 => k_is)
    (case l56 => k_is)
    (case c56 => k_is)
    (case k56 => k_is)
    (case a57 => k_is)
    (case l57 => k_is)
    (case c57 => k_is)
    (case k57 => k_is)
    (case a58 => k_is)
    (case l58 => k_is)
    (case c58 => k_is)
    (case k58 => k_is)
    (case a59 => k_is)
    (case l59 => k_is)
    (case c59 => k_is)
    (case k59 => k_is)
    (case a60 => k_is)
    (case l60 => k_is)
    (case c60 => k_is)
    (case k60 => k_is)
    (case a61 => k_is)
    (case l61 => k_is)
    (case c61 => k_is)
    (case k61 => k_is)
    (case a62 => k_is)
    (case l62 => k_is)
    (case c62 => k_is)
    (case k62 => k_is)
    (case a63 => k_is)
    (case l63 => k_is)
    (case c63 => k_is)
    (case k63 => k_is)
    (case a64 => k_is)
    (case l64 => k_is)
    (case c64 => k_is)
    (case k64 => k_is)
    (case a65 => k_is)
    (case l65 => k_is)
    (case c65 => k_is)
    (case k65 => k_is)
    (case a66 => k_is)
    (case l66 => k_is)
    (case c66 => k_is)
    (case k66 => k_is)
    (case a67 => k_is)
    (case l67 => k_is)
    (case c67 => k_is)
    (case k67 => k_is)
    (case a68 => k_is)
    (case l68 => k_is)
    (case c68 => k_is)
    (case k68 => k_is)
    (case a69 => k_is)
    (case l69 => k_is)
    (case c69 => k_is)
    (case k69 => k_is)
    (case a70 => k_is)
    (case l70 => k_is)
    (case c70 => k_is)
    (case k70 => k_is)
    (case a71 => k_is)
    (case l71 => k_is)
    (case c71 => k_is)
    (case k71 => k_is)
    (case a72 => k_is)
    (case l72 => k_is)
    (case c72 => k_is)
    (case k72 => k_is)
    (case a73 => k_is)
    (case l73 => k_is)
    (case c73 => k_is)
    (case k73 => k_is)
    (case a74 => k_is)
    (case l74 => k_is)
    (case c74 => k_is)
    (case k74 => k_is)
    (case a75 => k_is)
    (case l75 => k_is)
    (case c75 => k_is)
    (case k75 => k_is)
    (case a76 => k_is)
    (case l76 => k_is)
    (case c76 => k_is)
    (case k76 => k_is)
    (case a77 => k_is)
    (case l77 => k_is)
    (case c77 => k_is)
    (case k77 => k_is)
    (case z_abs => k_is)
    (case z_all => k_is)
    (case z_bool => k_is)
    (case z_enumerate => k_is)
    (case z_int => k_is)
    (case z_isinstance => k_is)
    (case z_len => k_is)
    (case z_list => k_is)
    (case z_max => k_is)
    (case z_min => k_is)
    (case z_range => k_is)
    (case z_set => k_is)
    (case z_sorted => k_is)
    (case z_sum => k_is)
    (case z_tuple => k_is)
    (case yONE => k_is)
    (case xONE => k_is)
    (case yZERO => k_is)
    (case xZERO => k_is)
    (case i_comb => k_is)
    (case i_factorial => k_is)
    (case i_gcd => k_is)
