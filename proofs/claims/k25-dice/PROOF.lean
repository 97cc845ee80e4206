import PyProof.Rows.All
import Wide.All
import OpenK.AllK
import Wide.FinOn
import HandS.ForMost
import HandS.Exc
import HandS.ExcOwn
import HandS.Wide
import HandS.WordsExc
import HandS.ExcInit
import HandS.Gcd
import HandS.IsInst
import HandS.TupAny
import HandS.More
import HandS.Conv
import HandS.WideBits
import KE.KMathGC
import HandS.Style
import HandS.Iter
import KE.GoesEnum
import HandS.SetFor
import HandS.Strs
import HandS.TupMul
import HandS.Zip
import HandS.Dict
import HandS.SortInts
import PySem.Challenge.RW_wholeplays_k25_whole_bounded_by_dice
set_option Elab.async false
set_option linter.all false
set_option maxRecDepth 100000
set_option maxHeartbeats 4000000
/-! DL: a layer of plain values over HandS: tuples (and what never changes) by their contents, lists and dicts by address in a small store. -/
namespace DL
open PySem PySem.Spec PyProof.Rows L2

/-! ### values -/
inductive D where
  | non | bl (b : Bool) | int (i : Int) | str (x : Str) | ty (n : String) | ref (a : Addr)
  | tup (xs : List D)
  | fro (xs : List D)
  | exc (C : Addr) (d : D)
  deriving Inhabited

/-- a list that never changes: locked, or of the written part -/
def StL (K : PySem.W.Frag) (H : Hp) (a : Addr) (xs : List V) : Prop :=
  (∃ o, H a = some (.frz o (.lst xs))) ∨
    ∃ (o : Obj) (its : Array Value) (n : Nat), K.lookup a = some o ∧ o.cls = .type "list" ∧ o.dict = none ∧ o.data = .seq its n ∧ its.size ≤ sizeLine ∧ Vals xs its.toList
theorem StL.sq {K : PySem.W.Frag} {H : Hp} {a : Addr} {xs : List V} (h : StL K H a xs) : SqL K H a xs := by
  rcases h with ⟨o, h⟩ | h
  · exact .inl (.inr ⟨o, h⟩)
  · exact .inr h
/-- a tuple -/
def StT (K : PySem.W.Frag) (H : Hp) (a : Addr) (xs : List V) : Prop :=
  H a = some (.tup xs) ∨
    ∃ (o : Obj) (its : Array Value) (n : Nat), K.lookup a = some o ∧ o.cls = .type "tuple" ∧ o.data = .seq its n ∧ its.size ≤ sizeLine ∧ Vals xs its.toList
theorem StT.sq {K : PySem.W.Frag} {H : Hp} {a : Addr} {xs : List V} (h : StT K H a xs) : SqT K H a xs := by
  rcases h with h | h
  · exact .inl (.inl h)
  · exact .inr h
/-- an exception object -/
def XO (a C dx : Addr) : HO := .ext fun h => ∃ oe vs, h.get? a = some oe ∧ Zc (.ref C) (some dx) oe ∧ oe.data = .fields vs

mutual
def DV (K : PySem.W.Frag) (H : Hp) : D → V → Prop
  | .non, v => v = .non
  | .bl b, v => v = .bl b
  | .int i, v => v = .int i
  | .str x, v => v = .str x
  | .ty n, v => v = .ty n
  | .ref a, v => v = .ref a
  | .tup xs, v => ∃ a vs, v = .ref a ∧ StT K H a vs ∧ DVs K H xs vs
  | .fro xs, v => ∃ a vs, v = .ref a ∧ StL K H a vs ∧ DVs K H xs vs
  | .exc C d, v => ∃ a dx w, v = .ref a ∧ H a = some (XO a C dx) ∧ H dx = some (.xd [(("value" : Str), w)]) ∧ DV K H d w
def DVs (K : PySem.W.Frag) (H : Hp) : List D → List V → Prop
  | [], vs => vs = []
  | d :: ds, vs => ∃ v ws, vs = v :: ws ∧ DV K H d v ∧ DVs K H ds ws
end

/-! ### the store -/
inductive Cell where
  | lst (xs : List D)
  | dK (kvs : List (Key × D))
abbrev Sto := Addr → Option Cell
def sup (S : Sto) (a : Addr) (c : Cell) : Sto := fun b => if b = a then some c else S b
theorem sup_same {S : Sto} {a : Addr} {c : Cell} : sup S a c a = some c := by unfold sup; rw [if_pos rfl]
theorem sup_ne {S : Sto} {a b : Addr} {c : Cell} (h : b ≠ a) : sup S a c b = S b := by unfold sup; rw [if_neg h]
theorem sup_sup {S : Sto} {a : Addr} {c c' : Cell} : sup (sup S a c) a c' = sup S a c' := by
  funext b; unfold sup; split <;> rfl
inductive DKs (K : PySem.W.Frag) (H : Hp) : List (Key × D) → List (Key × V) → Prop
  | nil : DKs K H [] []
  | cons {k : Key} {d : D} {v : V} {ds : List (Key × D)} {vs : List (Key × V)} : DV K H d v → DKs K H ds vs → DKs K H ((k, d) :: ds) ((k, v) :: vs)
def CellOk (K : PySem.W.Frag) (H : Hp) (a : Addr) : Cell → Prop
  | .lst xs => ∃ vs, H a = some (.lst vs) ∧ DVs K H xs vs
  | .dK kvs => ∃ vs, H a = some (.dK vs) ∧ DKs K H kvs vs
def SOk (K : PySem.W.Frag) (H : Hp) (S : Sto) : Prop := ∀ a c, S a = some c → CellOk K H a c
theorem SOk.free {K : PySem.W.Frag} {H : Hp} {S : Sto} (h : SOk K H S) {a : Addr} (e : H a = none) : S a = none := by
  cases q : S a with
  | none => rfl
  | some c =>
    have := h a c q
    cases c with
    | lst xs => obtain ⟨vs, e2, _⟩ := this; rw [e] at e2; cases e2
    | dK kvs => obtain ⟨vs, e2, _⟩ := this; rw [e] at e2; cases e2
/-- whatever is tracked and is not a cell's kind is not in the store -/
theorem SOk.out {K : PySem.W.Frag} {H : Hp} {S : Sto} (h : SOk K H S) {a : Addr} {o : HO} (e : H a = some o) (h1 : ∀ xs, o ≠ .lst xs) (h2 : ∀ xs, o ≠ .dK xs) : S a = none := by
  cases q : S a with
  | none => rfl
  | some c =>
    have := h a c q
    cases c with
    | lst xs => obtain ⟨vs, e2, _⟩ := this; rw [e] at e2; exact absurd (Option.some.inj e2) (h1 _)
    | dK kvs => obtain ⟨vs, e2, _⟩ := this; rw [e] at e2; exact absurd (Option.some.inj e2) (h2 _)

/-- the step from one heap and store to another: what is tracked beside the store stays; the store grows at new places alone -/
structure Go (K : PySem.W.Frag) (H : Hp) (S : Sto) (H' : Hp) (S' : Sto) : Prop where
  ok0 : SOk K H S
  ok : SOk K H' S'
  frame : ∀ a o, S a = none → H a = some o → H' a = some o
  ex : ∀ a o, S a = none → H a = some o → S' a = none
section
variable {K : PySem.W.Frag} {H H1 H2 : Hp} {S S1 S2 : Sto}
theorem Go.refl (h : SOk K H S) : Go K H S H S := ⟨h, h, fun _ _ _ e => e, fun _ _ e _ => e⟩
theorem Go.trans (g : Go K H S H1 S1) (g' : Go K H1 S1 H2 S2) : Go K H S H2 S2 :=
  ⟨g.ok0, g'.ok, fun a o e h => g'.frame a o (g.ex a o e h) (g.frame a o e h), fun a o e h => g'.ex a o (g.ex a o e h) (g.frame a o e h)⟩
theorem Go.tup (g : Go K H S H1 S1) {a : Addr} {vs : List V} (h : StT K H a vs) : StT K H1 a vs := by
  rcases h with h | h
  · exact .inl (g.frame a _ (g.ok0.out h (fun _ q => by cases q) (fun _ q => by cases q)) h)
  · exact .inr h
theorem Go.fro (g : Go K H S H1 S1) {a : Addr} {vs : List V} (h : StL K H a vs) : StL K H1 a vs := by
  rcases h with ⟨o, h⟩ | h
  · exact .inl ⟨o, g.frame a _ (g.ok0.out h (fun _ q => by cases q) (fun _ q => by cases q)) h⟩
  · exact .inr h
mutual
theorem DV.go (g : Go K H S H1 S1) : ∀ (d : D) (v : V), DV K H d v → DV K H1 d v
  | .non, _, h => h
  | .bl _, _, h => h
  | .int _, _, h => h
  | .str _, _, h => h
  | .ty _, _, h => h
  | .ref _, _, h => h
  | .tup xs, v, h => by
    obtain ⟨a, vs, e, q, r⟩ := h
    exact ⟨a, vs, e, g.tup q, DVs.go g xs vs r⟩
  | .fro xs, v, h => by
    obtain ⟨a, vs, e, q, r⟩ := h
    exact ⟨a, vs, e, g.fro q, DVs.go g xs vs r⟩
  | .exc C d, v, h => by
    obtain ⟨a, dx, w, e, q1, q2, r⟩ := h
    exact ⟨a, dx, w, e, g.frame a _ (g.ok0.out q1 (fun _ q => by cases q) (fun _ q => by cases q)) q1, g.frame dx _ (g.ok0.out q2 (fun _ q => by cases q) (fun _ q => by cases q)) q2, DV.go g d w r⟩
theorem DVs.go (g : Go K H S H1 S1) : ∀ (ds : List D) (vs : List V), DVs K H ds vs → DVs K H1 ds vs
  | [], _, h => h
  | d :: ds, vs, h => by
    obtain ⟨v, ws, e, r, q⟩ := h
    exact ⟨v, ws, e, DV.go g d v r, DVs.go g ds ws q⟩
end
theorem DKs.go (g : Go K H S H1 S1) {ds : List (Key × D)} {vs : List (Key × V)} (h : DKs K H ds vs) : DKs K H1 ds vs := by
  induction h with
  | nil => exact .nil
  | cons r _ ih => exact .cons (DV.go g _ _ r) ih

theorem DVs.length : ∀ {ds : List D} {vs : List V}, DVs K H ds vs → ds.length = vs.length
  | [], _, h => by cases (show _ = [] from h); rfl
  | d :: ds, vs, h => by
    obtain ⟨v, ws, rfl, _, q⟩ := h
    rw [List.length_cons, List.length_cons, DVs.length q]
theorem DVs.get : ∀ {ds : List D} {vs : List V} {i : Nat} {d : D}, DVs K H ds vs → ds[i]? = some d → ∃ v, vs[i]? = some v ∧ DV K H d v
  | [], _, _, _, _, e => by simp at e
  | d :: ds, vs, 0, x, h, e => by
    obtain ⟨v, ws, rfl, r, q⟩ := h
    have e : d = x := by simpa using e
    subst e
    exact ⟨v, rfl, r⟩
  | d :: ds, vs, i + 1, x, h, e => by
    obtain ⟨v, ws, rfl, r, q⟩ := h
    exact DVs.get (i := i) q (by simpa using e)
theorem DVs.nil : DVs K H [] [] := rfl
theorem DVs.cons {d : D} {v : V} {ds : List D} {vs : List V} (h : DV K H d v) (t : DVs K H ds vs) : DVs K H (d :: ds) (v :: vs) := ⟨v, vs, rfl, h, t⟩
theorem DVs.append : ∀ {ds es : List D} {vs ws : List V}, DVs K H ds vs → DVs K H es ws → DVs K H (ds ++ es) (vs ++ ws)
  | [], _, _, _, h, t => by cases (show _ = [] from h); exact t
  | d :: ds, es, vs, ws, h, t => by
    obtain ⟨v, us, rfl, r, q⟩ := h
    exact DVs.cons r (DVs.append q t)
theorem DVs.take : ∀ {ds : List D} {vs : List V} (n : Nat), DVs K H ds vs → DVs K H (ds.take n) (vs.take n)
  | _, _, 0, _ => by simp [DVs]
  | [], _, _ + 1, h => by cases (show _ = [] from h); exact DVs.nil
  | d :: ds, vs, n + 1, h => by
    obtain ⟨v, us, rfl, r, q⟩ := h
    exact DVs.cons r (DVs.take n q)
theorem DVs.drop : ∀ {ds : List D} {vs : List V} (n : Nat), DVs K H ds vs → DVs K H (ds.drop n) (vs.drop n)
  | _, _, 0, h => h
  | [], _, _ + 1, h => by cases (show _ = [] from h); exact DVs.nil
  | d :: ds, vs, n + 1, h => by
    obtain ⟨v, us, rfl, r, q⟩ := h
    exact DVs.drop n q
theorem DVs.set : ∀ {ds : List D} {vs : List V} {d : D} {v : V} (i : Nat), DVs K H ds vs → DV K H d v → DVs K H (ds.set i d) (vs.set i v)
  | [], _, _, _, _, h, _ => by cases (show _ = [] from h); exact DVs.nil
  | d :: ds, vs, x, y, 0, h, t => by
    obtain ⟨v, us, rfl, r, q⟩ := h
    exact DVs.cons t q
  | d :: ds, vs, x, y, i + 1, h, t => by
    obtain ⟨v, us, rfl, r, q⟩ := h
    exact DVs.cons r (DVs.set i q t)
theorem DVs.rev : ∀ {ds : List D} {vs : List V}, DVs K H ds vs → DVs K H ds.reverse vs.reverse
  | [], _, h => by cases (show _ = [] from h); exact DVs.nil
  | d :: ds, vs, h => by
    obtain ⟨v, us, rfl, r, q⟩ := h
    rw [List.reverse_cons, List.reverse_cons]
    exact DVs.append (DVs.rev q) (DVs.cons r DVs.nil)
theorem DVs.ints : ∀ {ns : List Int} {vs : List V}, DVs K H (ns.map D.int) vs → vs = ns.map V.int
  | [], _, h => h
  | n :: ns, vs, h => by
    obtain ⟨v, us, rfl, r, q⟩ := h
    rw [List.map_cons, ← DVs.ints q, show v = V.int n from r]
theorem DVs.of_ints : ∀ {ns : List Int}, DVs K H (ns.map D.int) (ns.map V.int)
  | [] => DVs.nil
  | n :: ns => DVs.cons (show DV K H (.int n) (.int n) from rfl) DVs.of_ints
theorem DVs.bls : ∀ {ns : List Bool} {vs : List V}, DVs K H (ns.map D.bl) vs → vs = ns.map V.bl
  | [], _, h => h
  | n :: ns, vs, h => by
    obtain ⟨v, us, rfl, r, q⟩ := h
    rw [List.map_cons, ← DVs.bls q, show v = V.bl n from r]
theorem DVs.strs : ∀ {ns : List Str} {vs : List V}, DVs K H (ns.map D.str) vs → vs = ns.map V.str
  | [], _, h => h
  | n :: ns, vs, h => by
    obtain ⟨v, us, rfl, r, q⟩ := h
    rw [List.map_cons, ← DVs.strs q, show v = V.str n from r]

/-- a new object beside the store -/
theorem Go.new (h : SOk K H S) {p : Addr} {o : HO} (hp : H p = none) : Go K H S (upd H p o) S := by
  have sok : ∀ a c, S a = some c → a ≠ p := fun a c e z => by
    subst z
    rw [h.free hp] at e
    cases e
  have g0 : ∀ a u, H a = some u → upd H p o a = some u := fun a u e => by rw [upd_ne (ne_of_none e hp)]; exact e
  -- through an empty store
  have gE : Go K H (fun _ => none) (upd H p o) (fun _ => none) := ⟨fun _ _ e => by simp at e, fun _ _ e => by simp at e, fun a u _ e => g0 a u e, fun _ _ _ _ => rfl⟩
  refine ⟨h, fun a c e => ?_, fun a u _ e => g0 a u e, fun _ _ e _ => e⟩
  have := h a c e
  cases c with
  | lst xs => obtain ⟨vs, e1, r⟩ := this; exact ⟨vs, g0 _ _ e1, DVs.go gE _ _ r⟩
  | dK kvs => obtain ⟨vs, e1, r⟩ := this; exact ⟨vs, g0 _ _ e1, DKs.go gE r⟩
theorem Go.newLst (h : SOk K H S) {p : Addr} {xs : List D} {vs : List V} (hp : H p = none) (r : DVs K H xs vs) : Go K H S (upd H p (.lst vs)) (sup S p (.lst xs)) := by
  have g := Go.new (o := .lst vs) h hp
  refine ⟨h, fun a c e => ?_, g.frame, fun a o e q => by rw [sup_ne (ne_of_none q hp)]; exact e⟩
  by_cases ha : a = p
  · subst ha
    rw [sup_same] at e; cases e
    exact ⟨vs, upd_same, DVs.go g _ _ r⟩
  · rw [sup_ne ha] at e
    exact g.ok a c e
theorem Go.newDK (h : SOk K H S) {p : Addr} {xs : List (Key × D)} {vs : List (Key × V)} (hp : H p = none) (r : DKs K H xs vs) : Go K H S (upd H p (.dK vs)) (sup S p (.dK xs)) := by
  have g := Go.new (o := .dK vs) h hp
  refine ⟨h, fun a c e => ?_, g.frame, fun a o e q => by rw [sup_ne (ne_of_none q hp)]; exact e⟩
  by_cases ha : a = p
  · subst ha
    rw [sup_same] at e; cases e
    exact ⟨vs, upd_same, DKs.go g r⟩
  · rw [sup_ne ha] at e
    exact g.ok a c e
theorem tup_wr {p : Addr} {o o' : HO} (hp : H p = some o) (hc : (∃ xs, o = .lst xs) ∨ ∃ xs, o = .dK xs) {a : Addr} {vs : List V} (h : StT K H a vs) : StT K (upd H p o') a vs := by
  have ne : ∀ {b u}, H b = some u → (∀ xs, u ≠ .lst xs) → (∀ xs, u ≠ .dK xs) → b ≠ p := fun {b u} e h1 h2 z => by
    subst z
    rw [hp] at e
    rcases hc with ⟨xs, q⟩ | ⟨xs, q⟩
    · exact h1 xs ((Option.some.inj e).symm.trans q)
    · exact h2 xs ((Option.some.inj e).symm.trans q)
  rcases h with h | h
  · exact .inl (by rw [upd_ne (ne h (fun _ q => by cases q) (fun _ q => by cases q))]; exact h)
  · exact .inr h
mutual
theorem DV.wr {p : Addr} {o o' : HO} (hp : H p = some o) (hc : (∃ xs, o = .lst xs) ∨ ∃ xs, o = .dK xs) : ∀ (d : D) (v : V), DV K H d v → DV K (upd H p o') d v
  | .non, _, h => h
  | .bl _, _, h => h
  | .int _, _, h => h
  | .str _, _, h => h
  | .ty _, _, h => h
  | .ref _, _, h => h
  | .tup xs, v, h => by
    obtain ⟨a, vs, e, q, r⟩ := h
    exact ⟨a, vs, e, tup_wr hp hc q, DVs.wr hp hc xs vs r⟩
  | .fro xs, v, h => by
    obtain ⟨a, vs, e, q, r⟩ := h
    refine ⟨a, vs, e, ?_, DVs.wr hp hc xs vs r⟩
    rcases q with ⟨u, q⟩ | q
    · refine .inl ⟨u, ?_⟩
      rw [upd_ne (fun z => ?_)]
      · exact q
      · subst z
        rw [hp] at q
        rcases hc with ⟨xs, z⟩ | ⟨xs, z⟩ <;> (rw [z] at q; cases q)
    · exact .inr q
  | .exc C d, v, h => by
    obtain ⟨a, dx, w, e, q1, q2, r⟩ := h
    refine ⟨a, dx, w, e, ?_, ?_, DV.wr hp hc d w r⟩
    · rw [upd_ne (fun z => ?_)]
      · exact q1
      · subst z
        rw [hp] at q1
        rcases hc with ⟨xs, z⟩ | ⟨xs, z⟩ <;> (rw [z] at q1; cases q1)
    · rw [upd_ne (fun z => ?_)]
      · exact q2
      · subst z
        rw [hp] at q2
        rcases hc with ⟨xs, z⟩ | ⟨xs, z⟩ <;> (rw [z] at q2; cases q2)
theorem DVs.wr {p : Addr} {o o' : HO} (hp : H p = some o) (hc : (∃ xs, o = .lst xs) ∨ ∃ xs, o = .dK xs) : ∀ (ds : List D) (vs : List V), DVs K H ds vs → DVs K (upd H p o') ds vs
  | [], _, h => h
  | d :: ds, vs, h => by
    obtain ⟨v, ws, e, r, q⟩ := h
    exact ⟨v, ws, e, DV.wr hp hc d v r, DVs.wr hp hc ds ws q⟩
end
theorem DKs.wr {p : Addr} {o o' : HO} (hp : H p = some o) (hc : (∃ xs, o = .lst xs) ∨ ∃ xs, o = .dK xs) {ds : List (Key × D)} {vs : List (Key × V)} (h : DKs K H ds vs) : DKs K (upd H p o') ds vs := by
  induction h with
  | nil => exact .nil
  | cons r _ ih => exact .cons (DV.wr hp hc _ _ r) ih
theorem Go.setLst (h : SOk K H S) {p : Addr} {xs0 xs : List D} {vs : List V} (hp : S p = some (.lst xs0)) (r : DVs K H xs vs) : Go K H S (upd H p (.lst vs)) (sup S p (.lst xs)) := by
  obtain ⟨vs0, e0, _⟩ := h p _ hp
  refine ⟨h, fun a c e => ?_, fun a o e q => ?_, fun a o e q => ?_⟩
  · by_cases ha : a = p
    · subst ha
      rw [sup_same] at e; cases e
      exact ⟨vs, upd_same, DVs.wr e0 (.inl ⟨_, rfl⟩) _ _ r⟩
    · rw [sup_ne ha] at e
      have := h a c e
      cases c with
      | lst xs => obtain ⟨ws, e1, r⟩ := this; exact ⟨ws, by rw [upd_ne ha]; exact e1, DVs.wr e0 (.inl ⟨_, rfl⟩) _ _ r⟩
      | dK kvs => obtain ⟨ws, e1, r⟩ := this; exact ⟨ws, by rw [upd_ne ha]; exact e1, DKs.wr e0 (.inl ⟨_, rfl⟩) r⟩
  · rw [upd_ne (fun z => ?_)]
    · exact q
    · subst z; rw [hp] at e; cases e
  · rw [sup_ne (fun z => ?_)]
    · exact e
    · subst z; rw [hp] at e; cases e
theorem Go.setDK (h : SOk K H S) {p : Addr} {xs0 xs : List (Key × D)} {vs : List (Key × V)} (hp : S p = some (.dK xs0)) (r : DKs K H xs vs) : Go K H S (upd H p (.dK vs)) (sup S p (.dK xs)) := by
  obtain ⟨vs0, e0, _⟩ := h p _ hp
  refine ⟨h, fun a c e => ?_, fun a o e q => ?_, fun a o e q => ?_⟩
  · by_cases ha : a = p
    · subst ha
      rw [sup_same] at e; cases e
      exact ⟨vs, upd_same, DKs.wr e0 (.inr ⟨_, rfl⟩) r⟩
    · rw [sup_ne ha] at e
      have := h a c e
      cases c with
      | lst xs => obtain ⟨ws, e1, r⟩ := this; exact ⟨ws, by rw [upd_ne ha]; exact e1, DVs.wr e0 (.inr ⟨_, rfl⟩) _ _ r⟩
      | dK kvs => obtain ⟨ws, e1, r⟩ := this; exact ⟨ws, by rw [upd_ne ha]; exact e1, DKs.wr e0 (.inr ⟨_, rfl⟩) r⟩
  · rw [upd_ne (fun z => ?_)]
    · exact q
    · subst z; rw [hp] at e; cases e
  · rw [sup_ne (fun z => ?_)]
    · exact e
    · subst z; rw [hp] at e; cases e
/-- a list that is read: a cell, or one that never changes -/
def RdL (S : Sto) (d : D) (xs : List D) : Prop := (∃ a, d = .ref a ∧ S a = some (.lst xs)) ∨ d = .fro xs
theorem RdL.sq (h : SOk K H S) {d : D} {xs : List D} {v : V} (r : RdL S d xs) (dv : DV K H d v) : ∃ a vs, v = .ref a ∧ SqL K H a vs ∧ DVs K H xs vs := by
  rcases r with ⟨a, rfl, e⟩ | rfl
  · obtain ⟨vs, e1, q⟩ := h a _ e
    exact ⟨a, vs, dv, SqL.of e1, q⟩
  · obtain ⟨a, vs, e, q, r⟩ := dv
    exact ⟨a, vs, e, q.sq, r⟩
/-- a slot map -/
def SRv (K : PySem.W.Frag) (σ : L2.St) (H : Hp) (ρ : List (Option D)) : Prop := ρ.length = σ.length ∧ ∀ (i : Nat) (d : D), ρ[i]? = some (some d) → ∃ v, σ[i]? = some (some v) ∧ DV K H d v
theorem SRv.go {σ : L2.St} {ρ : List (Option D)} (r : SRv K σ H ρ) (g : Go K H S H1 S1) : SRv K σ H1 ρ := ⟨r.1, fun i d e => by
  obtain ⟨v, e1, q⟩ := r.2 i d e
  exact ⟨v, e1, DV.go g _ _ q⟩⟩
theorem SRv.set {σ : L2.St} {ρ : List (Option D)} (r : SRv K σ H ρ) {d : D} {v : V} (q : DV K H d v) (i : Nat) : SRv K (σ.set i (some v)) H (ρ.set i (some d)) := by
  refine ⟨by rw [List.length_set, List.length_set]; exact r.1, fun j e h => ?_⟩
  by_cases hj : i = j
  · subst hj
    have hl : i < ρ.length := by
      have := (List.getElem?_eq_some_iff.mp h).1
      rwa [List.length_set] at this
    rw [List.getElem?_set_self hl] at h
    have e2 : d = e := Option.some.inj (Option.some.inj h)
    subst e2
    exact ⟨v, by rw [List.getElem?_set_self (by rw [← r.1]; exact hl)], q⟩
  · rw [List.getElem?_set_ne hj] at h
    obtain ⟨u, e1, q1⟩ := r.2 j e h
    exact ⟨u, by rw [List.getElem?_set_ne hj]; exact e1, q1⟩
end
end DL
set_option Elab.async false
set_option linter.all false
set_option maxRecDepth 100000
set_option maxHeartbeats 4000000
namespace DL
open PySem PySem.Spec PyProof.Rows L2

/-! ### readings of plain values -/
abbrev Ro := List (Option D)
abbrev RE := Ro → Sto → (D → Sto → Prop) → Prop
abbrev RT := Ro → Sto → (Bool → Sto → Prop) → Prop
abbrev RA := Ro → Sto → (List D → Sto → Prop) → Prop
/-- what is wanted of an exception: its class, its value, the slots, the store -/
abbrev DWX := Addr → D → Ro → Sto → Prop
structure DXw where
  W : WX
  d : DWX
def XOk (K : PySem.W.Frag) (y : DXw) (H : Hp) (S : Sto) : Prop := ∀ C d ρ S' dx w σ H', Go K H S H' S' → SRv K σ H' ρ → H' dx = some (.xd [(("value" : Str), w)]) → DV K H' d w → y.d C d ρ S' → y.W (.ref C) (some dx) σ H'
structure SX (K : PySem.W.Frag) (y : DXw) (H : Hp) (S : Sto) : Prop where
  so : SOk K H S
  xo : XOk K y H S
theorem SX.go {K : PySem.W.Frag} {y : DXw} {H H' : Hp} {S S' : Sto} (h : SX K y H S) (g : Go K H S H' S') : SX K y H' S' :=
  ⟨g.ok, fun C d ρ S2 dx w σ H2 g2 => h.xo C d ρ S2 dx w σ H2 (g.trans g2)⟩
def lE (K : PySem.W.Frag) (y : DXw) (t : RE) : TE := fun σ H Q => ∃ ρ S R, SRv K σ H ρ ∧ SX K y H S ∧ t ρ S R ∧ ∀ d S' v H', Go K H S H' S' → DV K H' d v → R d S' → Q v H'
def lT (K : PySem.W.Frag) (y : DXw) (t : RT) : TT := fun σ H Q => ∃ ρ S R, SRv K σ H ρ ∧ SX K y H S ∧ t ρ S R ∧ ∀ b S' H', Go K H S H' S' → R b S' → Q b H'
def lA (K : PySem.W.Frag) (y : DXw) (n : Nat) (t : RA) : TA := fun σ H Q => ∃ ρ S R, SRv K σ H ρ ∧ SX K y H S ∧ t ρ S R ∧ ∀ ds S' vs H', Go K H S H' S' → DVs K H' ds vs → ds.length = n → R ds S' → Q vs H'
def PD (X : Cx) (y : DXw) (e : Expr) (t : RE) : Prop := PE X e (lE X.K y t)
def PDT (X : Cx) (y : DXw) (e : Expr) (t : RT) : Prop := PT X e (lT X.K y t)
def PDW (X : Cx) (y : DXw) (e : Expr) (t : RT) : Prop := PW X e (lT X.K y t)
def PDA (X : Cx) (y : DXw) (es : List Expr) (t : RA) : Prop := PA X es (lA X.K y es.length t)
/-- an if that stands still until it is looked at -/
structure IFB (b : Bool) (A B : Prop) : Prop where
  yes : b = true → A
  no : b = false → B
theorem IFB.t {b : Bool} {A B : Prop} (h : b = true) (h1 : A) : IFB b A B := IFB.mk (fun _ => h1) fun z => by rw [h] at z; cases z
theorem IFB.f {b : Bool} {A B : Prop} (h : b = false) (h1 : B) : IFB b A B := IFB.mk (fun z => by rw [h] at z; cases z) fun _ => h1
theorem IFB.of {b : Bool} {A B : Prop} (h : IFB b A B) : (b = true → A) ∧ (b = false → B) := ⟨h.yes, h.no⟩
theorem IFB.p {p : Prop} [Decidable p] {A B : Prop} (h1 : p → A) (h2 : ¬ p → B) : IFB (decide p) A B := IFB.mk (fun z => h1 (of_decide_eq_true z)) fun z => h2 (of_decide_eq_false z)
theorem IFB.np {p : Prop} [Decidable p] {A B : Prop} (h1 : ¬ p → A) (h2 : p → B) : IFB (!decide p) A B := IFB.mk (fun z => h1 (by simpa using z)) fun z => h2 (by simpa using z)

section
variable {X : Cx} {y : DXw}
theorem PD.of {e : Expr} {t0 : TE} {t : RE} (h : PE X e t0) (w : ∀ σ H Q, lE X.K y t σ H Q → t0 σ H Q) : PD X y e t := ⟨fun pins s σ H Q I q => h.run pins s σ H Q I (w σ H Q q)⟩
theorem PDT.of {e : Expr} {t0 : TT} {t : RT} (h : PT X e t0) (w : ∀ σ H Q, lT X.K y t σ H Q → t0 σ H Q) : PDT X y e t := ⟨fun pins s σ H Q I q => h.run pins s σ H Q I (w σ H Q q)⟩
theorem PDA.of {e : List Expr} {t0 : TA} {t : RA} (h : PA X e t0) (w : ∀ σ H Q, lA X.K y e.length t σ H Q → t0 σ H Q) : PDA X y e t := ⟨fun pos pins s σ H Q I q => h.run pos pins s σ H Q I (w σ H Q q)⟩

/-! ### names, constants -/
def rVar (i : Nat) : RE := fun ρ S Q => match ρ[i]? with
  | some (some d) => Q d S
  | _ => False
def rC (d : D) : RE := fun _ S Q => Q d S
theorem pd_var (i : Nat) {x : Str} {pos : Pos} (hN : X.N[i]? = some x := by rfl) (hv : Vis X.env.scope x := by first | exact Or.inl rfl | exact Or.inr (Or.inl rfl) | exact Or.inr (Or.inr rfl)) (hd : (x == ("__debug__" : Str)) = false := by decide)
    (hcd : (x == ("__classdict__" : Str)) = false := by decide) : PD X y (.Name x pos) (rVar i) := by
  refine PD.of (pe_var hN hv hd hcd) fun σ H Q h => ?_
  obtain ⟨ρ, S, R, sr, so, h, k⟩ := h
  unfold rVar at h
  split at h
  · rename_i d e
    obtain ⟨v, e1, q⟩ := sr.2 i d e
    exact ⟨v, e1, k d S v H (Go.refl so.so) q h⟩
  · exact h.elim
theorem pd_c {e : Expr} {v : V} {d : D} (h : PE X e (tC v)) (hd : ∀ H, DV X.K H d v) : PD X y e (rC d) := by
  refine PD.of h fun σ H Q h => ?_
  obtain ⟨ρ, S, R, sr, so, h, k⟩ := h
  exact k d S v H (Go.refl so.so) (hd H) h
theorem pd_int {i j pos} : PD X y (.Constant (.int i) j pos) (rC (.int i)) := pd_c pe_int fun _ => rfl
theorem pd_bl {i j pos} : PD X y (.Constant (.bool i) j pos) (rC (.bl i)) := pd_c pe_bl fun _ => rfl
theorem pd_non {j pos} : PD X y (.Constant .none j pos) (rC .non) := pd_c pe_non fun _ => rfl
theorem pd_str {x j pos} : PD X y (.Constant (.str x) j pos) (rC (.str x)) := pd_c pe_str fun _ => rfl
/-- a module's constant -/
theorem pd_glob {x : Str} {v : V} {u : Value} {d : D} {pos : Pos} (hm : X.mg x = some u) (r : RelV v u) (hd' : ∀ H, DV X.K H d v) (hg : Gl X x := by rfl) (hd : (x == ("__debug__" : Str)) = false := by decide) : PD X y (.Name x pos) (rC d) :=
  pd_c (pe_glob hg hm r hd) hd'

/-! ### two-place operators, by values -/
abbrev ROp := D → D → Sto → (D → Sto → Prop) → Prop
def lop (K : PySem.W.Frag) (p : ROp) : R2 := fun v w H Q => ∃ x y S R, DV K H x v ∧ DV K H y w ∧ SOk K H S ∧ p x y S R ∧ ∀ d S' z H', Go K H S H' S' → DV K H' d z → R d S' → Q z H'
def rBin (p : ROp) (ta tb : RE) : RE := fun ρ S Q => ta ρ S fun x S1 => tb ρ S1 fun y S2 => p x y S2 Q
theorem bin_of {r : R2} {p : ROp} {ta tb : RE} {σ : L2.St} {H : Hp} {Q : VK} (hr : ∀ v w H Q, lop X.K p v w H Q → r v w H Q) (h : lE X.K y (rBin p ta tb) σ H Q) : tOp r (lE X.K y ta) (lE X.K y tb) σ H Q := by
  obtain ⟨ρ, S, R, sr, so, h, k⟩ := h
  refine ⟨ρ, S, _, sr, so, h, fun x S1 v H1 g1 dv1 h1 => ⟨ρ, S1, _, sr.go g1, so.go g1, h1, fun y S2 w H2 g2 dv2 h2 => ?_⟩⟩
  exact hr _ _ _ _ ⟨x, y, S2, R, DV.go g2 _ _ dv1, dv2, g2.ok, h2, fun d S' z H' g dz hz => k d S' z H' (g1.trans (g2.trans g)) dz hz⟩
theorem pd_bin {op : Operator} {p : ROp} {a b : Expr} {ta tb : RE} {pos : Pos} (ho : OpR X (binaryOp op) (lop X.K p)) (ha : PD X y a ta) (hb : PD X y b tb) : PD X y (.BinOp a op b pos) (rBin p ta tb) :=
  PD.of (pe_op ho ha hb) fun _ _ _ h => bin_of (fun _ _ _ _ z => z) h
theorem pd_cmp {op : CmpOp} {p : ROp} {a b : Expr} {ta tb : RE} {pos : Pos} (ho : OpR X (compareOp op) (lop X.K p)) (ha : PD X y a ta) (hb : PD X y b tb) (hm : behindInMarks op b = false := by first | rfl | exact nomark _) : PD X y (.Compare a [op] [b] pos) (rBin p ta tb) :=
  PD.of (pe_cmpR ho ha hb hm) fun _ _ _ h => bin_of (fun _ _ _ _ z => z) h
/-- a value's truth, where it is a bool -/
def dBl : D → (Bool → Prop) → Prop
  | .bl b, k => k b
  | _, _ => False
def rTst (t : RE) : RT := fun ρ S Q => t ρ S fun d S1 => dBl d fun b => Q b S1
theorem tst_of {t0 : TE} {t : RE} {σ : L2.St} {H : Hp} {Q : Bool → Hp → Prop} (ht : ∀ σ H Q, lE X.K y t σ H Q → t0 σ H Q) (h : lT X.K y (rTst t) σ H Q) : t0 σ H (fun x H' => ∃ k, x = .bl k ∧ Q k H') := by
  obtain ⟨ρ, S, R, sr, so, h, k⟩ := h
  refine ht _ _ _ ⟨ρ, S, _, sr, so, h, fun d S' v H' g dv hd => ?_⟩
  cases d with
  | bl b => exact ⟨b, dv, k b S' H' g hd⟩
  | _ => exact False.elim hd
theorem pdt_cmp {op : CmpOp} {p : ROp} {a b : Expr} {ta tb : RE} {pos : Pos} (ho : OpR X (compareOp op) (lop X.K p)) (ha : PD X y a ta) (hb : PD X y b tb) (hm : behindInMarks op b = false := by first | rfl | exact nomark _) : PDT X y (.Compare a [op] [b] pos) (rTst (rBin p ta tb)) :=
  PDT.of (pt_cmpR ho ha hb hm) fun _ _ _ h => tst_of (fun _ _ _ h => bin_of (fun _ _ _ _ z => z) h) h
theorem pdt_val {e : Expr} {t : RE} (h : PD X y e t) (he : ∀ whole, isTrue e X.env whole = (do let v ← whole; standAt e.pos; holding [v] (truthy v)) := by intro _; rfl) : PDT X y e (rTst t) :=
  PDT.of (pt_val h he) fun _ _ _ h => tst_of (fun _ _ _ h => h) h
/-- a value's truth -/
def dTru : D → Sto → (Bool → Prop) → Prop
  | .non, _, k => k false
  | .bl b, _, k => k b
  | .int i, _, k => k (i != 0)
  | .str x, _, k => x.length ≤ sizeLine ∧ k ((x.length : Int) != 0)
  | .tup xs, _, k => k (!xs.isEmpty)
  | .fro xs, _, k => k (!xs.isEmpty)
  | .ref a, S, k => (∃ xs, S a = some (.lst xs) ∧ k (!xs.isEmpty)) ∨ ∃ kvs, S a = some (.dK kvs) ∧ k (!kvs.isEmpty)
  | _, _, _ => False
theorem DVs.empty {K : PySem.W.Frag} {H : Hp} {ds : List D} {vs : List V} (h : DVs K H ds vs) : ds.isEmpty = vs.isEmpty := by
  have := h.length
  cases ds <;> cases vs <;> simp_all
theorem DKs.length {K : PySem.W.Frag} {H : Hp} {ds : List (Key × D)} {vs : List (Key × V)} (h : DKs K H ds vs) : ds.length = vs.length := by
  induction h with
  | nil => rfl
  | cons _ _ ih => simp [ih]
theorem DKs.empty {K : PySem.W.Frag} {H : Hp} {ds : List (Key × D)} {vs : List (Key × V)} (h : DKs K H ds vs) : ds.isEmpty = vs.isEmpty := by
  cases h <;> rfl
theorem dTru_of {K : PySem.W.Frag} {H : Hp} {S : Sto} (so : SOk K H S) : ∀ {d : D} {v : V} {k : Bool → Prop}, DV K H d v → dTru d S k → ∃ b, TruV K v H b ∧ k b
  | .non, _, _, h, q => by cases (show _ = V.non from h); exact ⟨false, rfl, q⟩
  | .bl b, _, _, h, q => by cases (show _ = V.bl b from h); exact ⟨b, rfl, q⟩
  | .int i, _, _, h, q => by cases (show _ = V.int i from h); exact ⟨_, rfl, q⟩
  | .str x, _, _, h, q => by cases (show _ = V.str x from h); exact ⟨_, ⟨q.1, rfl⟩, q.2⟩
  | .tup xs, _, _, h, q => by
    obtain ⟨a, vs, rfl, e, r⟩ := h
    exact ⟨_, .inr (.inl ⟨vs, e.sq, rfl⟩), by rw [← r.empty]; exact q⟩
  | .fro xs, _, _, h, q => by
    obtain ⟨a, vs, rfl, e, r⟩ := h
    exact ⟨_, .inl ⟨vs, e.sq, rfl⟩, by rw [← r.empty]; exact q⟩
  | .ref a, _, _, h, q => by
    cases (show _ = V.ref a from h)
    rcases q with ⟨xs, e, q⟩ | ⟨xs, e, q⟩
    · obtain ⟨vs, e1, r⟩ := so a _ e
      exact ⟨_, .inl ⟨vs, SqL.of e1, rfl⟩, by rw [← r.empty]; exact q⟩
    · obtain ⟨vs, e1, r⟩ := so a _ e
      exact ⟨_, .inr (.inr ⟨vs, e1, rfl⟩), by rw [← r.empty]; exact q⟩
  | .ty _, _, _, _, q => q.elim
  | .exc _ _, _, _, _, q => q.elim
def rTru (t : RE) : RT := fun ρ S Q => t ρ S fun d S1 => dTru d S1 fun b => Q b S1
theorem pdt_tru {e : Expr} {t : RE} (h : PD X y e t) (he : ∀ whole, isTrue e X.env whole = (do let v ← whole; standAt e.pos; holding [v] (truthy v)) := by intro _; rfl) : PDT X y e (rTru t) := by
  refine PDT.of (pt_truth h he) fun σ H Q h => ?_
  obtain ⟨ρ, S, R, sr, so, h, k⟩ := h
  refine ⟨ρ, S, _, sr, so, h, fun d S' v H' g dv hd => ?_⟩
  obtain ⟨b, h1, h2⟩ := dTru_of g.ok dv hd
  exact ⟨b, h1, k b S' H' g h2⟩

/-! ### and, or, not, if -/
def rAnd (t u : RT) : RT := fun ρ S Q => t ρ S fun c S1 => IFB c (u ρ S1 Q) (Q false S1)
def rOr (t u : RT) : RT := fun ρ S Q => t ρ S fun c S1 => IFB c (Q true S1) (u ρ S1 Q)
def rNot (t : RT) : RT := fun ρ S Q => t ρ S fun c S1 => Q (!c) S1
theorem ite_of_IFB {b : Bool} {A B A' B' : Prop} (h : IFB b A B) (h1 : A → A') (h2 : B → B') : if b = true then A' else B' := by
  have q := h.of
  cases b with
  | true => rw [if_pos rfl]; exact h1 (q.1 rfl)
  | false => rw [if_neg Bool.false_ne_true]; exact h2 (q.2 rfl)
variable {a b : Expr} {rest : List Expr} {pos : Pos}
theorem pdw_and1 {t : RT} (h : PDT X y a t) : PDW X y (.BoolOp .And [a] pos) t := pw_and1 h
theorem pdw_or1 {t : RT} (h : PDT X y a t) : PDW X y (.BoolOp .Or [a] pos) t := pw_or1 h
theorem PDW.of {e : Expr} {t0 : TT} {t : RT} (h : PW X e t0) (w : ∀ σ H Q, lT X.K y t σ H Q → t0 σ H Q) : PDW X y e t := ⟨fun wh pins s σ H Q I q => h.run wh pins s σ H Q I (w σ H Q q)⟩
theorem pdw_and {t u : RT} (ha : PDT X y a t) (hb : PDW X y (.BoolOp .And (b :: rest) pos) u) : PDW X y (.BoolOp .And (a :: b :: rest) pos) (rAnd t u) := by
  refine PDW.of (pw_and ha hb) fun σ H Q h => ?_
  obtain ⟨ρ, S, R, sr, so, h, k⟩ := h
  refine ⟨ρ, S, _, sr, so, h, fun c S' H' g hd => ?_⟩
  exact ite_of_IFB hd (fun z => ⟨ρ, S', R, sr.go g, so.go g, z, fun b S2 H2 g2 q => k b S2 H2 (g.trans g2) q⟩) fun z => k false S' H' g z
theorem pdw_or {t u : RT} (ha : PDT X y a t) (hb : PDW X y (.BoolOp .Or (b :: rest) pos) u) : PDW X y (.BoolOp .Or (a :: b :: rest) pos) (rOr t u) := by
  refine PDW.of (pw_or ha hb) fun σ H Q h => ?_
  obtain ⟨ρ, S, R, sr, so, h, k⟩ := h
  refine ⟨ρ, S, _, sr, so, h, fun c S' H' g hd => ?_⟩
  exact ite_of_IFB hd (fun z => k true S' H' g z) fun z => ⟨ρ, S', R, sr.go g, so.go g, z, fun b S2 H2 g2 q => k b S2 H2 (g.trans g2) q⟩
theorem PDW.pt {e : Expr} {t : RT} (h : PDW X y e t) : PDT X y e t := PW.pt h
theorem pdt_not {t : RT} (ha : PDT X y a t) : PDT X y (.UnaryOp .Not a pos) (rNot t) := by
  refine PDT.of (pt_not ha) fun σ H Q h => ?_
  obtain ⟨ρ, S, R, sr, so, h, k⟩ := h
  exact ⟨ρ, S, _, sr, so, h, fun c S' H' g hd => k _ S' H' g hd⟩
def rAndV (t u : RE) : RE := fun ρ S Q => t ρ S fun d S1 => dBl d fun c => IFB c (u ρ S1 Q) (Q (.bl false) S1)
def rOrV (t u : RE) : RE := fun ρ S Q => t ρ S fun d S1 => dBl d fun c => IFB c (Q (.bl true) S1) (u ρ S1 Q)
def rNotV (t : RE) : RE := fun ρ S Q => t ρ S fun d S1 => dBl d fun c => Q (.bl (!c)) S1
theorem pd_one {op : BoolOp} {t : RE} (h : PD X y a t) : PD X y (.BoolOp op [a] pos) t := pe_one h
theorem pd_and {t u : RE} (ha : PD X y a t) (hb : PD X y (.BoolOp .And (b :: rest) pos) u) : PD X y (.BoolOp .And (a :: b :: rest) pos) (rAndV t u) := by
  refine PD.of (pe_and ha hb) fun σ H Q h => ?_
  obtain ⟨ρ, S, R, sr, so, h, k⟩ := h
  refine ⟨ρ, S, _, sr, so, h, fun d S' v H' g dv hd => ?_⟩
  cases d with
  | bl c =>
    refine ⟨c, dv, ite_of_IFB hd (fun z => ⟨ρ, S', R, sr.go g, so.go g, z, fun d S2 v H2 g2 dv q => k d S2 v H2 (g.trans g2) dv q⟩) fun z => k (.bl false) S' _ H' g rfl z⟩
  | _ => exact False.elim hd
theorem pd_or {t u : RE} (ha : PD X y a t) (hb : PD X y (.BoolOp .Or (b :: rest) pos) u) : PD X y (.BoolOp .Or (a :: b :: rest) pos) (rOrV t u) := by
  refine PD.of (pe_or ha hb) fun σ H Q h => ?_
  obtain ⟨ρ, S, R, sr, so, h, k⟩ := h
  refine ⟨ρ, S, _, sr, so, h, fun d S' v H' g dv hd => ?_⟩
  cases d with
  | bl c =>
    refine ⟨c, dv, ite_of_IFB hd (fun z => k (.bl true) S' _ H' g rfl z) fun z => ⟨ρ, S', R, sr.go g, so.go g, z, fun d S2 v H2 g2 dv q => k d S2 v H2 (g.trans g2) dv q⟩⟩
  | _ => exact False.elim hd
theorem pd_not {t : RE} (ha : PD X y a t) : PD X y (.UnaryOp .Not a pos) (rNotV t) := by
  refine PD.of (pe_not ha) fun σ H Q h => ?_
  obtain ⟨ρ, S, R, sr, so, h, k⟩ := h
  refine ⟨ρ, S, _, sr, so, h, fun d S' v H' g dv hd => ?_⟩
  cases d with
  | bl c => exact ⟨c, dv, k (.bl (!c)) S' _ H' g rfl hd⟩
  | _ => exact False.elim hd
def rIf (t : RT) (u w : RE) : RE := fun ρ S Q => t ρ S fun c S1 => IFB c (u ρ S1 Q) (w ρ S1 Q)
theorem pd_if {c : Expr} {t : RT} {u w : RE} (hc : PDT X y c t) (ha : PD X y a u) (hb : PD X y b w) : PD X y (.IfExp c a b pos) (rIf t u w) := by
  refine PD.of (pe_ifExp hc ha hb) fun σ H Q h => ?_
  obtain ⟨ρ, S, R, sr, so, h, k⟩ := h
  refine ⟨ρ, S, _, sr, so, h, fun c S' H' g hd => ?_⟩
  exact ite_of_IFB hd (fun z => ⟨ρ, S', R, sr.go g, so.go g, z, fun d S2 v H2 g2 dv q => k d S2 v H2 (g.trans g2) dv q⟩) fun z => ⟨ρ, S', R, sr.go g, so.go g, z, fun d S2 v H2 g2 dv q => k d S2 v H2 (g.trans g2) dv q⟩

/-! ### arguments, displays -/
def rNil : RA := fun _ S Q => Q [] S
def rCons (t : RE) (u : RA) : RA := fun ρ S Q => t ρ S fun d S1 => u ρ S1 fun ds S2 => Q (d :: ds) S2
variable {e : Expr} {es : List Expr}
theorem pda_nil : PDA X y [] rNil := PDA.of pa_nil fun σ H Q h => by
  obtain ⟨ρ, S, R, sr, so, h, k⟩ := h
  exact k [] S [] H (Go.refl so.so) DVs.nil rfl h
theorem pda_cons {t : RE} {u : RA} (he : PD X y e t) (hr : PDA X y es u) (hs : starEach (e :: es) X.env = (false, eval e X.env) :: starEach es X.env := by rfl) : PDA X y (e :: es) (rCons t u) := by
  refine PDA.of (pa_cons he hr hs) fun σ H Q h => ?_
  obtain ⟨ρ, S, R, sr, so, h, k⟩ := h
  refine ⟨ρ, S, _, sr, so, h, fun d S1 v H1 g1 dv h1 => ⟨ρ, S1, _, sr.go g1, so.go g1, h1, fun ds S2 vs H2 g2 dvs hn h2 => ?_⟩⟩
  exact k _ S2 _ H2 (g1.trans g2) (DVs.cons (DV.go g2 _ _ dv) dvs) (by rw [List.length_cons, List.length_cons, hn]) h2
def rTup (t : RA) : RE := fun ρ S Q => t ρ S fun ds S1 => Q (.tup ds) S1
def rLst (t : RA) : RE := fun ρ S Q => t ρ S fun ds S1 => ∀ p, S1 p = none → Q (.ref p) (sup S1 p (.lst ds))
theorem pd_tup {t : RA} {k : Nat} (h : PDA X y es t) (hl : es.length ≤ sizeLine := by decide) : PD X y (.Tuple es k pos) (rTup t) := by
  refine PD.of (pe_tup h) fun σ H Q h => ?_
  obtain ⟨ρ, S, R, sr, so, h, k⟩ := h
  refine ⟨ρ, S, _, sr, so, h, fun ds S1 vs H1 g1 dvs hn h1 => ⟨by rw [← dvs.length, hn]; exact hl, fun p hp => ?_⟩⟩
  have g2 := Go.new (o := .tup vs) g1.ok hp
  exact k (.tup ds) S1 _ _ (g1.trans g2) ⟨p, vs, rfl, .inl upd_same, DVs.go g2 _ _ dvs⟩ h1
theorem pd_lst {t : RA} (h : PDA X y es t) (hl : es.length ≤ sizeLine := by decide) : PD X y (.List es pos) (rLst t) := by
  refine PD.of (pe_lst h) fun σ H Q h => ?_
  obtain ⟨ρ, S, R, sr, so, h, k⟩ := h
  refine ⟨ρ, S, _, sr, so, h, fun ds S1 vs H1 g1 dvs hn h1 => ⟨by rw [← dvs.length, hn]; exact hl, fun p hp => ?_⟩⟩
  have g2 := Go.newLst g1.ok hp dvs
  exact k (.ref p) _ _ _ (g1.trans g2) rfl (h1 p (g1.ok.free hp))
end
end DL
set_option Elab.async false
set_option linter.all false
set_option maxRecDepth 100000
set_option maxHeartbeats 4000000
namespace DL
open PySem PySem.Spec PyProof.Rows L2

/-! ### statements -/
structure DEnds where
  nx : Ro → Sto → Prop
  rt : D → Sto → Prop
  bk : Ro → Sto → Prop := fun _ _ => False
  ct : Ro → Sto → Prop := fun _ _ => False
abbrev RS := DEnds → Ro → Sto → Prop
structure EOk (K : PySem.W.Frag) (H : Hp) (S : Sto) (E : DEnds) (D : Ends) : Prop where
  nx : ∀ ρ S' σ H', Go K H S H' S' → SRv K σ H' ρ → E.nx ρ S' → D.nx σ H'
  rt : ∀ d S' v H', Go K H S H' S' → DV K H' d v → E.rt d S' → D.rt v H'
  bk : ∀ ρ S' σ H', Go K H S H' S' → SRv K σ H' ρ → E.bk ρ S' → D.bk σ H'
  ct : ∀ ρ S' σ H', Go K H S H' S' → SRv K σ H' ρ → E.ct ρ S' → D.ct σ H'
theorem EOk.go {K : PySem.W.Frag} {H H1 : Hp} {S S1 : Sto} {E : DEnds} {D : Ends} (h : EOk K H S E D) (g : Go K H S H1 S1) : EOk K H1 S1 E D :=
  ⟨fun ρ S' σ H' g' => h.nx ρ S' σ H' (g.trans g'), fun d S' v H' g' => h.rt d S' v H' (g.trans g'), fun ρ S' σ H' g' => h.bk ρ S' σ H' (g.trans g'), fun ρ S' σ H' g' => h.ct ρ S' σ H' (g.trans g')⟩
def lS (K : PySem.W.Frag) (y : DXw) (t : RS) : TS := fun D σ H => ∃ ρ S E, SRv K σ H ρ ∧ SX K y H S ∧ t E ρ S ∧ EOk K H S E D
def PDS (X : Cx) (y : DXw) (st : Stmt) (t : RS) : Prop := PS X st (lS X.K y t)
def PDSs (X : Cx) (y : DXw) (st : List Stmt) (t : RS) : Prop := PSs X st (lS X.K y t)
section
variable {X : Cx} {y : DXw} {st : Stmt} {rest : List Stmt} {t u : RS} {e : Expr} {te : RE} {pos : Pos}
theorem PDS.of {t0 : TS} (h : PS X st t0) (w : ∀ D σ H, lS X.K y t D σ H → t0 D σ H) : PDS X y st t := ⟨fun pins s σ H D I q => h.run pins s σ H D I (w D σ H q)⟩
theorem PDSs.of {sts : List Stmt} {t0 : TS} (h : PSs X sts t0) (w : ∀ D σ H, lS X.K y t D σ H → t0 D σ H) : PDSs X y sts t := ⟨fun pins s σ H D I q => h.run pins s σ H D I (w D σ H q)⟩
def rNext : RS := fun E ρ S => E.nx ρ S
def rSeq (t u : RS) : RS := fun E ρ S => t { E with nx := u E } ρ S
def rBreak : RS := fun E ρ S => E.bk ρ S
def rCont : RS := fun E ρ S => E.ct ρ S
def rNever : RS := fun _ _ _ => False
theorem pds_nil : PDSs X y [] rNext := PDSs.of pss_nil fun D σ H h => by
  obtain ⟨ρ, S, E, sr, so, h, eo⟩ := h
  exact eo.nx ρ S σ H (Go.refl so.so) sr h
theorem pds_one (h : PDS X y st t) : PDSs X y [st] t := pss_one h
theorem pds_cons (h1 : PDS X y st t) (h2 : PDSs X y rest u) : PDSs X y (st :: rest) (rSeq t u) := PDSs.of (pss_cons h1 h2) fun D σ H h => by
  obtain ⟨ρ, S, E, sr, so, h, eo⟩ := h
  exact ⟨ρ, S, { E with nx := u E }, sr, so, h, ⟨fun ρ' S' σ' H' g sr' q => ⟨ρ', S', E, sr', so.go g, q, eo.go g⟩, eo.rt, eo.bk, eo.ct⟩⟩
theorem pd_pass : PDS X y (.Pass pos) rNext := PDS.of ps_pass fun D σ H h => by
  obtain ⟨ρ, S, E, sr, so, h, eo⟩ := h
  exact eo.nx ρ S σ H (Go.refl so.so) sr h
theorem pd_break : PDS X y (.Break pos) rBreak := PDS.of ps_break fun D σ H h => by
  obtain ⟨ρ, S, E, sr, so, h, eo⟩ := h
  exact eo.bk ρ S σ H (Go.refl so.so) sr h
theorem pd_cont : PDS X y (.Continue pos) rCont := PDS.of ps_continue fun D σ H h => by
  obtain ⟨ρ, S, E, sr, so, h, eo⟩ := h
  exact eo.ct ρ S σ H (Go.refl so.so) sr h
theorem pd_never : PDS X y st rNever := PDS.of ps_never fun D σ H h => by
  obtain ⟨ρ, S, E, sr, so, h, eo⟩ := h
  exact h
theorem pds_never {sts : List Stmt} : PDSs X y sts rNever := PDSs.of pss_never fun D σ H h => by
  obtain ⟨ρ, S, E, sr, so, h, eo⟩ := h
  exact h
def rDrop (te : RE) : RS := fun E ρ S => te ρ S fun _ S1 => E.nx ρ S1
theorem pd_expr (he : PD X y e te) (hs : swapsWith e none pos.line X.env = pure false := by rfl) : PDS X y (.Expr e pos) (rDrop te) := PDS.of (ps_expr he hs) fun D σ H h => by
  obtain ⟨ρ, S, E, sr, so, h, eo⟩ := h
  exact ⟨ρ, S, _, sr, so, h, fun d S' v H' g dv q => eo.nx ρ S' σ H' g (sr.go g) q⟩
def rRet (te : RE) : RS := fun E ρ S => te ρ S E.rt
theorem pd_ret (he : PD X y e te) : PDS X y (.Return (some e) pos) (rRet te) := PDS.of (ps_ret he) fun D σ H h => by
  obtain ⟨ρ, S, E, sr, so, h, eo⟩ := h
  exact ⟨ρ, S, _, sr, so, h, fun d S' v H' g dv q => eo.rt d S' v H' g dv q⟩
def rRetN : RS := fun E _ S => E.rt .non S
theorem pd_retN : PDS X y (.Return none pos) rRetN := PDS.of ps_retN fun D σ H h => by
  obtain ⟨ρ, S, E, sr, so, h, eo⟩ := h
  exact eo.rt .non S .non H (Go.refl so.so) rfl h
def rIfS (c : RT) (t u : RS) : RS := fun E ρ S => c ρ S fun b S1 => IFB b (t E ρ S1) (u E ρ S1)
theorem pd_ifS {c : Expr} {a b : List Stmt} {tc : RT} (hc : PDT X y c tc) (ha : PDSs X y a t) (hb : PDSs X y b u) : PDS X y (.If c a b pos) (rIfS tc t u) := PDS.of (ps_if hc ha hb) fun D σ H h => by
  obtain ⟨ρ, S, E, sr, so, h, eo⟩ := h
  refine ⟨ρ, S, _, sr, so, h, fun b S' H' g q => ?_⟩
  exact ite_of_IFB q (fun z => ⟨ρ, S', E, sr.go g, so.go g, z, eo.go g⟩) fun z => ⟨ρ, S', E, sr.go g, so.go g, z, eo.go g⟩

/-! ### targets -/
abbrev RG := D → Ro → Sto → (Ro → Sto → Prop) → Prop
abbrev RGs := List D → Ro → Sto → (Ro → Sto → Prop) → Prop
def lG (K : PySem.W.Frag) (y : DXw) (t : RG) : TG := fun v σ H Q => ∃ d ρ S R, DV K H d v ∧ SRv K σ H ρ ∧ SX K y H S ∧ t d ρ S R ∧ ∀ ρ' S' σ' H', Go K H S H' S' → SRv K σ' H' ρ' → R ρ' S' → Q σ' H'
def lGs (K : PySem.W.Frag) (y : DXw) (t : RGs) : TGs := fun vs σ H Q => ∃ ds ρ S R, DVs K H ds vs ∧ SRv K σ H ρ ∧ SX K y H S ∧ t ds ρ S R ∧ ∀ ρ' S' σ' H', Go K H S H' S' → SRv K σ' H' ρ' → R ρ' S' → Q σ' H'
def PDG (X : Cx) (y : DXw) (tg : Expr) (t : RG) : Prop := PG X tg (lG X.K y t)
def PDGs (X : Cx) (y : DXw) (ts : List Expr) (t : RGs) : Prop := PGs X ts (lGs X.K y t)
theorem PDG.of {tg : Expr} {t0 : TG} {t : RG} (h : PG X tg t0) (w : ∀ v σ H Q, lG X.K y t v σ H Q → t0 v σ H Q) : PDG X y tg t := ⟨fun pins s σ H v u Q I r q => h.run pins s σ H v u Q I r (w v σ H Q q)⟩
theorem PDGs.of {ts : List Expr} {t0 : TGs} {t : RGs} (h : PGs X ts t0) (w : ∀ v σ H Q, lGs X.K y t v σ H Q → t0 v σ H Q) : PDGs X y ts t := ⟨fun pins s σ H v u Q I r q => h.run pins s σ H v u Q I r (w v σ H Q q)⟩
def gN (i : Nat) : RG := fun d ρ S Q => Q (ρ.set i (some d)) S
theorem pdg_name (i : Nat) {x : Str} (hN : X.N.Nodup) (hi : X.N[i]? = some x := by rfl) (hx : Loc X.env.scope x := by first | exact Or.inl rfl | exact Or.inr rfl) (hf : X.fn x = true ∨ X.env.scope.names.lookup x = some .local := by first | exact .inl rfl | exact .inr rfl) : PDG X y (.Name x pos) (gN i) :=
  PDG.of (pg_name hN hi hx hf) fun v σ H Q h => by
    obtain ⟨d, ρ, S, R, dv, sr, so, h, k⟩ := h
    exact k _ S _ H (Go.refl so.so) (sr.set dv i) h
def gNl : RGs := fun ds ρ S Q => match ds with
  | [] => Q ρ S
  | _ => False
def gCs (t : RG) (u : RGs) : RGs := fun ds ρ S Q => match ds with
  | d :: r => t d ρ S fun ρ' S' => u r ρ' S' Q
  | [] => False
theorem pdgs_nil : PDGs X y [] gNl := PDGs.of pgs_nil fun vs σ H Q h => by
  obtain ⟨ds, ρ, S, R, dv, sr, so, h, k⟩ := h
  cases ds with
  | nil => exact ⟨dv, k ρ S σ H (Go.refl so.so) sr h⟩
  | cons d r => exact h.elim
theorem pdgs_cons {es : List Expr} {t : RG} {u : RGs} (h1 : PDG X y e t) (h2 : PDGs X y es u) (hs : (assignEach (e :: es) X.env).map (·.2) = assign e X.env :: (assignEach es X.env).map (·.2) := by rfl) : PDGs X y (e :: es) (gCs t u) := PDGs.of (pgs_cons h1 h2 hs) fun vs σ H Q h => by
  obtain ⟨ds, ρ, S, R, dv, sr, so, h, k⟩ := h
  cases ds with
  | nil => exact h.elim
  | cons d r =>
    obtain ⟨v, ws, rfl, dv1, dv2⟩ := dv
    exact ⟨v, ws, rfl, d, ρ, S, _, dv1, sr, so, h, fun ρ1 S1 σ1 H1 g1 sr1 h1 => ⟨r, ρ1, S1, R, DVs.go g1 _ _ dv2, sr1, so.go g1, h1, fun ρ2 S2 σ2 H2 g2 sr2 h2 => k ρ2 S2 σ2 H2 (g1.trans g2) sr2 h2⟩⟩
def gTp (n : Nat) (t : RGs) : RG := fun d ρ S Q => match d with
  | .tup xs => xs.length = n ∧ t xs ρ S Q
  | _ => False
theorem pdg_tup {es : List Expr} {k : Nat} {t : RGs} {n : Nat} (hc : X.calm = true) (h : PDGs X y es t) (hn : (assignEach es X.env).length = n := by rfl) (hst : (assignEach es X.env).findIdx? (·.1) = none := by rfl) : PDG X y (.Tuple es k pos) (gTp n t) :=
  PDG.of (pg_tup hc h hn hst) fun v σ H Q h => by
    obtain ⟨d, ρ, S, R, dv, sr, so, h, k⟩ := h
    cases d with
    | tup xs =>
      obtain ⟨a, vs, rfl, q, r⟩ := dv
      exact ⟨a, vs, rfl, q.sq, r.length.symm.trans h.1, xs, ρ, S, R, r, sr, so, h.2, k⟩
    | _ => exact False.elim h
/-- o[i] = d, by values -/
abbrev RSet := D → D → D → Sto → (Sto → Prop) → Prop
def lset (K : PySem.W.Frag) (p : RSet) : TSet := fun o i v H Q => ∃ x k d S R, DV K H x o ∧ DV K H k i ∧ DV K H d v ∧ SOk K H S ∧ p x k d S R ∧ ∀ S' H', Go K H S H' S' → R S' → Q H'
def gSb (to ti : RE) (p : RSet) : RG := fun d ρ S Q => to ρ S fun o S1 => ti ρ S1 fun i S2 => p o i d S2 fun S3 => Q ρ S3
theorem pdg_sub {o i : Expr} {to ti : RE} {p : RSet} (hs : PSet X (lset X.K p)) (ho : PD X y o to) (hi : PD X y i ti)
    (ha : ∀ v, assign (.Subscript o i pos) X.env v = (do
      let ov ← holding [v] (eval o X.env)
      let iv ← holding [v, ov] (eval i X.env)
      standAt pos
      holding [v, ov, iv] (setItem ov iv v)
      release [v, ov, iv] []) := by intro _; rfl) : PDG X y (.Subscript o i pos) (gSb to ti p) := PDG.of (pg_sub ho hi hs ha) fun v σ H Q h => by
  obtain ⟨d, ρ, S, R, dv, sr, so, h, k⟩ := h
  refine ⟨ρ, S, _, sr, so, h, fun x S1 v1 H1 g1 dv1 h1 => ⟨ρ, S1, _, sr.go g1, so.go g1, h1, fun i S2 v2 H2 g2 dv2 h2 => ?_⟩⟩
  exact ⟨x, i, d, S2, _, DV.go g2 _ _ dv1, dv2, DV.go (g1.trans g2) _ _ dv, g2.ok, h2, fun S3 H3 g3 h3 => k ρ S3 σ H3 (g1.trans (g2.trans g3)) (sr.go (g1.trans (g2.trans g3))) h3⟩
def rAsg (te : RE) (g : RG) : RS := fun E ρ S => te ρ S fun d S1 => g d ρ S1 E.nx
theorem asg_of {te : RE} {g : RG} {D : Ends} {σ : L2.St} {H : Hp} (h : lS X.K y (rAsg te g) D σ H) : tAsg (lE X.K y te) (lG X.K y g) D σ H := by
  obtain ⟨ρ, S, E, sr, so, h, eo⟩ := h
  exact ⟨ρ, S, _, sr, so, h, fun d S1 v H1 g1 dv h1 => ⟨d, ρ, S1, _, dv, sr.go g1, so.go g1, h1, fun ρ2 S2 σ2 H2 g2 sr2 h2 => eo.nx ρ2 S2 σ2 H2 (g1.trans g2) sr2 h2⟩⟩
theorem pd_asg {tg : Expr} {g : RG} (he : PD X y e te) (hg : PDG X y tg g) (hs : swapsWithSole [tg] e pos.line X.env = pure false := by rfl) (hw : swappedStores [tg] e X.env = pure none := by rfl)
    (h1 : (assignEach [tg] X.env).map (·.2) = [assign tg X.env] := by rfl) : PDS X y (.Assign [tg] e pos) (rAsg te g) := PDS.of (ps_asg he hg hs hw h1) fun D σ H h => asg_of h
theorem pd_set (i : Nat) {x : Str} {pos' : Pos} (hN : X.N.Nodup) (he : PD X y e te) (hi : X.N[i]? = some x := by rfl) (hx : Loc X.env.scope x := by first | exact Or.inl rfl | exact Or.inr rfl) (hs : swapsWith e (some (.Name x pos')) pos.line X.env = pure false := by rfl) (hf : X.fn x = true ∨ X.env.scope.names.lookup x = some .local := by first | exact .inl rfl | exact .inr rfl) :
    PDS X y (.Assign [.Name x pos'] e pos) (rAsg te (gN i)) := PDS.of (ps_set hN hi hx he hs hf) fun D σ H h => by
  obtain ⟨ρ, S, E, sr, so, h, eo⟩ := h
  exact ⟨ρ, S, _, sr, so, h, fun d S1 v H1 g1 dv h1 => eo.nx _ S1 _ H1 g1 ((sr.go g1).set dv i) h1⟩
/-- a, b = x, y with plain local names -/
def rPar (i j : Nat) (ta : RA) : RS := fun E ρ S => ta ρ S fun ds S1 => match ds with
  | [d, e] => E.nx ((ρ.set i (some d)).set j (some e)) S1
  | _ => False
theorem pd_par (i j : Nat) {x z : Str} {a b : Expr} {ta : RA} {px py pt : Pos} {kt k2 pt2} (hc : X.calm = true) (hN : X.N.Nodup) (ha : PDA X y [a, b] ta)
    (hw : swappedStores [.Tuple [.Name x px, .Name z py] kt pt] (.Tuple [a, b] k2 pt2) X.env = pure (some [x, z]))
    (hi : X.N[i]? = some x := by rfl) (hj : X.N[j]? = some z := by rfl) (hij : i ≠ j := by decide)
    (hx : X.env.scope.names.lookup x = some .local := by rfl) (hy : X.env.scope.names.lookup z = some .local := by rfl)
    (hs : swapsWithSole [.Tuple [.Name x px, .Name z py] kt pt] (.Tuple [a, b] k2 pt2) pos.line X.env = pure false := by rfl) :
    PDS X y (.Assign [.Tuple [.Name x px, .Name z py] kt pt] (.Tuple [a, b] k2 pt2) pos) (rPar i j ta) := PDS.of (ps_par hc hN hi hj hij hx hy ha hw hs) fun D σ H h => by
  obtain ⟨ρ, S, E, sr, so, h, eo⟩ := h
  refine ⟨ρ, S, _, sr, so, h, fun ds S1 vs H1 g1 dvs hn h1 => ?_⟩
  match ds, dvs, h1 with
  | [d, e], dvs, h1 =>
    obtain ⟨v, ws, rfl, dv1, v2, ws2, rfl, dv2, q⟩ := dvs
    cases (show ws2 = [] from q)
    exact ⟨v, v2, rfl, eo.nx _ S1 _ H1 g1 (((sr.go g1).set dv1 i).set dv2 j) h1⟩
  | [], _, h1 => exact h1.elim
  | [_], _, h1 => exact h1.elim
  | _ :: _ :: _ :: _, _, h1 => exact h1.elim

/-! ### while, for -/
def rWhile (c : RT) (tb : RS) : RS := fun E ρ S => ∃ W : Nat → Ro → Sto → Prop, (∃ m, W m ρ S) ∧ ∀ m ρ S, W m ρ S →
  c ρ S fun b S1 => IFB b (tb { E with nx := fun ρ' S' => ∃ m', m' < m ∧ W m' ρ' S', ct := fun ρ' S' => ∃ m', m' < m ∧ W m' ρ' S', bk := E.nx } ρ S1) (E.nx ρ S1)
theorem pd_while {c : Expr} {body : List Stmt} {tc : RT} {tb : RS} (hp : PassesOwn (model X.prog X.w) X.A X.env X.xe) (hc : PDT X y c tc) (hb : PDSs X y body tb) : PDS X y (.While c body [] pos) (rWhile tc tb) := PDS.of (ps_while hp hc hb) fun D σ H h => by
  obtain ⟨ρ, S, E, sr, so, ⟨W, ⟨m, hW⟩, hs⟩, eo⟩ := h
  refine ⟨fun m σ1 H1 => ∃ ρ1 S1, Go X.K H S H1 S1 ∧ SRv X.K σ1 H1 ρ1 ∧ W m ρ1 S1, ⟨m, ρ, S, Go.refl so.so, sr, hW⟩, ?_⟩
  rintro m σ1 H1 ⟨ρ1, S1, g1, sr1, w1⟩
  refine ⟨ρ1, S1, _, sr1, so.go g1, hs m ρ1 S1 w1, fun b S2 H2 g2 q => ?_⟩
  refine ite_of_IFB q (fun z => ⟨fun σ3 H3 => ∃ m', m' < m ∧ ∃ ρ3 S3, Go X.K H S H3 S3 ∧ SRv X.K σ3 H3 ρ3 ∧ W m' ρ3 S3, fun σ3 H3 h => h, ρ1, S2, _, sr1.go g2, so.go (g1.trans g2), z, ?_⟩) fun z => eo.nx ρ1 S2 σ1 H2 (g1.trans g2) (sr1.go g2) z
  have eo2 := eo.go (g1.trans g2)
  refine ⟨fun ρ3 S3 σ3 H3 g3 sr3 ⟨m', hm, w⟩ => ⟨m', hm, ρ3, S3, (g1.trans g2).trans g3, sr3, w⟩, eo2.rt, eo2.nx, fun ρ3 S3 σ3 H3 g3 sr3 ⟨m', hm, w⟩ => ⟨m', hm, ρ3, S3, (g1.trans g2).trans g3, sr3, w⟩⟩
/-- what is walked: its items; while src stands it goes on so -/
abbrev RI := Ro → Sto → (List D → (Sto → Prop) → Sto → Prop) → Prop
def JOk (K : PySem.W.Frag) (H1 : Hp) (S1 : Sto) (J : It) (xs : List D) (src : Sto → Prop) : Prop :=
  ∀ i H S, Go K H1 S1 H S → src S → (∀ x, xs[i]? = some x → J.go i H ∧ ∀ v H', J.yld i H v H' → Go K H S H' S ∧ DV K H' x v) ∧ (xs[i]? = none → J.stop i H)
def lI (K : PySem.W.Frag) (y : DXw) (wi : RI) : TI := fun σ H R => ∃ ρ S Rd, SRv K σ H ρ ∧ SX K y H S ∧ wi ρ S Rd ∧ ∀ xs src S1 J H1, Go K H S H1 S1 → JOk K H1 S1 J xs src → Rd xs src S1 → R J H1
def PDI (X : Cx) (y : DXw) (tg iter : Expr) (wi : RI) : Prop := PI X tg iter (lI X.K y wi)
theorem PDI.of {tg iter : Expr} {t0 : TI} {t : RI} (h : PI X tg iter t0) (w : ∀ σ H R, lI X.K y t σ H R → t0 σ H R) : PDI X y tg iter t := ⟨fun pins s σ H R I q => h.run pins s σ H R I (w σ H R q)⟩
/-- the turns: W says what holds ahead of turn i -/
def rFor (wi : RI) (g : RG) (tb : RS) : RS := fun E ρ S => wi ρ S fun xs src S1 => ∃ W : Nat → Ro → Sto → Prop, W 0 ρ S1 ∧ ∀ i ρ' S', W i ρ' S' → src S' ∧
  (∀ x, xs[i]? = some x → g x ρ' S' fun ρ2 S2 => tb { E with nx := W (i + 1), ct := W (i + 1), bk := E.nx } ρ2 S2) ∧ (i = xs.length → E.nx ρ' S')
theorem pd_for {tg iter : Expr} {body : List Stmt} {wi : RI} {g : RG} {tb : RS} (hp : PassesOwn (model X.prog X.w) X.A X.env X.xe) (hc : X.calm = true) (hi : PDI X y tg iter wi) (hg : PDG X y tg g) (hb : PDSs X y body tb) (hs : ∀ x, foldedSetIterable iter X.env x = pure x := by intro _; rfl) : PDS X y (.For tg iter body [] pos) (rFor wi g tb) :=
  PDS.of (ps_for hp hc hi hg hb hs) fun D σ H h => by
  obtain ⟨ρ, S, E, sr, so, h, eo⟩ := h
  refine ⟨ρ, S, _, sr, so, h, fun xs src S1 J H1 g1 jo ⟨W, w0, hs⟩ => ?_⟩
  refine ⟨fun i m σ2 H2 => ∃ ρ2 S2, m = xs.length - i ∧ i ≤ xs.length ∧ Go X.K H1 S1 H2 S2 ∧ SRv X.K σ2 H2 ρ2 ∧ W i ρ2 S2, ⟨_, ρ, S1, rfl, Nat.zero_le _, Go.refl g1.ok, sr.go g1, w0⟩, ?_⟩
  rintro i m σ2 H2 ⟨ρ2, S2, rfl, hi, g2, sr2, w2⟩
  obtain ⟨hsrc, hturn, hend⟩ := hs i ρ2 S2 w2
  obtain ⟨j1, j2⟩ := jo i H2 S2 g2 hsrc
  by_cases hlt : i < xs.length
  · have hx : xs[i]? = some xs[i] := List.getElem?_eq_getElem hlt
    obtain ⟨jg, jy⟩ := j1 _ hx
    refine .inr ⟨jg, fun σ3 H3 => ∃ ρ3 S3, Go X.K H1 S1 H3 S3 ∧ SRv X.K σ3 H3 ρ3 ∧ W (i + 1) ρ3 S3, fun σ3 H3 ⟨ρ3, S3, g3, sr3, w3⟩ => ⟨xs.length - (i + 1), by omega, ρ3, S3, rfl, hlt, g3, sr3, w3⟩, fun v H3 hy => ?_⟩
    obtain ⟨g3, dv⟩ := jy v H3 hy
    have gA := g1.trans (g2.trans g3)
    refine ⟨xs[i], ρ2, S2, _, dv, sr2.go g3, so.go gA, hturn _ hx, fun ρ4 S4 σ4 H4 g4 sr4 h4 => ?_⟩
    refine ⟨ρ4, S4, _, sr4, so.go (gA.trans g4), h4, ?_⟩
    have eo2 := eo.go (gA.trans g4)
    have gB := (g2.trans g3).trans g4
    exact ⟨fun ρ5 S5 σ5 H5 g5 sr5 h5 => ⟨ρ5, S5, gB.trans g5, sr5, h5⟩, eo2.rt, eo2.nx, fun ρ5 S5 σ5 H5 g5 sr5 h5 => ⟨ρ5, S5, gB.trans g5, sr5, h5⟩⟩
  · have e : i = xs.length := by omega
    subst e
    exact .inl ⟨j2 (by simp), eo.nx ρ2 S2 σ2 H2 (g1.trans g2) sr2 (hend rfl)⟩

/-! ### what a for or a comprehension walks -/
/-- a list in the store, a list that never changes, a tuple -/
def rIt (t : RE) : RI := fun ρ S R => t ρ S fun d S1 => match d with
  | .tup xs => R xs (fun _ => True) S1
  | _ => ∃ xs, RdL S1 d xs ∧ R xs (fun S' => RdL S' d xs) S1
theorem jok_list {K : PySem.W.Frag} {H1 : Hp} {S1 : Sto} {d : D} {v : V} {a : Addr} {xs : List D} (dv : DV K H1 d v) (e : v = .ref a) : JOk K H1 S1 (Itl K a) xs (fun S' => RdL S' d xs) := by
  intro i H S g hr
  obtain ⟨a', vs, e1, q, r⟩ := RdL.sq g.ok hr (DV.go g _ _ dv)
  rw [e] at e1
  cases e1
  refine ⟨fun x hx => ?_, fun hn => ⟨vs, q, ?_⟩⟩
  · obtain ⟨w, hw, rw'⟩ := r.get hx
    exact ⟨⟨vs, w, q, hw⟩, fun v' H' hy => by
      obtain ⟨rfl, hy⟩ := hy
      have := hy vs q
      rw [hw] at this
      cases this
      exact ⟨Go.refl g.ok, rw'⟩⟩
  · rw [← r.length]
    exact List.getElem?_eq_none_iff.mp hn
theorem jok_tup {K : PySem.W.Frag} {H1 : Hp} {S1 : Sto} {a : Addr} {xs : List D} {vs : List V} (q : StT K H1 a vs) (r : DVs K H1 xs vs) : JOk K H1 S1 (Itt K a) xs (fun _ => True) := by
  intro i H S g _
  have q := g.tup q
  have r := DVs.go g _ _ r
  refine ⟨fun x hx => ?_, fun hn => ⟨vs, q.sq, ?_⟩⟩
  · obtain ⟨w, hw, rw'⟩ := r.get hx
    exact ⟨⟨vs, w, q.sq, hw⟩, fun v' H' hy => by
      obtain ⟨rfl, hy⟩ := hy
      have := hy vs q.sq
      rw [hw] at this
      cases this
      exact ⟨Go.refl g.ok, rw'⟩⟩
  · rw [← r.length]
    exact List.getElem?_eq_none_iff.mp hn
end
end DL
set_option Elab.async false
set_option linter.all false
set_option maxRecDepth 100000
set_option maxHeartbeats 4000000
namespace DL
open PySem PySem.Spec PyProof.Rows L2
section
variable {X : Cx} {y : DXw} {pos : Pos} {e : Expr} {es : List Expr}

/-! ### walks -/
theorem it_list {pins : List (Addr × Obj)} {σ : L2.St} {H : Hp} {s : Shared} {tg : Expr} {R : It → Hp → Prop} {E : Value → Shared → Prop} {a : Addr} {vs : List V} (I : Inv X pins σ H s) (hq : SqL X.K H a vs) (q : R (Itl X.K a) H) :
    wpAny (model X.prog X.w) X.A (pyIter (.ref a)) (PIE X pins σ tg R) E s := by
  obtain ⟨its, rv, p, hz⟩ := I.list hq
  refine wpAny_pyIter_list p.isList ?_
  refine ⟨s.heap.objs.size, [s.heap.objs.size], _, _, H, rfl, I.kept (t' := s.toks) fun b o e => Heap.get?_push_of_some _ e, turn_list a _, ⟨_, Heap.get?_push_size _ rfl, rfl, rfl⟩, fun b hb => ?_, q⟩
  have e : b = s.heap.objs.size := by simpa using hb
  subst e
  exact I.fpOk (Nat.le_refl _) (I.hok.fresh (Nat.le_refl _))
theorem it_tup {pins : List (Addr × Obj)} {σ : L2.St} {H : Hp} {s : Shared} {tg : Expr} {R : It → Hp → Prop} {E : Value → Shared → Prop} {a : Addr} {vs : List V} (I : Inv X pins σ H s) (hq : SqT X.K H a vs) (q : R (Itt X.K a) H) :
    wpAny (model X.prog X.w) X.A (pyIter (.ref a)) (PIE X pins σ tg R) E s := by
  obtain ⟨its, rv, p, hz⟩ := I.tuple hq
  refine wpAny_pyIter_tuple (show s.heap.IsTuple a its.toArray from p) ?_
  refine ⟨s.heap.objs.size, [s.heap.objs.size], _, _, H, rfl, I.kept (t' := s.toks) fun b o e => Heap.get?_push_of_some _ e, turn_tuple a _, ⟨_, Heap.get?_push_size _ rfl, rfl, rfl⟩, fun b hb => ?_, q⟩
  have e : b = s.heap.objs.size := by simpa using hb
  subst e
  exact I.fpOk (Nat.le_refl _) (I.hok.fresh (Nat.le_refl _))
theorem pdi_it {tg l : Expr} {t : RE} (hl : PD X y l t) : PDI X y tg l (rIt t) := by
  refine ⟨fun pins s σ H R I h => ?_⟩
  obtain ⟨ρ, S, Rd, sr, so, h, k⟩ := h
  refine thn (hl.run pins s σ H (fun v H1 => ∃ d S1, Go X.K H S H1 S1 ∧ DV X.K H1 d v ∧ (match d with
    | .tup xs => Rd xs (fun _ => True) S1
    | _ => ∃ xs, RdL S1 d xs ∧ Rd xs (fun S' => RdL S' d xs) S1)) I ⟨ρ, S, _, sr, so, h, fun d S1 v H1 g dv q => ⟨d, S1, g, dv, q⟩⟩) fun u s1 ⟨v, H1, I1, r1, d, S1, g, dv, q⟩ => ?_
  have lst : ∀ xs, RdL S1 d xs → Rd xs (fun S' => RdL S' d xs) S1 → wpAny (model X.prog X.w) X.A (pyIter u) (PIE X pins σ tg R) X.xe s1 := fun xs hx q => by
    obtain ⟨a, vs, rfl, hq, r⟩ := RdL.sq g.ok hx dv
    cases (show u = Value.ref a from r1)
    exact it_list I1 hq (k _ _ _ _ _ g (jok_list dv rfl) q)
  cases d with
  | tup xs =>
    obtain ⟨a, vs, rfl, hq, r⟩ := dv
    cases (show u = Value.ref a from r1)
    exact it_tup I1 hq.sq (k _ _ _ _ _ g (jok_tup hq r) q)
  | _ => obtain ⟨xs, h1, h2⟩ := q; exact lst xs h1 h2
/-- range -/
def rgI (lo : Int) (n : Nat) : List D := (List.range n).map fun (i : Nat) => D.int (lo + (i : Int))
theorem rgI_len {lo : Int} {n : Nat} : (rgI lo n).length = n := by unfold rgI; simp
theorem rgI_get {lo : Int} {n i : Nat} (h : i < n) : (rgI lo n)[i]? = some (D.int (lo + (i : Int))) := by unfold rgI; simp [h]
theorem rgI_inv {lo : Int} {n i : Nat} {x : D} (h : (rgI lo n)[i]? = some x) : i < n ∧ x = D.int (lo + (i : Int)) := by
  have hl := (List.getElem?_eq_some_iff.mp h).1
  rw [rgI_len] at hl
  rw [rgI_get hl] at h
  exact ⟨hl, (Option.some.inj h).symm⟩
theorem jok_range {K : PySem.W.Frag} {H1 : Hp} {S1 : Sto} {lo : Int} {n : Nat} : JOk K H1 S1 (Itr lo n) (rgI lo n) (fun _ => True) := by
  intro i H S g _
  refine ⟨fun x hx => ?_, fun hn => ?_⟩
  · obtain ⟨hl, rfl⟩ := rgI_inv hx
    exact ⟨hl, fun v H' ⟨e1, e2⟩ => by subst e1 e2; exact ⟨Go.refl g.ok, rfl⟩⟩
  · have := List.getElem?_eq_none_iff.mp hn
    rw [rgI_len] at this
    exact this
def rRng1 (ta : RA) : RI := fun ρ S R => ta ρ S fun ds S1 => match ds with
  | [.int j] => (j < 2 ^ 62 ∧ -(2 ^ 62) ≤ j) ∧ R (rgI 0 j.toNat) (fun _ => True) S1
  | _ => False
def rRng2 (ta : RA) : RI := fun ρ S R => ta ρ S fun ds S1 => match ds with
  | [.int i, .int j] => (-(2 ^ 62) ≤ i ∧ i < 2 ^ 62 ∧ -(2 ^ 62) ≤ j ∧ j < 2 ^ 62) ∧ R (rgI i (j - i).toNat) (fun _ => True) S1
  | _ => False
theorem pdi_range1 {tg a : Expr} {ta : RA} {p : Pos} (hm : X.mg "range" = none) (ha : PDA X y [a] ta) (hg : Gl X "range" := by rfl) (hs : starEach [a] X.env = [(false, eval a X.env)] := by rfl) : PDI X y tg (.Call (.Name "range" p) [a] [] pos) (rRng1 ta) := by
  refine PDI.of (pi_range1 hg hm ha hs) fun σ H R h => ?_
  obtain ⟨ρ, S, Rd, sr, so, h, k⟩ := h
  refine ⟨ρ, S, _, sr, so, h, fun ds S1 vs H1 g dvs hn h1 => ?_⟩
  split at h1
  · rename_i j
    obtain ⟨v, ws, rfl, dv, q⟩ := dvs
    cases (show ws = [] from q)
    cases (show v = V.int j from dv)
    exact ⟨j, rfl, h1.1.2, h1.1.1, k _ _ _ _ _ g jok_range h1.2⟩
  · exact h1.elim
theorem pdi_range2 {tg a b : Expr} {ta : RA} {p : Pos} (hm : X.mg "range" = none) (ha : PDA X y [a, b] ta) (hg : Gl X "range" := by rfl) (hs : starEach [a, b] X.env = [(false, eval a X.env), (false, eval b X.env)] := by rfl) (hs2 : starEach [b] X.env = [(false, eval b X.env)] := by rfl) : PDI X y tg (.Call (.Name "range" p) [a, b] [] pos) (rRng2 ta) := by
  refine PDI.of (pi_range2 hg hm ha hs hs2) fun σ H R h => ?_
  obtain ⟨ρ, S, Rd, sr, so, h, k⟩ := h
  refine ⟨ρ, S, _, sr, so, h, fun ds S1 vs H1 g dvs hn h1 => ?_⟩
  split at h1
  · rename_i i j
    obtain ⟨v, ws, rfl, dv, v2, ws2, rfl, dv2, q⟩ := dvs
    cases (show ws2 = [] from q)
    cases (show v = V.int i from dv)
    cases (show v2 = V.int j from dv2)
    exact ⟨i, j, rfl, h1.1, k _ _ _ _ _ g jok_range h1.2⟩
  · exact h1.elim

/-! ### comprehensions -/
def dwipe (ρ : Ro) : List Nat → Ro
  | [] => ρ
  | v :: vs => (dwipe ρ vs).set v none
theorem dwipe_length (ρ : Ro) : ∀ vs : List Nat, (dwipe ρ vs).length = ρ.length
  | [] => rfl
  | v :: vs => by unfold dwipe; rw [List.length_set, dwipe_length ρ vs]
theorem dwipe_some {ρ : Ro} {i : Nat} {x : D} : ∀ {vs : List Nat}, (dwipe ρ vs)[i]? = some (some x) → ρ[i]? = some (some x) ∧ i ∉ vs
  | [], h => ⟨h, by simp⟩
  | v :: vs, h => by
    unfold dwipe at h
    by_cases hi : v = i
    · subst hi
      by_cases hv : v < (dwipe ρ vs).length
      · rw [List.getElem?_set_self hv] at h; cases h
      · rw [List.getElem?_eq_none (by simpa using hv)] at h; cases h
    · rw [List.getElem?_set_ne hi] at h
      obtain ⟨h1, h2⟩ := dwipe_some h
      exact ⟨h1, by simp only [List.mem_cons, not_or]; exact ⟨fun e => hi e.symm, h2⟩⟩
theorem wipe_out' {σ : L2.St} {i : Nat} : ∀ {vs : List Nat}, i ∉ vs → (wipe σ vs)[i]? = σ[i]?
  | [], _ => rfl
  | v :: vs, h => by
    simp only [List.mem_cons, not_or] at h
    unfold wipe
    rw [List.getElem?_set_ne (Ne.symm h.1)]
    exact wipe_out' h.2
theorem SRv.wipe {K : PySem.W.Frag} {σ : L2.St} {H : Hp} {ρ : Ro} (r : SRv K σ H ρ) (vs : List Nat) : SRv K (L2.wipe σ vs) H (dwipe ρ vs) :=
  ⟨by rw [dwipe_length, wipe_length]; exact r.1, fun i d e => by
    obtain ⟨e1, hn⟩ := dwipe_some e
    obtain ⟨v, e2, q⟩ := r.2 i d e1
    exact ⟨v, by rw [wipe_out' hn]; exact e2, q⟩⟩
theorem wipe_set {σ : L2.St} {i : Nat} {o : Option V} : ∀ {vs : List Nat}, i ∈ vs → L2.wipe (σ.set i o) vs = L2.wipe σ vs
  | v :: vs, h => by
    have gen : ∀ (vs : List Nat), L2.wipe (σ.set i o) vs = (if i ∈ vs then L2.wipe σ vs else (L2.wipe σ vs).set i o) := by
      intro vs
      induction vs with
      | nil => simp [L2.wipe]
      | cons w ws ih =>
        unfold L2.wipe
        rw [ih]
        by_cases hw : i ∈ ws
        · rw [if_pos hw, if_pos (List.mem_cons_of_mem _ hw)]
        · rw [if_neg hw]
          by_cases hi : i = w
          · subst hi
            rw [if_pos (by simp), List.set_set]
          · rw [if_neg (by simp [hi, hw]), List.set_comm _ _ hi]
    rw [gen, if_pos h]
/-- a comprehension's targets: names, tuples of names -/
inductive Pat where
  | n (i : Nat)
  | t (ps : List Pat)
mutual
def Pat.g (K : PySem.W.Frag) : Pat → TG
  | .n i => gName i
  | .t ps => gTup K ps.length (Pat.gs K ps)
def Pat.gs (K : PySem.W.Frag) : List Pat → TGs
  | [] => gNil
  | p :: ps => gCons (Pat.g K p) (Pat.gs K ps)
end
mutual
def Pat.put : Pat → D → Ro → (Ro → Prop) → Prop
  | .n i, d, ρ, k => k (ρ.set i (some d))
  | .t ps, d, ρ, k => match d with
    | .tup xs => Pat.puts ps xs ρ k
    | _ => False
def Pat.puts : List Pat → List D → Ro → (Ro → Prop) → Prop
  | [], ds, ρ, k => match ds with
    | [] => k ρ
    | _ => False
  | p :: ps, ds, ρ, k => match ds with
    | d :: ds => Pat.put p d ρ fun ρ' => Pat.puts ps ds ρ' k
    | [] => False
end
mutual
def Pat.all (vs : List Nat) : Pat → Bool
  | .n i => vs.contains i
  | .t ps => Pat.alls vs ps
def Pat.alls (vs : List Nat) : List Pat → Bool
  | [] => true
  | p :: ps => Pat.all vs p && Pat.alls vs ps
end
theorem puts_len : ∀ {ps : List Pat} {ds : List D} {ρ : Ro} {k : Ro → Prop}, Pat.puts ps ds ρ k → ps.length = ds.length ∨ True := fun _ => .inr trivial
mutual
theorem Pat.ok {K : PySem.W.Frag} {vs : List Nat} {H : Hp} {Q : L2.St → Hp → Prop} : ∀ (p : Pat) (d : D) (v : V) (σ : L2.St) (ρ : Ro) (k : Ro → Prop), Pat.all vs p = true → DV K H d v → SRv K σ H ρ → Pat.put p d ρ k →
    (∀ ρ' σ', SRv K σ' H ρ' → L2.wipe σ' vs = L2.wipe σ vs → k ρ' → Q σ' H) → Pat.g K p v σ H Q
  | .n i, d, v, σ, ρ, k, ha, dv, sr, h, hk => by
    refine hk _ _ (sr.set dv i) (wipe_set (by simpa [Pat.all] using ha)) h
  | .t ps, d, v, σ, ρ, k, ha, dv, sr, h, hk => by
    cases d with
    | tup xs =>
      obtain ⟨a, ws, rfl, q, r⟩ := dv
      obtain ⟨hl, hh⟩ := Pat.oks ps xs ws σ ρ k (by simpa [Pat.all] using ha) r sr h hk
      exact ⟨a, ws, rfl, q.sq, hl.symm, hh⟩
    | _ => exact False.elim h
theorem Pat.oks {K : PySem.W.Frag} {vs : List Nat} {H : Hp} {Q : L2.St → Hp → Prop} : ∀ (ps : List Pat) (ds : List D) (us : List V) (σ : L2.St) (ρ : Ro) (k : Ro → Prop), Pat.alls vs ps = true → DVs K H ds us → SRv K σ H ρ → Pat.puts ps ds ρ k →
    (∀ ρ' σ', SRv K σ' H ρ' → L2.wipe σ' vs = L2.wipe σ vs → k ρ' → Q σ' H) → ps.length = us.length ∧ Pat.gs K ps us σ H Q
  | [], ds, us, σ, ρ, k, ha, dv, sr, h, hk => by
    cases ds with
    | nil =>
      cases (show us = [] from dv)
      exact ⟨rfl, rfl, hk ρ σ sr rfl h⟩
    | cons _ _ => exact False.elim h
  | p :: ps, ds, us, σ, ρ, k, ha, dv, sr, h, hk => by
    cases ds with
    | nil => exact False.elim h
    | cons d ds =>
      obtain ⟨v, ws, rfl, dv1, dv2⟩ := dv
      have ha2 : Pat.all vs p = true ∧ Pat.alls vs ps = true := by simpa [Pat.alls] using ha
      -- the length is told by any run of the rest
      have key := Pat.ok (K := K) (vs := vs) (H := H) (Q := fun σ' H' => H' = H ∧ ps.length = ws.length ∧ Pat.gs K ps ws σ' H Q) p d v σ ρ (fun ρ' => Pat.puts ps ds ρ' k) ha2.1 dv1 sr h (fun ρ' σ' sr' hw h' => by
        obtain ⟨hl, hg⟩ := Pat.oks ps ds ws σ' ρ' k ha2.2 dv2 sr' h' (fun ρ'' σ'' sr'' hw' h'' => hk ρ'' σ'' sr'' (hw'.trans hw) h'')
        exact ⟨rfl, hl, hg⟩)
      have len : ps.length = ws.length := by
        have dl := dv2.length
        rw [← dl]
        -- from the D-level readings
        exact Pat.lens ps ds p d ρ k h
      refine ⟨by simp [len], v, ws, rfl, ?_⟩
      exact Pat.mono p v σ H _ _ (fun σ' H' q => by obtain ⟨e, _, q⟩ := q; rw [e]; exact q) key
theorem Pat.lens : ∀ (ps : List Pat) (ds : List D) (p : Pat) (d : D) (ρ : Ro) (k : Ro → Prop), Pat.put p d ρ (fun ρ' => Pat.puts ps ds ρ' k) → ps.length = ds.length := by
  intro ps ds p d ρ k h
  have h2 : ∃ ρ', Pat.puts ps ds ρ' k := Pat.exi p d ρ _ h
  obtain ⟨ρ', h2⟩ := h2
  exact Pat.len2 ps ds ρ' k h2
theorem Pat.exi : ∀ (p : Pat) (d : D) (ρ : Ro) (k : Ro → Prop), Pat.put p d ρ k → ∃ ρ', k ρ'
  | .n i, d, ρ, k, h => ⟨_, h⟩
  | .t ps, d, ρ, k, h => by
    cases d with
    | tup xs => exact Pat.exis ps xs ρ k h
    | _ => exact False.elim h
theorem Pat.exis : ∀ (ps : List Pat) (ds : List D) (ρ : Ro) (k : Ro → Prop), Pat.puts ps ds ρ k → ∃ ρ', k ρ'
  | [], ds, ρ, k, h => by
    cases ds with
    | nil => exact ⟨_, h⟩
    | cons _ _ => exact False.elim h
  | p :: ps, ds, ρ, k, h => by
    cases ds with
    | nil => exact False.elim h
    | cons d ds =>
      obtain ⟨ρ', h'⟩ := Pat.exi p d ρ _ h
      exact Pat.exis ps ds ρ' k h'
theorem Pat.len2 : ∀ (ps : List Pat) (ds : List D) (ρ : Ro) (k : Ro → Prop), Pat.puts ps ds ρ k → ps.length = ds.length
  | [], ds, ρ, k, h => by
    cases ds with
    | nil => rfl
    | cons _ _ => exact False.elim h
  | p :: ps, ds, ρ, k, h => by
    cases ds with
    | nil => exact False.elim h
    | cons d ds =>
      obtain ⟨ρ', h'⟩ := Pat.exi p d ρ _ h
      simp [Pat.len2 ps ds ρ' k h']
theorem Pat.mono {K : PySem.W.Frag} : ∀ (p : Pat) (v : V) (σ : L2.St) (H : Hp) (Q Q' : L2.St → Hp → Prop), (∀ σ' H', Q σ' H' → Q' σ' H') → Pat.g K p v σ H Q → Pat.g K p v σ H Q'
  | .n i, v, σ, H, Q, Q', m, h => m _ _ h
  | .t ps, v, σ, H, Q, Q', m, h => by
    obtain ⟨a, xs, e, q, l, h⟩ := h
    exact ⟨a, xs, e, q, l, Pat.monos ps xs σ H Q Q' m h⟩
theorem Pat.monos {K : PySem.W.Frag} : ∀ (ps : List Pat) (vs : List V) (σ : L2.St) (H : Hp) (Q Q' : L2.St → Hp → Prop), (∀ σ' H', Q σ' H' → Q' σ' H') → Pat.gs K ps vs σ H Q → Pat.gs K ps vs σ H Q'
  | [], vs, σ, H, Q, Q', m, h => ⟨h.1, m _ _ h.2⟩
  | p :: ps, vs, σ, H, Q, Q', m, h => by
    obtain ⟨v, r, e, h⟩ := h
    exact ⟨v, r, e, Pat.mono p v σ H _ _ (fun σ' H' q => Pat.monos ps r σ' H' Q Q' m q) h⟩
end

def PDTs (X : Cx) (y : DXw) (ifs : List Expr) (t : RT) : Prop := PTs X ifs (lT X.K y t)
def rYes : RT := fun _ S Q => Q true S
theorem pdts_nil : PDTs X y [] rYes := ⟨fun pins s σ H Q I h => by
  obtain ⟨ρ, S, R, sr, so, h, k⟩ := h
  exact pts_nil.run pins s σ H Q I (k true S H (Go.refl so.so) h)⟩
theorem pdts_one {c : Expr} {t : RT} (h : PDT X y c t) : PDTs X y [c] t := pts_one h
/-- no exception is wanted -/
def y0 : DXw := ⟨fun _ _ _ _ => False, fun _ _ _ _ => False⟩
theorem sx0 {K : PySem.W.Frag} {H : Hp} {S : Sto} (h : SOk K H S) : SX K y0 H S := ⟨h, fun _ _ _ _ _ _ _ _ _ _ _ _ z => z⟩
def rLc (wi : RI) (p : Pat) (tt : RT) (te : RE) (vs : List Nat) : RE := fun ρ S Q => wi ρ S fun xs src S1 => ∃ W : Nat → List D → Sto → Prop, W 0 [] S1 ∧ ∀ i acc S', W i acc S' → src S' ∧
  (∀ x, xs[i]? = some x → Pat.put p x (dwipe ρ vs) fun ρ2 => tt ρ2 S' fun b S3 => IFB b (te ρ2 S3 fun d S4 => acc.length < sizeLine ∧ W (i + 1) (acc ++ [d]) S4) (W (i + 1) acc S3)) ∧
  (i = xs.length → ∀ p, S' p = none → Q (.ref p) (sup S' p (.lst acc)))
theorem lc_of {wi : RI} {p : Pat} {tt : RT} {te : RE} {vs : List Nat} {σ : L2.St} {H : Hp} {Q : VK} (ha : Pat.all vs p = true) (h : lE X.K y (rLc wi p tt te vs) σ H Q) : tLc (lI X.K y wi) (Pat.g X.K p) (lT X.K y0 tt) (lE X.K y0 te) vs σ H Q := by
  obtain ⟨ρ, S, R, sr, so, h, k⟩ := h
  refine ⟨ρ, S, _, sr, so, h, fun xs src S1 J H1 g1 jo ⟨W, w0, hs⟩ D hD => ?_⟩
  -- the new list lies beside the store
  have base : ∀ {H2 : Hp} {S2 : Sto} {ws : List V}, Go X.K H1 S1 H2 S2 → H2 D = some (.lst ws) → S2 D = none → True := fun _ _ _ => trivial
  have gD := Go.new (K := X.K) (o := .lst []) g1.ok hD
  have swap : ∀ {H2 : Hp} {S2 : Sto} {ws ws' : List V}, SOk X.K H2 S2 → S2 D = none → H2 D = some (.lst ws) → SOk X.K (upd H2 D (.lst ws')) S2 := fun {H2 S2 ws ws'} so2 e e2 a c q => by
    have ne : a ≠ D := fun z => by rw [z, e] at q; cases q
    have := so2 a c q
    cases c with
    | lst xs => obtain ⟨us, e1, r⟩ := this; exact ⟨us, by rw [upd_ne ne]; exact e1, DVs.wr e2 (.inl ⟨_, rfl⟩) _ _ r⟩
    | dK kvs => obtain ⟨us, e1, r⟩ := this; exact ⟨us, by rw [upd_ne ne]; exact e1, DKs.wr e2 (.inl ⟨_, rfl⟩) r⟩
  -- what stands beside the store, but the new list, from H1 on
  refine ⟨fun i m H2 => ∃ S2 acc ws, m = xs.length - i ∧ i ≤ xs.length ∧ Go X.K H1 S1 H2 S2 ∧ H2 D = some (.lst ws) ∧ S2 D = none ∧ DVs X.K H2 acc ws ∧ W i acc S2, ⟨_, S1, [], [], rfl, Nat.zero_le _, gD, upd_same, g1.ok.free hD, DVs.nil, w0⟩, ?_⟩
  rintro i m H2 ⟨S2, acc, ws, rfl, hi, g2, hD2, sD2, r2, w2⟩
  obtain ⟨hsrc, hturn, hend⟩ := hs i acc S2 w2
  obtain ⟨j1, j2⟩ := jo i H2 S2 g2 hsrc
  by_cases hlt : i < xs.length
  · have hx : xs[i]? = some xs[i] := List.getElem?_eq_getElem hlt
    obtain ⟨jg, jy⟩ := j1 _ hx
    refine .inr ⟨jg, fun H3 => ∃ S3 acc3 ws3, Go X.K H1 S1 H3 S3 ∧ H3 D = some (.lst ws3) ∧ S3 D = none ∧ DVs X.K H3 acc3 ws3 ∧ W (i + 1) acc3 S3, fun H3 ⟨S3, acc3, ws3, g3, a1, a2, a3, a4⟩ => ⟨xs.length - (i + 1), by omega, S3, acc3, ws3, rfl, hlt, g3, a1, a2, a3, a4⟩, fun v H3 hy => ?_⟩
    obtain ⟨g3, dv⟩ := jy v H3 hy
    have gA := g2.trans g3
    have hD3 : H3 D = some (.lst ws) := g3.frame D _ sD2 hD2
    refine Pat.ok p _ v _ _ _ ha dv (((sr.go g1).go gA).wipe vs) (hturn _ hx) fun ρ3 σ3 sr3 hw h3 => ⟨by
      have e : ∀ (l : List Nat), L2.wipe (L2.wipe σ l) l = L2.wipe σ l := by
        intro l
        have gen : ∀ (l l' : List Nat), (∀ i ∈ l, i ∈ l') → L2.wipe (L2.wipe σ l') l = L2.wipe σ l' := by
          intro l
          induction l with
          | nil => intro l' _; rfl
          | cons a l ih =>
            intro l' hl
            show (L2.wipe (L2.wipe σ l') l).set a none = L2.wipe σ l'
            rw [ih l' fun i hi => hl i (List.mem_cons_of_mem _ hi)]
            have ha' := hl a List.mem_cons_self
            apply List.ext_getElem?
            intro j
            by_cases hj : a = j
            · subst hj
              by_cases hb : a < (L2.wipe σ l').length
              · rw [List.getElem?_set_self hb]
                cases q : (L2.wipe σ l')[a]? with
                | none => rw [List.getElem?_eq_none_iff] at q; omega
                | some o =>
                  cases o with
                  | none => rfl
                  | some x => exact absurd ha' (wipe_some q).2
              · rw [List.getElem?_eq_none (by simpa using hb), List.getElem?_eq_none (by simpa using hb)]
            · rw [List.getElem?_set_ne hj]
        exact gen l l fun _ h => h
      rw [hw, e], ?_⟩
    refine ⟨ρ3, S2, _, sr3, sx0 gA.ok, h3, fun b S4 H4 g4 h4 => ?_⟩
    have hD4 : H4 D = some (.lst ws) := g4.frame D _ sD2 hD3
    have sD4 : S4 D = none := g4.ex D _ sD2 hD3
    refine ite_of_IFB h4 (fun z => ⟨ρ3, S4, _, sr3.go g4, sx0 g4.ok, z, fun d S5 w H5 g5 dv5 h5 => ?_⟩) fun z => ?_
    · have hD5 : H5 D = some (.lst ws) := g5.frame D _ sD4 hD4
      have sD5 : S5 D = none := g5.ex D _ sD4 hD4
      have gB := (gA.trans g4).trans g5
      have r5 : DVs X.K H5 acc ws := DVs.go ((g3.trans g4).trans g5) _ _ r2
      refine ⟨ws, hD5, by rw [← r5.length]; exact h5.1, S5, acc ++ [d], ws ++ [w], ⟨g1.ok, swap gB.ok sD5 hD5, fun a o e q => ?_, gB.ex⟩, upd_same, sD5, DVs.wr hD5 (.inl ⟨_, rfl⟩) _ _ (r5.append (DVs.cons dv5 DVs.nil)), h5.2⟩
      rw [upd_ne (ne_of_none q hD)]
      exact gB.frame a o e q
    · exact ⟨S4, acc, ws, gA.trans g4, hD4, sD4, DVs.go (g3.trans g4) _ _ r2, z⟩
  · have e : i = xs.length := by omega
    subst e
    refine .inl ⟨j2 (by simp), ?_⟩
    have sok : SOk X.K H2 (sup S2 D (.lst acc)) := fun a c q => by
      by_cases ha : a = D
      · subst ha
        rw [sup_same] at q; cases q
        exact ⟨ws, hD2, r2⟩
      · rw [sup_ne ha] at q
        exact g2.ok a c q
    have gE : Go X.K H1 S1 H2 (sup S2 D (.lst acc)) := ⟨g1.ok, sok, g2.frame, fun a o e q => by rw [sup_ne (ne_of_none q hD)]; exact g2.ex a o e q⟩
    exact k (.ref D) _ _ _ (g1.trans gE) rfl (hend rfl D sD2)
theorem pd_lc {elt tg iter : Expr} {ifs : List Expr} {scope : Scope} {own : List (Str × Nat)} {wi : RI} {p : Pat} {tt : RT} {te : RE} (hc : X.calm = true) (hN : X.N.Nodup) (hi : PDI X y tg iter wi) (ok : BlkOk X.N X.env.scope scope own)
    (hg : ∀ (s : Shared) (H : Hp) (C : Addr) (cl : List (Str × Addr)) (fp : List Addr), PG (X.blk s H scope (compEnvC scope cl C X.env) fp) tg (Pat.g X.K p)) (ht : ∀ (s : Shared) (H : Hp) (C : Addr) (cl : List (Str × Addr)) (fp : List Addr), PDTs (X.blk s H scope (compEnvC scope cl C X.env) fp) y0 ifs tt)
    (he : ∀ (s : Shared) (H : Hp) (C : Addr) (cl : List (Str × Addr)) (fp : List Addr), PD (X.blk s H scope (compEnvC scope cl C X.env) fp) y0 elt te) (hv : Pat.all (own.map (·.2)) p = true := by rfl) (hs : ∀ x, foldedSetIterable iter X.env x = pure x := by intro _; rfl) :
    PD X y (.ListComp elt [⟨tg, iter, ifs, 0⟩] scope pos) (rLc wi p tt te (own.map (·.2))) :=
  PD.of (pe_lc (tt := lT X.K y0 tt) (te := lE X.K y0 te) hc hN hi ok hg ht he hs) fun σ H Q h => lc_of hv h
theorem pd_setLc (i : Nat) {yn : Str} {py : Pos} {elt tg iter : Expr} {ifs : List Expr} {scope : Scope} {own : List (Str × Nat)} {spos : Pos} {wi : RI} {p : Pat} {tt : RT} {te : RE} (hc : X.calm = true) (hN : X.N.Nodup) (hy : X.N[i]? = some yn) (hyl : X.env.scope.names.lookup yn = some .local)
    (hsw : swapsWith (.ListComp elt [⟨tg, iter, ifs, 0⟩] scope pos) (some (.Name yn py)) spos.line X.env = pure true) (hi : PDI X y tg iter wi) (ok : BlkOk X.N X.env.scope scope own)
    (hg : ∀ (s : Shared) (H : Hp) (C : Addr) (cl : List (Str × Addr)) (fp : List Addr), PG (X.blk s H scope (compEnvC scope cl C X.env) fp) tg (Pat.g X.K p)) (ht : ∀ (s : Shared) (H : Hp) (C : Addr) (cl : List (Str × Addr)) (fp : List Addr), PDTs (X.blk s H scope (compEnvC scope cl C X.env) fp) y0 ifs tt)
    (he : ∀ (s : Shared) (H : Hp) (C : Addr) (cl : List (Str × Addr)) (fp : List Addr), PD (X.blk s H scope (compEnvC scope cl C X.env) fp) y0 elt te) (hv : Pat.all (own.map (·.2)) p = true := by rfl) (hs : ∀ x, foldedSetIterable iter X.env x = pure x := by intro _; rfl) :
    PDS X y (.Assign [.Name yn py] (.ListComp elt [⟨tg, iter, ifs, 0⟩] scope pos) spos) (rAsg (rLc wi p tt te (own.map (·.2))) (gN i)) :=
  PDS.of (ps_setLc (tt := lT X.K y0 tt) (te := lE X.K y0 te) hc hN hy hyl hsw hi ok hg ht he hs) fun D σ H h => by
    obtain ⟨ρ, S, E, sr, so, h, eo⟩ := h
    exact lc_of hv ⟨ρ, S, _, sr, so, h, fun d S1 v H1 g1 dv h1 => eo.nx _ S1 _ H1 g1 ((sr.go g1).set dv i) h1⟩
end
end DL
set_option Elab.async false
set_option linter.all false
set_option maxRecDepth 100000
set_option maxHeartbeats 4000000
namespace DL
open PySem PySem.Spec PyProof.Rows L2

/-! ### defs -/
abbrev DSp := List D → Sto → (D → Sto → Prop) → (Addr → D → Sto → Prop) → Prop
def toSp (K : PySem.W.Frag) (f : DSp) : Sp := fun vs H Q E => ∃ ds S R RX, DVs K H ds vs ∧ SOk K H S ∧ f ds S R RX ∧ (∀ d S' v H', Go K H S H' S' → DV K H' d v → R d S' → Q v H') ∧
  (∀ C d S' dx w H', Go K H S H' S' → H' dx = some (.xd [(("value" : Str), w)]) → DV K H' d w → RX C d S' → E (.ref C) (some dx) H')
def startD (N : List Str) (ds : List D) : Ro := ds.map some ++ List.replicate (N.length - ds.length) none
theorem start_srv {K : PySem.W.Frag} {H : Hp} {N : List Str} {ds : List D} {vs : List V} (h : DVs K H ds vs) : SRv K (L2.start N vs) H (startD N ds) := by
  have hl := h.length
  refine ⟨by unfold L2.start startD; simp [hl], fun i d e => ?_⟩
  unfold startD at e
  by_cases hi : i < ds.length
  · rw [List.getElem?_append_left (by simpa using hi), List.getElem?_map] at e
    cases q : ds[i]? with
    | none => rw [q] at e; cases e
    | some d' =>
      rw [q] at e
      have e2 : d' = d := Option.some.inj (Option.some.inj e)
      subst e2
      obtain ⟨v, e1, r⟩ := h.get q
      refine ⟨v, ?_, r⟩
      unfold L2.start
      rw [List.getElem?_append_left (by simpa using (hl ▸ hi)), List.getElem?_map, e1]
      rfl
  · rw [List.getElem?_append_right (by simpa using hi), List.getElem?_replicate] at e
    split at e <;> cases e
abbrev yOf (E : XK) (RX : Addr → D → Sto → Prop) : DXw := ⟨fun cls d _ H => E cls d H, fun C d _ S => RX C d S⟩
theorem fnD {P : Program} {w : World} {K : PySem.W.Frag} {mg : Str → Option Value} {base : Heap} {x qual : Str} {st : Stmt} {f : Addr} {fd : FuncData} {N ps : List Str} {k : Nat} {sp : DSp} (F : Fun K x qual st f fd) (S : FnScope N ps (defScope st))
    (len : ∀ ds S Q E, sp ds S Q E → ds.length = ps.length)
    (hbody : ∀ (cdv : Value) (A : Around) (outer : List Env) (s : Shared) (H : Hp) (E : XK) (RX : Addr → D → Sto → Prop), Room k (A.deeper (envOfC qual (defScope st) s.heap.objs.size f cdv)) →
      ∃ t, PDSs (cxOf (L2.CX P w) P w K mg base N qual (defScope st) f cdv A outer s H E) (yOf E RX) (defBody st) t ∧ ∀ ds S Q, sp ds S Q RX → t { nx := fun _ S' => Q .non S', rt := Q } (startD N ds) S) :
    FnOk P w K mg base (L2.CX P w) (k + 1) f fd ps (toSp K sp) := by
  refine F.okX S (fun vs H Q E h => ?_) (fun cdv A outer s H vs Q E hr h => ?_)
  · obtain ⟨ds, S, R, RX, dvs, _, h, _⟩ := h
    rw [← dvs.length]
    exact len _ _ _ _ h
  · obtain ⟨ds, S, R, RX, dvs, so, h, k1, k2⟩ := h
    obtain ⟨t, ht, hq⟩ := hbody cdv A outer s H E RX hr
    refine ⟨_, ht, startD N ds, S, { nx := fun _ S' => R .non S', rt := R }, start_srv dvs, ⟨so, fun C d ρ S' dx w' σ H' g _ e dv q => k2 C d S' dx w' H' g e dv q⟩, hq ds S R h, ?_⟩
    exact ⟨fun ρ S' σ H' g _ q => k1 .non S' .non H' g rfl q, fun d S' v H' g dv q => k1 d S' v H' g dv q, fun _ _ _ _ _ _ z => z, fun _ _ _ _ _ _ z => z⟩
section
variable {X : Cx} {y : DXw} {pos p : Pos} {e : Expr} {es : List Expr} {x : Str} {k : Nat} {f : Addr} {fd : FuncData} {ps : List Str} {spec : DSp}
def rCall (y : DXw) (spec : DSp) (ta : RA) : RE := fun ρ S Q => ta ρ S fun ds S1 => spec ds S1 Q fun C d S' => y.d C d ρ S'
theorem pd_call {ta : RA} (tk : Takes X y.W) (G : FnOk X.prog X.w X.K X.mg X.base (L2.CX X.prog X.w) k f fd ps (toSp X.K spec)) (hr : Room k X.A) (hm : X.mg x = some (.ref f)) (hk : PySem.W.keepIn X.K (.ref f) = true) (hb : Binds X.K fd ps [])
    (ha : PDA X y (e :: es) ta) (hg : Gl X x := by rfl) (hdb : (x == ("__debug__" : Str)) = false := by decide) (he : starEach (e :: es) X.env = (false, eval e X.env) :: starEach es X.env := by rfl) (hpl : (backTo pos (starEach es X.env)).any (·.1) = false := by rfl) :
    PD X y (.Call (.Name x p) (e :: es) [] pos) (rCall y spec ta) :=
  PD.of (pe_callS G hr hg hm hk hb (fun σ => passAt tk σ) ha hdb he hpl) fun σ H Q h => by
    obtain ⟨ρ, S, R, sr, so, h, k⟩ := h
    exact ⟨ρ, S, _, sr, so, h, fun ds S1 vs H1 g1 dvs hn h1 => ⟨ds, S1, R, _, dvs, g1.ok, h1, fun d S2 v H2 g2 dv q => k d S2 v H2 (g1.trans g2) dv q, fun C d S2 dx w H2 g2 e dw q => (so.go g1).xo C d ρ S2 dx w σ H2 g2 (sr.go (g1.trans g2)) e dw q⟩⟩
/-- keywords -/
def RdK (X : Cx) (y : DXw) (kws : List Keyword) (n : Nat) (t : RA) : Prop := PK X kws (lA X.K y n t)
theorem pdk_nil : RdK X y [] 0 rNil := ⟨fun pins pos s σ H Q I h => by
  obtain ⟨ρ, S, R, sr, so, h, k⟩ := h
  exact pk_nil.run pins pos s σ H Q I (k [] S [] H (Go.refl so.so) DVs.nil rfl h)⟩
theorem pdk_cons {nm : Option Str} {kpos : Pos} {kws : List Keyword} {n : Nat} {t : RE} {u : RA} (he : PD X y e t) (hr : RdK X y kws n u) : RdK X y (⟨nm, e, kpos⟩ :: kws) (n + 1) (rCons t u) := ⟨fun pins pos s σ H Q I h => by
  obtain ⟨ρ, S, R, sr, so, h, k⟩ := h
  refine (pk_cons he hr).run pins pos s σ H Q I ⟨ρ, S, _, sr, so, h, fun d S1 v H1 g1 dv h1 => ⟨ρ, S1, _, sr.go g1, so.go g1, h1, fun ds S2 vs H2 g2 dvs hn h2 => ?_⟩⟩
  exact k _ S2 _ H2 (g1.trans g2) (DVs.cons (DV.go g2 _ _ dv) dvs) (by rw [List.length_cons, hn]) h2⟩
end
end DL
set_option Elab.async false
set_option linter.all false
set_option maxRecDepth 100000
set_option maxHeartbeats 4000000
namespace DL
open PySem PySem.Spec PyProof.Rows L2

/-! ### data as PyData -/
mutual
inductive PyR (S : Sto) : D → PyData → Prop
  | non : PyR S .non .none
  | bl (b : Bool) : PyR S (.bl b) (.bool b)
  | int (i : Int) : PyR S (.int i) (.int i)
  | str (x : Str) : PyR S (.str x) (.str x)
  | tup {xs : List D} {ps : List PyData} : PyRs S xs ps → PyR S (.tup xs) (.tuple ps)
  | fro {xs : List D} {ps : List PyData} : PyRs S xs ps → PyR S (.fro xs) (.list ps)
  | lst {a : Addr} {xs : List D} {ps : List PyData} : S a = some (.lst xs) → PyRs S xs ps → PyR S (.ref a) (.list ps)
inductive PyRs (S : Sto) : List D → List PyData → Prop
  | nil : PyRs S [] []
  | cons {x : D} {xs : List D} {p : PyData} {ps : List PyData} : PyR S x p → PyRs S xs ps → PyRs S (x :: xs) (p :: ps)
end
section
variable {K : PySem.W.Frag} {H : Hp} {S : Sto}
mutual
theorem PyR.dp (so : SOk K H S) : ∀ (p : PyData) (x : D) (v : V), PyR S x p → DV K H x v → Dp K H v p
  | .none, _, _, h, r => by cases h; cases (show _ = V.non from r); exact .non
  | .bool b, _, _, h, r => by cases h; cases (show _ = V.bl b from r); exact .bl b
  | .int i, _, _, h, r => by cases h; cases (show _ = V.int i from r); exact .int i
  | .str x, _, _, h, r => by cases h; cases (show _ = V.str x from r); exact .str x
  | .tuple ps, _, _, h, r => by
    cases h with
    | tup hs =>
      obtain ⟨a, vs, rfl, q, r⟩ := r
      exact .tup q.sq (PyR.dps so ps _ _ hs r)
  | .list ps, _, _, h, r => by
    cases h with
    | fro hs =>
      obtain ⟨a, vs, rfl, q, r⟩ := r
      exact .lst q.sq (PyR.dps so ps _ _ hs r)
    | lst e hs =>
      cases (show _ = V.ref _ from r)
      obtain ⟨vs, e1, r⟩ := so _ _ e
      exact .lst (SqL.of e1) (PyR.dps so ps _ _ hs r)
  | .dict _, _, _, h, _ => by cases h
theorem PyR.dps (so : SOk K H S) : ∀ (ps : List PyData) (xs : List D) (vs : List V), PyRs S xs ps → DVs K H xs vs → DpAll K H vs ps
  | [], _, _, h, r => by cases h; cases (show _ = [] from r); exact .nil
  | p :: ps, _, _, h, r => by
    cases h with
    | cons h1 h2 =>
      obtain ⟨v, ws, rfl, r1, r2⟩ := r
      exact .cons (PyR.dp so p _ _ h1 r1) (PyR.dps so ps _ _ h2 r2)
end
end

/-! ### operators -/
def dAdd : ROp
  | .int i, .int j, S, R => R (.int (i + j)) S
  | .str x, .str z, S, R => x.length + z.length ≤ sizeLine ∧ R (.str (x ++ z)) S
  | .tup xs, .tup ys, S, R => xs.length + ys.length ≤ sizeLine ∧ R (.tup (xs ++ ys)) S
  | .ref a, .ref b, S, R => ∃ xs ys, S a = some (.lst xs) ∧ S b = some (.lst ys) ∧ xs.length + ys.length ≤ sizeLine ∧ ∀ p, S p = none → R (.ref p) (sup S p (.lst (xs ++ ys)))
  | _, _, _, _ => False
def dSub : ROp
  | .int i, .int j, S, R => R (.int (i - j)) S
  | _, _, _, _ => False
def dMul : ROp
  | .int i, .int j, S, R => (CMulW i j ∨ CMul i j) ∧ R (.int (i * j)) S
  | .ref a, .int k, S, R => ∃ xs, S a = some (.lst xs) ∧ (0 ≤ k ∧ k < 2 ^ 63) ∧ xs.length * k.toNat ≤ sizeLine ∧ ∀ p, S p = none → R (.ref p) (sup S p (.lst ((List.replicate k.toNat xs).flatten)))
  | _, _, _, _ => False
def dFdiv : ROp
  | .int i, .int j, S, R => CDivW i j ∧ R (.int (i / j)) S
  | _, _, _, _ => False
def dMod : ROp
  | .int i, .int j, S, R => 0 < j ∧ R (.int (i % j)) S
  | _, _, _, _ => False
def dPow : ROp
  | .int i, .int j, S, R => (0 ≤ j ∧ (Builtin.Int.intBits i : Int) * j ≤ 2 ^ 27) ∧ R (.int (i ^ j.toNat)) S
  | _, _, _, _ => False
def dCmpI (f : Int → Int → Bool) : ROp
  | .int i, .int j, S, R => R (.bl (f i j)) S
  | _, _, _, _ => False
def dLt : ROp
  | .int i, .int j, S, R => R (.bl (decide (i < j))) S
  | _, _, _, _ => False
def dLe : ROp
  | .int i, .int j, S, R => R (.bl (decide (i ≤ j))) S
  | _, _, _, _ => False
def dGt : ROp
  | .int i, .int j, S, R => R (.bl (decide (j < i))) S
  | _, _, _, _ => False
def dGe : ROp
  | .int i, .int j, S, R => R (.bl (decide (j ≤ i))) S
  | _, _, _, _ => False
def dEqG (n : Bool) (x y : D) (S : Sto) (R : D → Sto → Prop) : Prop := ∃ p q, PyR S x p ∧ PyR S y q ∧ SeqAt.shaped p = true ∧ SeqAt.shaped q = true ∧ R (.bl (if n then !PyData.eqv p q else PyData.eqv p q)) S
def dEq : ROp
  | .int i, .int j, S, R => R (.bl (decide (i = j))) S
  | .bl i, .bl j, S, R => R (.bl (decide (i = j))) S
  | .str i, .str j, S, R => R (.bl (decide (i = j))) S
  | x, y, S, R => dEqG false x y S R
def dNe : ROp
  | .int i, .int j, S, R => R (.bl (!decide (i = j))) S
  | .bl i, .bl j, S, R => R (.bl (!decide (i = j))) S
  | .str i, .str j, S, R => R (.bl (!decide (i = j))) S
  | x, y, S, R => dEqG true x y S R
def isNone : D → Bool
  | .non => true
  | _ => false
def dIs : ROp
  | x, .non, S, R => R (.bl (isNone x)) S
  | _, _, _, _ => False
def dIsNot : ROp
  | x, .non, S, R => R (.bl (!isNone x)) S
  | _, _, _, _ => False
section
variable {X : Cx}
theorem od_add : OpR X (binaryOp .Add) (lop X.K dAdd) := by
  intro pins s σ H v w vv ww Q I rv rw' h
  obtain ⟨x, y, S, R, dx, dy, so, h, k⟩ := h
  cases x <;> cases y <;> first | exact False.elim h | skip
  case int.int i j =>
    cases (show v = V.int i from dx); cases (show w = V.int j from dy)
    exact op_add pins s σ H _ _ vv ww Q I rv rw' ⟨i, j, rfl, rfl, k (.int (i + j)) S _ H (Go.refl so) rfl h⟩
  case str.str i j =>
    cases (show v = V.str i from dx); cases (show w = V.str j from dy)
    exact op_add_str pins s σ H _ _ vv ww Q I rv rw' ⟨i, j, rfl, rfl, h.1, k (.str (i ++ j)) S _ H (Go.refl so) rfl h.2⟩
  case tup.tup xs ys =>
    obtain ⟨a, vs, rfl, q1, r1⟩ := dx
    obtain ⟨b, ws, rfl, q2, r2⟩ := dy
    obtain ⟨hl, h⟩ := h
    refine op_catA pins s σ H _ _ vv ww Q I rv rw' ⟨a, b, vs, ws, rfl, rfl, q1.sq, q2.sq, by rw [← r1.length, ← r2.length]; exact hl, fun hv => ?_, fun _ hw => ?_, fun _ _ p hp => ?_⟩
    · subst hv
      have e : xs = [] := List.length_eq_zero_iff.mp r1.length
      subst e
      rw [List.nil_append] at h
      exact k (.tup ys) S _ H (Go.refl so) ⟨b, ws, rfl, q2, r2⟩ h
    · subst hw
      have e : ys = [] := List.length_eq_zero_iff.mp r2.length
      subst e
      rw [List.append_nil] at h
      exact k (.tup xs) S _ H (Go.refl so) ⟨a, vs, rfl, q1, r1⟩ h
    · have g := Go.new (o := .tup (vs ++ ws)) so hp
      exact k (.tup (xs ++ ys)) S _ _ g ⟨p, vs ++ ws, rfl, .inl upd_same, DVs.append (DVs.go g _ _ r1) (DVs.go g _ _ r2)⟩ h
  case ref.ref a b =>
    cases (show v = V.ref a from dx); cases (show w = V.ref b from dy)
    obtain ⟨xs, ys, e1, e2, hl, h⟩ := h
    obtain ⟨vs, f1, r1⟩ := so _ _ e1
    obtain ⟨ws, f2, r2⟩ := so _ _ e2
    refine op_cat pins s σ H _ _ vv ww Q I rv rw' ⟨a, b, vs, ws, rfl, rfl, f1, f2, by rw [← r1.length, ← r2.length]; exact hl, fun p hp => ?_⟩
    exact k (.ref p) _ _ _ (Go.newLst so hp (r1.append r2)) rfl (h p (so.free hp))
theorem od_sub : OpR X (binaryOp .Sub) (lop X.K dSub) := by
  intro pins s σ H v w vv ww Q I rv rw' h
  obtain ⟨x, y, S, R, dx, dy, so, h, k⟩ := h
  cases x <;> cases y <;> first | exact False.elim h | skip
  case int.int i j =>
    cases (show v = V.int i from dx); cases (show w = V.int j from dy)
    exact op_sub pins s σ H _ _ vv ww Q I rv rw' ⟨i, j, rfl, rfl, k (.int (i - j)) S _ H (Go.refl so) rfl h⟩
theorem od_mul : OpR X (binaryOp .Mult) (lop X.K dMul) := by
  intro pins s σ H v w vv ww Q I rv rw' h
  obtain ⟨x, y, S, R, dx, dy, so, h, k⟩ := h
  cases x <;> cases y <;> first | exact False.elim h | skip
  case int.int i j =>
    cases (show v = V.int i from dx); cases (show w = V.int j from dy)
    rcases h.1 with hc | hc
    · exact op_mulW pins s σ H _ _ vv ww Q I rv rw' ⟨i, j, rfl, rfl, hc, k (.int (i * j)) S _ H (Go.refl so) rfl h.2⟩
    · exact op_mul pins s σ H _ _ vv ww Q I rv rw' ⟨i, j, rfl, rfl, hc, k (.int (i * j)) S _ H (Go.refl so) rfl h.2⟩
  case ref.int a j =>
    cases (show v = V.ref a from dx); cases (show w = V.int j from dy)
    obtain ⟨xs, e1, ⟨h0, h1⟩, hl, h⟩ := h
    obtain ⟨vs, f1, r1⟩ := so _ _ e1
    refine op_rep pins s σ H _ _ vv ww Q I rv rw' ⟨a, j, vs, rfl, rfl, f1, by omega, h1, by rw [← r1.length]; exact hl, fun p hp => ?_⟩
    have rr : DVs X.K H ((List.replicate j.toNat xs).flatten) ((List.replicate j.toNat vs).flatten) := by
      generalize j.toNat = n
      induction n with
      | zero => exact DVs.nil
      | succ n ih => rw [List.replicate_succ, List.replicate_succ, List.flatten_cons, List.flatten_cons]; exact r1.append ih
    exact k (.ref p) _ _ _ (Go.newLst so hp rr) rfl (h p (so.free hp))
theorem od_fdiv : OpR X (binaryOp .FloorDiv) (lop X.K dFdiv) := by
  intro pins s σ H v w vv ww Q I rv rw' h
  obtain ⟨x, y, S, R, dx, dy, so, h, k⟩ := h
  cases x <;> cases y <;> first | exact False.elim h | skip
  case int.int i j =>
    cases (show v = V.int i from dx); cases (show w = V.int j from dy)
    exact op_fdivW pins s σ H _ _ vv ww Q I rv rw' ⟨i, j, rfl, rfl, h.1, k (.int (i / j)) S _ H (Go.refl so) rfl h.2⟩
theorem od_mod : OpR X (binaryOp .Mod) (lop X.K dMod) := by
  intro pins s σ H v w vv ww Q I rv rw' h
  obtain ⟨x, y, S, R, dx, dy, so, h, k⟩ := h
  cases x <;> cases y <;> first | exact False.elim h | skip
  case int.int i j =>
    cases (show v = V.int i from dx); cases (show w = V.int j from dy)
    exact op_mod pins s σ H _ _ vv ww Q I rv rw' ⟨i, j, rfl, rfl, h.1, k (.int (i % j)) S _ H (Go.refl so) rfl h.2⟩
theorem op_powW : OpR X (binaryOp .Pow) (rI (fun i j => 0 ≤ j ∧ (Builtin.Int.intBits i : Int) * j ≤ 2 ^ 27) fun i j => .int (i ^ j.toNat)) := opI fun _ _ _ _ _ _ _ hc q => PyProof.Rows.pow_int hc.1 hc.2 q
theorem od_pow : OpR X (binaryOp .Pow) (lop X.K dPow) := by
  intro pins s σ H v w vv ww Q I rv rw' h
  obtain ⟨x, y, S, R, dx, dy, so, h, k⟩ := h
  cases x <;> cases y <;> first | exact False.elim h | skip
  case int.int i j =>
    cases (show v = V.int i from dx); cases (show w = V.int j from dy)
    exact op_powW pins s σ H _ _ vv ww Q I rv rw' ⟨i, j, rfl, rfl, h.1, k (.int (i ^ j.toNat)) S _ H (Go.refl so) rfl h.2⟩
theorem od_cmpI {op : CmpOp} {f : Int → Int → Bool} (ho : OpR X (compareOp op) (rI0 fun i j => .bl (f i j))) : OpR X (compareOp op) (lop X.K (dCmpI f)) := by
  intro pins s σ H v w vv ww Q I rv rw' h
  obtain ⟨x, y, S, R, dx, dy, so, h, k⟩ := h
  cases x <;> cases y <;> first | exact False.elim h | skip
  case int.int i j =>
    cases (show v = V.int i from dx); cases (show w = V.int j from dy)
    exact ho pins s σ H _ _ vv ww Q I rv rw' ⟨i, j, rfl, rfl, k (.bl (f i j)) S _ H (Go.refl so) rfl h⟩
theorem od_lt : OpR X (compareOp .Lt) (lop X.K dLt) := od_cmpI op_lt
theorem od_le : OpR X (compareOp .LtE) (lop X.K dLe) := od_cmpI op_le
theorem od_gt : OpR X (compareOp .Gt) (lop X.K dGt) := od_cmpI op_gt
theorem od_ge : OpR X (compareOp .GtE) (lop X.K dGe) := od_cmpI op_ge
theorem eqG_of {n : Bool} {x y : D} {S : Sto} {R : D → Sto → Prop} {H : Hp} {v w : V} {Q : VK} (so : SOk X.K H S) (dx : DV X.K H x v) (dy : DV X.K H y w) (h : dEqG n x y S R) (k : ∀ d S' z H', Go X.K H S H' S' → DV X.K H' d z → R d S' → Q z H') :
    ∃ d e, Dp X.K H v d ∧ Dp X.K H w e ∧ SeqAt.shaped d = true ∧ SeqAt.shaped e = true ∧ Q (.bl (if n then !PyData.eqv d e else PyData.eqv d e)) H := by
  obtain ⟨p, q, h1, h2, s1, s2, h⟩ := h
  exact ⟨p, q, PyR.dp so p x v h1 dx, PyR.dp so q y w h2 dy, s1, s2, k (.bl (if n then !PyData.eqv p q else PyData.eqv p q)) S _ H (Go.refl so) rfl h⟩
theorem dEq_case {x y : D} {S : Sto} {R : D → Sto → Prop} (h : dEq x y S R) : (∃ i j, x = .int i ∧ y = .int j ∧ R (.bl (decide (i = j))) S) ∨ (∃ i j, x = .bl i ∧ y = .bl j ∧ R (.bl (decide (i = j))) S) ∨ (∃ i j, x = .str i ∧ y = .str j ∧ R (.bl (decide (i = j))) S) ∨ dEqG false x y S R := by
  cases x <;> cases y <;> first | exact .inr (.inr (.inr h)) | exact .inl ⟨_, _, rfl, rfl, h⟩ | exact .inr (.inl ⟨_, _, rfl, rfl, h⟩) | exact .inr (.inr (.inl ⟨_, _, rfl, rfl, h⟩))
theorem dNe_case {x y : D} {S : Sto} {R : D → Sto → Prop} (h : dNe x y S R) : (∃ i j, x = .int i ∧ y = .int j ∧ R (.bl (!decide (i = j))) S) ∨ (∃ i j, x = .bl i ∧ y = .bl j ∧ R (.bl (!decide (i = j))) S) ∨ (∃ i j, x = .str i ∧ y = .str j ∧ R (.bl (!decide (i = j))) S) ∨ dEqG true x y S R := by
  cases x <;> cases y <;> first | exact .inr (.inr (.inr h)) | exact .inl ⟨_, _, rfl, rfl, h⟩ | exact .inr (.inl ⟨_, _, rfl, rfl, h⟩) | exact .inr (.inr (.inl ⟨_, _, rfl, rfl, h⟩))
theorem od_eq (hu : X.A.units + 64 < cLine) : OpR X (compareOp .Eq) (lop X.K dEq) := by
  intro pins s σ H v w vv ww Q I rv rw' h
  obtain ⟨x, y, S, R, dx, dy, so, h, k⟩ := h
  rcases dEq_case h with ⟨i, j, rfl, rfl, h⟩ | ⟨i, j, rfl, rfl, h⟩ | ⟨i, j, rfl, rfl, h⟩ | h
  · cases (show v = V.int i from dx); cases (show w = V.int j from dy)
    exact op_eq pins s σ H _ _ vv ww Q I rv rw' ⟨rfl, by rw [show decide (V.int i = V.int j) = decide (i = j) by simp]; exact k (.bl (decide (i = j))) S _ H (Go.refl so) rfl h⟩
  · cases (show v = V.bl i from dx); cases (show w = V.bl j from dy)
    exact op_eq pins s σ H _ _ vv ww Q I rv rw' ⟨rfl, by rw [show decide (V.bl i = V.bl j) = decide (i = j) by simp]; exact k (.bl (decide (i = j))) S _ H (Go.refl so) rfl h⟩
  · cases (show v = V.str i from dx); cases (show w = V.str j from dy)
    exact op_eq pins s σ H _ _ vv ww Q I rv rw' ⟨rfl, by rw [show decide (V.str i = V.str j) = decide (i = j) by simp]; exact k (.bl (decide (i = j))) S _ H (Go.refl so) rfl h⟩
  · exact op_eqD hu pins s σ H _ _ vv ww Q I rv rw' (eqG_of so dx dy h k)
theorem od_ne (hu : X.A.units + 64 < cLine) : OpR X (compareOp .NotEq) (lop X.K dNe) := by
  intro pins s σ H v w vv ww Q I rv rw' h
  obtain ⟨x, y, S, R, dx, dy, so, h, k⟩ := h
  rcases dNe_case h with ⟨i, j, rfl, rfl, h⟩ | ⟨i, j, rfl, rfl, h⟩ | ⟨i, j, rfl, rfl, h⟩ | h
  · cases (show v = V.int i from dx); cases (show w = V.int j from dy)
    exact op_ne pins s σ H _ _ vv ww Q I rv rw' ⟨rfl, by rw [show decide (V.int i = V.int j) = decide (i = j) by simp]; exact k (.bl (!decide (i = j))) S _ H (Go.refl so) rfl h⟩
  · cases (show v = V.bl i from dx); cases (show w = V.bl j from dy)
    exact op_ne pins s σ H _ _ vv ww Q I rv rw' ⟨rfl, by rw [show decide (V.bl i = V.bl j) = decide (i = j) by simp]; exact k (.bl (!decide (i = j))) S _ H (Go.refl so) rfl h⟩
  · cases (show v = V.str i from dx); cases (show w = V.str j from dy)
    exact op_ne pins s σ H _ _ vv ww Q I rv rw' ⟨rfl, by rw [show decide (V.str i = V.str j) = decide (i = j) by simp]; exact k (.bl (!decide (i = j))) S _ H (Go.refl so) rfl h⟩
  · exact op_neD hu pins s σ H _ _ vv ww Q I rv rw' (eqG_of so dx dy h k)
theorem isNone_of {K : PySem.W.Frag} {H : Hp} {x : D} {v : V} (h : DV K H x v) : decide (v = V.non) = isNone x := by
  cases x with
  | non => cases (show v = V.non from h); rfl
  | bl b => cases (show v = V.bl b from h); rfl
  | int b => cases (show v = V.int b from h); rfl
  | str b => cases (show v = V.str b from h); rfl
  | ty b => cases (show v = V.ty b from h); rfl
  | ref b => cases (show v = V.ref b from h); rfl
  | tup b => obtain ⟨a, vs, rfl, _⟩ := h; rfl
  | fro b => obtain ⟨a, vs, rfl, _⟩ := h; rfl
  | exc C d => obtain ⟨a, dx, w, rfl, _⟩ := h; rfl
theorem od_is : OpR X (compareOp .Is) (lop X.K dIs) := by
  intro pins s σ H v w vv ww Q I rv rw' h
  obtain ⟨x, y, S, R, dx, dy, so, h, k⟩ := h
  cases y <;> first | (cases x <;> exact False.elim h) | skip
  cases (show w = V.non from dy)
  have h : R (.bl (isNone x)) S := by cases x <;> exact h
  exact op_isN pins s σ H _ _ vv ww Q I rv rw' ⟨rfl, by rw [isNone_of dx]; exact k (.bl (isNone x)) S _ H (Go.refl so) rfl h⟩
theorem od_isnot : OpR X (compareOp .IsNot) (lop X.K dIsNot) := by
  intro pins s σ H v w vv ww Q I rv rw' h
  obtain ⟨x, y, S, R, dx, dy, so, h, k⟩ := h
  cases y <;> first | (cases x <;> exact False.elim h) | skip
  cases (show w = V.non from dy)
  have h : R (.bl (!isNone x)) S := by cases x <;> exact h
  exact op_notN pins s σ H _ _ vv ww Q I rv rw' ⟨rfl, by rw [isNone_of dx]; exact k (.bl (!isNone x)) S _ H (Go.refl so) rfl h⟩
variable {y : DXw} {a b : Expr} {t : RE} {pos : Pos}
/-- -a -/
def rNeg (t : RE) : RE := fun ρ S Q => t ρ S fun d S1 => match d with
  | .int i => Q (.int (-i)) S1
  | _ => False
theorem pd_neg (ha : PD X y a t) : PD X y (.UnaryOp .USub a pos) (rNeg t) := by
  refine PD.of (pe_un un_neg ha) fun σ H Q h => ?_
  obtain ⟨ρ, S, R, sr, so, h, k⟩ := h
  refine ⟨ρ, S, _, sr, so, h, fun d S' v H' g dv hd => ?_⟩
  cases d with
  | int i => exact ⟨i, dv, k (.int (-i)) S' _ H' g rfl hd⟩
  | _ => exact False.elim hd
end
end DL
set_option Elab.async false
set_option linter.all false
set_option maxRecDepth 100000
set_option maxHeartbeats 4000000
namespace DL
open PySem PySem.Spec PyProof.Rows L2

/-! ### built-ins, by values -/
abbrev RCall := List D → Sto → (D → Sto → Prop) → Prop
def lcl (K : PySem.W.Frag) (p : RCall) : List V → Hp → VK → Prop := fun vs H Q => ∃ ds S R, DVs K H ds vs ∧ SOk K H S ∧ p ds S R ∧ ∀ d S' z H', Go K H S H' S' → DV K H' d z → R d S' → Q z H'
def rCl (p : RCall) (ta : RA) : RE := fun ρ S Q => ta ρ S fun ds S1 => p ds S1 Q
def dvs1 {K : PySem.W.Frag} {H : Hp} {d : D} {vs : List V} (h : DVs K H [d] vs) : ∃ v, vs = [v] ∧ DV K H d v := by
  obtain ⟨v, ws, rfl, r, q⟩ := h
  cases (show ws = [] from q)
  exact ⟨v, rfl, r⟩
def dvs2 {K : PySem.W.Frag} {H : Hp} {d e : D} {vs : List V} (h : DVs K H [d, e] vs) : ∃ v w, vs = [v, w] ∧ DV K H d v ∧ DV K H e w := by
  obtain ⟨v, ws, rfl, r, q⟩ := h
  obtain ⟨w, rfl, r2⟩ := dvs1 q
  exact ⟨v, w, rfl, r, r2⟩
section
variable {X : Cx} {y : DXw} {pos p : Pos} {e : Expr} {es : List Expr} {x : Str} {ta : RA}
theorem cl_of {r : List V → Hp → VK → Prop} {q : RCall} {n : Nat} {σ : L2.St} {H : Hp} {Q : VK} (hr : ∀ vs H Q, lcl X.K q vs H Q → r vs H Q) (h : lE X.K y (rCl q ta) σ H Q) : tCB r (lA X.K y n ta) σ H Q := by
  obtain ⟨ρ, S, R, sr, so, h, k⟩ := h
  exact ⟨ρ, S, _, sr, so, h, fun ds S1 vs H1 g1 dvs hn h1 => hr _ _ _ ⟨ds, S1, R, dvs, g1.ok, h1, fun d S2 z H2 g2 dz q => k d S2 z H2 (g1.trans g2) dz q⟩⟩
theorem pd_blt {id : String} {q : RCall} (hc : CallR X (.builtin id) (lcl X.K q)) (hm : X.mg x = none) (hv : bootBuiltins x = some (.builtin id)) (ha : PDA X y (e :: es) ta) (hg : Gl X x := by rfl) (hn : x ≠ "__name__" := by decide) (hdb : (x == ("__debug__" : Str)) = false := by decide)
    (he : starEach (e :: es) X.env = (false, eval e X.env) :: starEach es X.env := by rfl) (hpl : (backTo pos (starEach es X.env)).any (·.1) = false := by rfl) : PD X y (.Call (.Name x p) (e :: es) [] pos) (rCl q ta) :=
  PD.of (pe_callB hc hg hm hv ha hn hdb he hpl) fun σ H Q h => cl_of (fun _ _ _ z => z) h
theorem pd_bltTy {T : String} {q : RCall} (hc : CallR X (.type T) (lcl X.K q)) (hm : X.mg x = none) (hv : bootBuiltins x = some (.type T)) (ha : PDA X y (e :: es) ta) (hg : Gl X x := by rfl) (hn : x ≠ "__name__" := by decide) (hdb : (x == ("__debug__" : Str)) = false := by decide)
    (he : starEach (e :: es) X.env = (false, eval e X.env) :: starEach es X.env := by rfl) (hpl : (backTo pos (starEach es X.env)).any (·.1) = false := by rfl) : PD X y (.Call (.Name x p) (e :: es) [] pos) (rCl q ta) :=
  PD.of (pe_callTy hc hg hm hv ha hn hdb he hpl) fun σ H Q h => cl_of (fun _ _ _ z => z) h
theorem pd_bltFun {id : String} {q : RCall} (hc : CallR X (.builtin id) (lcl X.K q)) (hm : X.mg x = some (.builtin id)) (ha : PDA X y (e :: es) ta) (hg : Gl X x := by rfl) (hdb : (x == ("__debug__" : Str)) = false := by decide)
    (he : starEach (e :: es) X.env = (false, eval e X.env) :: starEach es X.env := by rfl) (hpl : (backTo pos (starEach es X.env)).any (·.1) = false := by rfl) : PD X y (.Call (.Name x p) (e :: es) [] pos) (rCl q ta) :=
  PD.of (pe_callBfun hc hg hm ha hdb he hpl) fun σ H Q h => cl_of (fun _ _ _ z => z) h

/-- len -/
def dLen : RCall := fun ds S Q => match ds with
  | [.tup xs] => Q (.int xs.length) S
  | [.str x] => x.length ≤ sizeLine ∧ Q (.int x.length) S
  | [d] => ∃ xs, RdL S d xs ∧ Q (.int xs.length) S
  | _ => False
theorem cd_len : CallR X (.builtin "len") (lcl X.K dLen) := by
  intro pins s σ H vs us Q I rv h
  obtain ⟨ds, S, R, dv, so, h, k⟩ := h
  refine call_len pins s σ H vs us Q I rv ?_
  unfold dLen at h
  split at h
  · rename_i xs
    obtain ⟨v, rfl, a, ws, rfl, q, r⟩ := dvs1 dv
    exact ⟨_, _, rfl, .inr ⟨ws, q.sq, rfl⟩, by rw [← r.length]; exact k (.int xs.length) S _ H (Go.refl so) rfl h⟩
  · rename_i z
    obtain ⟨v, rfl, r⟩ := dvs1 dv
    cases (show v = V.str z from r)
    exact ⟨_, _, rfl, ⟨h.1, rfl⟩, k (.int z.length) S _ H (Go.refl so) rfl h.2⟩
  · rename_i d _ _
    obtain ⟨v, rfl, r⟩ := dvs1 dv
    obtain ⟨xs, hx, h⟩ := h
    obtain ⟨a, ws, rfl, q, r⟩ := hx.sq so r
    exact ⟨_, _, rfl, .inl ⟨ws, q, rfl⟩, by rw [← r.length]; exact k (.int xs.length) S _ H (Go.refl so) rfl h⟩
  · exact h.elim
/-- int -/
def dInt : RCall := fun ds S Q => match ds with
  | [.int i] => Q (.int i) S
  | [.bl b] => Q (.int (if b then 1 else 0)) S
  | _ => False
theorem cd_int : CallR X (.type "int") (lcl X.K dInt) := by
  intro pins s σ H vs us Q I rv h
  obtain ⟨ds, S, R, dv, so, h, k⟩ := h
  refine call_int1 pins s σ H vs us Q I rv ?_
  unfold dInt at h
  split at h
  · rename_i i
    obtain ⟨v, rfl, r⟩ := dvs1 dv
    cases (show v = V.int i from r)
    exact .inl ⟨i, rfl, k (.int i) S _ H (Go.refl so) rfl h⟩
  · rename_i b
    obtain ⟨v, rfl, r⟩ := dvs1 dv
    cases (show v = V.bl b from r)
    exact .inr ⟨b, rfl, k (.int (if b then 1 else 0)) S _ H (Go.refl so) rfl h⟩
  · exact h.elim
/-- a built-in of whole numbers -/
def dI1 (f : Int → Int) : RCall := fun ds S Q => match ds with
  | [.int i] => Q (.int (f i)) S
  | _ => False
def dI2 (f : Int → Int → Int) : RCall := fun ds S Q => match ds with
  | [.int i, .int j] => Q (.int (f i j)) S
  | _ => False
theorem cd_I1 {u : Value} {f : Int → Int} (hc : CallR X u (fun xs H Q => ∃ i, xs = [.int i] ∧ Q (.int (f i)) H)) : CallR X u (lcl X.K (dI1 f)) := by
  intro pins s σ H vs us Q I rv h
  obtain ⟨ds, S, R, dv, so, h, k⟩ := h
  refine hc pins s σ H vs us Q I rv ?_
  unfold dI1 at h
  split at h
  · rename_i i
    obtain ⟨v, rfl, r⟩ := dvs1 dv
    cases (show v = V.int i from r)
    exact ⟨i, rfl, k (.int (f i)) S _ H (Go.refl so) rfl h⟩
  · exact h.elim
theorem cd_I2 {u : Value} {f : Int → Int → Int} (hc : CallR X u (fun xs H Q => ∃ i j, xs = [.int i, .int j] ∧ Q (.int (f i j)) H)) : CallR X u (lcl X.K (dI2 f)) := by
  intro pins s σ H vs us Q I rv h
  obtain ⟨ds, S, R, dv, so, h, k⟩ := h
  refine hc pins s σ H vs us Q I rv ?_
  unfold dI2 at h
  split at h
  · rename_i i j
    obtain ⟨v, w, rfl, r1, r2⟩ := dvs2 dv
    cases (show v = V.int i from r1)
    cases (show w = V.int j from r2)
    exact ⟨i, j, rfl, k (.int (f i j)) S _ H (Go.refl so) rfl h⟩
  · exact h.elim
def dAbs : RCall := fun ds S Q => match ds with
  | [.int i] => Q (.int (if i < 0 then -i else i)) S
  | _ => False
def dMax2 : RCall := fun ds S Q => match ds with
  | [.int i, .int j] => Q (.int (if j > i then j else i)) S
  | _ => False
def dMin2 : RCall := fun ds S Q => match ds with
  | [.int i, .int j] => Q (.int (if j < i then j else i)) S
  | _ => False
def dGcd : RCall := fun ds S Q => match ds with
  | [.int i, .int j] => Q (.int ((Nat.gcd i.natAbs j.natAbs : Nat) : Int)) S
  | _ => False
theorem cd_abs : CallR X (.builtin "abs") (lcl X.K dAbs) := cd_I1 call_abs
theorem cd_max2 (hc : X.calm = true) : CallR X (.builtin "max") (lcl X.K dMax2) := cd_I2 (call_max2 hc)
theorem cd_min2 (hc : X.calm = true) : CallR X (.builtin "min") (lcl X.K dMin2) := cd_I2 (call_min2 hc)
theorem cd_gcd : CallR X (.builtin "math.gcd") (lcl X.K dGcd) := cd_I2 cr_gcd
/-- tuple, list -/
def dTuple : RCall := fun ds S Q => match ds with
  | [.tup xs] => Q (.tup xs) S
  | [d] => ∃ xs, RdL S d xs ∧ Q (.tup xs) S
  | _ => False
theorem cd_tuple : CallR X (.type "tuple") (lcl X.K dTuple) := by
  intro pins s σ H vs us Q I rv h
  obtain ⟨ds, S, R, dv, so, h, k⟩ := h
  refine call_tuple_of pins s σ H vs us Q I rv ?_
  unfold dTuple at h
  split at h
  · rename_i xs
    obtain ⟨v, rfl, a, ws, rfl, q, r⟩ := dvs1 dv
    exact ⟨a, ws, rfl, .inr ⟨q.sq, k (.tup xs) S _ H (Go.refl so) ⟨a, ws, rfl, q, r⟩ h⟩⟩
  · rename_i d _
    obtain ⟨v, rfl, r⟩ := dvs1 dv
    obtain ⟨xs, hx, h⟩ := h
    obtain ⟨a, ws, rfl, q, r⟩ := hx.sq so r
    refine ⟨a, ws, rfl, .inl ⟨q, fun l hl => ?_⟩⟩
    have g := Go.new (o := .tup ws) so hl
    exact k (.tup xs) S _ _ g ⟨l, ws, rfl, .inl upd_same, DVs.go g _ _ r⟩ h
  · exact h.elim
def dList : RCall := fun ds S Q => match ds with
  | [.tup xs] => ∀ p, S p = none → Q (.ref p) (sup S p (.lst xs))
  | [d] => ∃ xs, RdL S d xs ∧ ∀ p, S p = none → Q (.ref p) (sup S p (.lst xs))
  | _ => False
theorem cd_list : CallR X (.type "list") (lcl X.K dList) := by
  intro pins s σ H vs us Q I rv h
  obtain ⟨ds, S, R, dv, so, h, k⟩ := h
  refine call_list_of pins s σ H vs us Q I rv ?_
  unfold dList at h
  split at h
  · rename_i xs
    obtain ⟨v, rfl, a, ws, rfl, q, r⟩ := dvs1 dv
    exact ⟨a, ws, rfl, .inr q.sq, fun l hl => k (.ref l) _ _ _ (Go.newLst so hl r) rfl (h l (so.free hl))⟩
  · rename_i d _
    obtain ⟨v, rfl, r⟩ := dvs1 dv
    obtain ⟨xs, hx, h⟩ := h
    obtain ⟨a, ws, rfl, q, r⟩ := hx.sq so r
    exact ⟨a, ws, rfl, .inl q, fun l hl => k (.ref l) _ _ _ (Go.newLst so hl r) rfl (h l (so.free hl))⟩
  · exact h.elim
/-- sum, all, any of a list -/
def dSum : RCall := fun ds S Q => match ds with
  | [d] => ∃ ns : List Int, RdL S d (ns.map D.int) ∧ Q (.int ns.sum) S
  | _ => False
theorem cd_sum (hc : X.calm = true) : CallR X (.builtin "sum") (lcl X.K dSum) := by
  intro pins s σ H vs us Q I rv h
  obtain ⟨ds, S, R, dv, so, h, k⟩ := h
  refine cr_sum hc pins s σ H vs us Q I rv ?_
  unfold dSum at h
  split at h
  · rename_i d
    obtain ⟨v, rfl, r⟩ := dvs1 dv
    obtain ⟨ns, hx, h⟩ := h
    obtain ⟨a, ws, rfl, q, r⟩ := hx.sq so r
    rw [DVs.ints r] at q
    exact ⟨a, ns, rfl, q, k (.int ns.sum) S _ H (Go.refl so) rfl h⟩
  · exact h.elim
def dAll : RCall := fun ds S Q => match ds with
  | [d] => ∃ bs : List Bool, RdL S d (bs.map D.bl) ∧ Q (.bl (bs.all id)) S
  | _ => False
def dAny : RCall := fun ds S Q => match ds with
  | [d] => ∃ bs : List Bool, RdL S d (bs.map D.bl) ∧ Q (.bl (bs.any id)) S
  | _ => False
theorem cd_all (hc : X.calm = true) : CallR X (.builtin "all") (lcl X.K dAll) := by
  intro pins s σ H vs us Q I rv h
  obtain ⟨ds, S, R, dv, so, h, k⟩ := h
  refine cr_all hc pins s σ H vs us Q I rv ?_
  unfold dAll at h
  split at h
  · rename_i d
    obtain ⟨v, rfl, r⟩ := dvs1 dv
    obtain ⟨ns, hx, h⟩ := h
    obtain ⟨a, ws, rfl, q, r⟩ := hx.sq so r
    rw [DVs.bls r] at q
    exact ⟨a, ns, rfl, q, k (.bl (ns.all id)) S _ H (Go.refl so) rfl h⟩
  · exact h.elim
theorem cd_any (hc : X.calm = true) : CallR X (.builtin "any") (lcl X.K dAny) := by
  intro pins s σ H vs us Q I rv h
  obtain ⟨ds, S, R, dv, so, h, k⟩ := h
  refine cr_any hc pins s σ H vs us Q I rv ?_
  unfold dAny at h
  split at h
  · rename_i d
    obtain ⟨v, rfl, r⟩ := dvs1 dv
    obtain ⟨ns, hx, h⟩ := h
    obtain ⟨a, ws, rfl, q, r⟩ := hx.sq so r
    rw [DVs.bls r] at q
    exact ⟨a, ns, rfl, q, k (.bl (ns.any id)) S _ H (Go.refl so) rfl h⟩
  · exact h.elim

/-! ### isinstance -/
inductive Ty where
  | int | bool | none | str | tup | lst | dct
  deriving DecidableEq
def Ty.nm : Ty → String
  | .int => "int" | .bool => "bool" | .none => "NoneType" | .str => "str" | .tup => "tuple" | .lst => "list" | .dct => "dict"
def isi : Ty → Ty → Bool
  | .int, .int => true | .bool, .bool => true | .bool, .int => true | .none, .none => true | .str, .str => true | .tup, .tup => true | .lst, .lst => true | .dct, .dct => true
  | _, _ => false
theorem isi_kit : ∀ t c : Ty, kitB t.nm c.nm = some (isi t c) := by
  intro t c
  cases t <;> cases c <;> decide +kernel
def dTy : D → Sto → (Ty → Prop) → Prop
  | .non, _, k => k .none
  | .bl _, _, k => k .bool
  | .int _, _, k => k .int
  | .str _, _, k => k .str
  | .tup _, _, k => k .tup
  | .fro _, _, k => k .lst
  | .ref a, S, k => (∃ xs, S a = some (.lst xs) ∧ k .lst) ∨ ∃ kvs, S a = some (.dK kvs) ∧ k .dct
  | _, _, _ => False
theorem dTy_of {K : PySem.W.Frag} {H : Hp} {S : Sto} (so : SOk K H S) : ∀ {d : D} {v : V} {k : Ty → Prop}, DV K H d v → dTy d S k → ∃ t : Ty, TyX K H v (.type t.nm) ∧ k t
  | .non, _, _, h, q => by cases (show _ = V.non from h); exact ⟨.none, .base .non, q⟩
  | .bl b, _, _, h, q => by cases (show _ = V.bl b from h); exact ⟨.bool, .base (.bl b), q⟩
  | .int b, _, _, h, q => by cases (show _ = V.int b from h); exact ⟨.int, .base (.int b), q⟩
  | .str b, _, _, h, q => by cases (show _ = V.str b from h); exact ⟨.str, .base (.str b), q⟩
  | .tup b, _, _, h, q => by
    obtain ⟨a, vs, rfl, e, _⟩ := h
    rcases e with e | ⟨o, its, n, e, c, _⟩
    · exact ⟨.tup, .base (.tup e), q⟩
    · exact ⟨.tup, .kTuple e c, q⟩
  | .fro b, _, _, h, q => by
    obtain ⟨a, vs, rfl, e, _⟩ := h
    rcases e with ⟨o, e⟩ | ⟨o, its, n, e, c, _⟩
    · exact ⟨.lst, .base (.frz e), q⟩
    · exact ⟨.lst, .kList e c, q⟩
  | .ref a, _, _, h, q => by
    cases (show _ = V.ref a from h)
    rcases q with ⟨xs, e, q⟩ | ⟨xs, e, q⟩
    · obtain ⟨vs, e1, _⟩ := so a _ e
      exact ⟨.lst, .base (.lst e1), q⟩
    · obtain ⟨vs, e1, _⟩ := so a _ e
      exact ⟨.dct, .base (.dK e1), q⟩
  | .ty _, _, _, _, q => q.elim
  | .exc _ _, _, _, _, q => q.elim
/-- a class's name as a value -/
theorem pd_ty {x : Str} {c : Ty} {pos : Pos} (hm : X.mg x = none) (hv : bootBuiltins x = some (.type c.nm)) (hg : Gl X x := by rfl) (hn : x ≠ "__name__" := by decide) (hd : (x == ("__debug__" : Str)) = false := by decide) : PD X y (.Name x pos) (rC (.ty c.nm)) :=
  pd_c (pe_bltn (v := .ty c.nm) hg hm hv rfl hn hd) fun _ => rfl
def dIsi : RCall := fun ds S Q => match ds with
  | [d, .ty n] => ∀ c : Ty, c.nm = n → dTy d S fun t => Q (.bl (isi t c)) S
  | [d, .tup [.ty n, .ty m]] => ∀ c c' : Ty, c.nm = n → c'.nm = m → dTy d S fun t => Q (.bl (isi t c || isi t c')) S
  | _ => False
end
end DL
set_option Elab.async false
set_option linter.all false
set_option maxRecDepth 100000
set_option maxHeartbeats 4000000
namespace DL
open PySem PySem.Spec PyProof.Rows L2
section
variable {X : Cx} {y : DXw} {pos p p2 apos : Pos} {e a b o : Expr} {es : List Expr} {x : Str} {ta : RA} {te ti to : RE}

/-! ### isinstance -/
def rIs1 (c : Ty) (te : RE) : RE := fun ρ S Q => te ρ S fun d S1 => dTy d S1 fun t => Q (.bl (isi t c)) S1
def rIs2 (c c' : Ty) (te : RE) : RE := fun ρ S Q => te ρ S fun d S1 => dTy d S1 fun t => Q (.bl (isi t c || isi t c')) S1
theorem pd_isi1 (c : Ty) {cn : Str} (he : PD X y e te) (hm : X.mg "isinstance" = none) (hmc : X.mg cn = none) (hvc : bootBuiltins cn = some (.type c.nm) := by decide +kernel) (hg : Gl X "isinstance" := by rfl) (hgc : Gl X cn := by rfl) (hn : cn ≠ "__name__" := by decide) (hdb : (cn == ("__debug__" : Str)) = false := by decide)
    (h1 : starEach [e, .Name cn p2] X.env = (false, eval e X.env) :: starEach [.Name cn p2] X.env := by rfl) (h2 : starEach [.Name cn p2] X.env = (false, eval (.Name cn p2) X.env) :: starEach [] X.env := by rfl) (hpl : (backTo pos (starEach [.Name cn p2] X.env)).any (·.1) = false := by rfl) :
    PD X y (.Call (.Name "isinstance" p) [e, .Name cn p2] [] pos) (rIs1 c te) := by
  refine PD.of (pe_callB call_isi hg hm (by decide +kernel) (pa_cons he (pa_cons (pe_bltn (v := .ty c.nm) hgc hmc hvc rfl hn hdb) pa_nil h2) h1) (by decide) (by decide) h1 hpl) fun σ H Q h => ?_
  obtain ⟨ρ, S, R, sr, so, h, k⟩ := h
  refine ⟨ρ, S, _, sr, so, h, fun d S1 v H1 g dv hd => ?_⟩
  obtain ⟨t, ht, q⟩ := dTy_of g.ok dv hd
  exact ⟨v, .ty c.nm, .type t.nm, .type c.nm, _, rfl, .ty _, ht, kit_ty (isi_kit t c), k (.bl (isi t c)) S1 _ H1 g rfl q⟩
theorem pd_isi2 (c c' : Ty) {cn cn' : Str} {kk : Nat} {p3 p4 : Pos} (he : PD X y e te) (hm : X.mg "isinstance" = none) (hmc : X.mg cn = none) (hmc' : X.mg cn' = none) (hvc : bootBuiltins cn = some (.type c.nm) := by decide +kernel) (hvc' : bootBuiltins cn' = some (.type c'.nm) := by decide +kernel) (hg : Gl X "isinstance" := by rfl) (hgc : Gl X cn := by rfl) (hgc' : Gl X cn' := by rfl) (hn : cn ≠ "__name__" := by decide) (hdb : (cn == ("__debug__" : Str)) = false := by decide) (hn' : cn' ≠ "__name__" := by decide) (hdb' : (cn' == ("__debug__" : Str)) = false := by decide)
    (h1 : starEach [e, .Tuple [.Name cn p2, .Name cn' p3] kk p4] X.env = (false, eval e X.env) :: starEach [.Tuple [.Name cn p2, .Name cn' p3] kk p4] X.env := by rfl) (h2 : starEach [.Tuple [.Name cn p2, .Name cn' p3] kk p4] X.env = (false, eval (.Tuple [.Name cn p2, .Name cn' p3] kk p4) X.env) :: starEach [] X.env := by rfl) (hpl : (backTo pos (starEach [.Tuple [.Name cn p2, .Name cn' p3] kk p4] X.env)).any (·.1) = false := by rfl)
    (h3 : starEach [.Name cn p2, .Name cn' p3] X.env = (false, eval (.Name cn p2) X.env) :: starEach [.Name cn' p3] X.env := by rfl) (h4 : starEach [.Name cn' p3] X.env = (false, eval (.Name cn' p3) X.env) :: starEach [] X.env := by rfl) :
    PD X y (.Call (.Name "isinstance" p) [e, .Tuple [.Name cn p2, .Name cn' p3] kk p4] [] pos) (rIs2 c c' te) := by
  refine PD.of (pe_callB call_isiT hg hm (by decide +kernel) (pa_cons he (pa_cons (pe_tup (pa_cons (pe_bltn (v := .ty c.nm) hgc hmc hvc rfl hn hdb) (pa_cons (pe_bltn (v := .ty c'.nm) hgc' hmc' hvc' rfl hn' hdb') pa_nil h4) h3)) pa_nil h2) h1) (by decide) (by decide) h1 hpl) fun σ H Q h => ?_
  obtain ⟨ρ, S, R, sr, so, h, k⟩ := h
  refine ⟨ρ, S, _, sr, so, h, fun d S1 v H1 g dv hd => ?_⟩
  refine ⟨by show 2 ≤ sizeLine; decide, fun q hq => ?_⟩
  have g2 := Go.new (K := X.K) (o := .tup [.ty c.nm, .ty c'.nm]) g.ok hq
  obtain ⟨t, ht, hr⟩ := dTy_of g2.ok (DV.go g2 _ _ dv) hd
  refine ⟨v, q, [.ty c.nm, .ty c'.nm], .type t.nm, [.type c.nm, .type c'.nm], isi t c || isi t c', rfl, upd_same, .cons (.ty _) (.cons (.ty _) .nil), ht, ?_, k (.bl (isi t c || isi t c')) S1 _ _ (g.trans g2) rfl hr⟩
  refine kitAny_cons (kit_ty (isi_kit t c)) (fun z => ?_) fun z => by rw [z]; rfl
  rw [z, Bool.false_or]
  exact kitAny_cons (kit_ty (isi_kit t c')) (fun z => by rw [z]; exact kitAny_nil) fun z => z

/-! ### items -/
def dIx : ROp
  | .tup xs, .int i, S, R => ∃ d, atI xs i = some d ∧ R d S
  | .str x, .int i, S, R => ∃ c, x.length ≤ sizeLine ∧ atI x.cps.toList i = some c ∧ R (.str ⟨#[c]⟩) S
  | d, .int i, S, R => ∃ xs v, RdL S d xs ∧ atI xs i = some v ∧ R v S
  | _, _, _, _ => False
theorem atI_dv {K : PySem.W.Frag} {H : Hp} {xs : List D} {vs : List V} {i : Int} {d : D} (r : DVs K H xs vs) (h : atI xs i = some d) : ∃ v, atI vs i = some v ∧ DV K H d v := by
  unfold atI at h ⊢
  rw [← r.length]
  cases e : ixN xs.length i with
  | none => rw [e] at h; cases h
  | some j =>
    rw [e] at h
    exact r.get h
theorem dIx_case {x y : D} {S : Sto} {R : D → Sto → Prop} (h : dIx x y S R) : ∃ i, y = .int i ∧ ((∃ xs d, x = .tup xs ∧ atI xs i = some d ∧ R d S) ∨ (∃ z c, x = .str z ∧ z.length ≤ sizeLine ∧ atI z.cps.toList i = some c ∧ R (.str ⟨#[c]⟩) S) ∨ ∃ xs v, RdL S x xs ∧ atI xs i = some v ∧ R v S) := by
  cases y with
  | int i =>
    refine ⟨i, rfl, ?_⟩
    cases x with
    | tup xs => obtain ⟨d, h1, h2⟩ := (show ∃ d, atI xs i = some d ∧ R d S from h); exact .inl ⟨xs, d, rfl, h1, h2⟩
    | str z => obtain ⟨c, h1, h2, h3⟩ := (show ∃ c, z.length ≤ sizeLine ∧ atI z.cps.toList i = some c ∧ R (.str ⟨#[c]⟩) S from h); exact .inr (.inl ⟨z, c, rfl, h1, h2, h3⟩)
    | _ => exact .inr (.inr h)
  | _ => cases x <;> exact False.elim h
theorem id_seq : IxR X (lop X.K dIx) := by
  intro value slice pins s σ H v w vv ww Q I rv rw' h hs
  obtain ⟨x, z, S, R, dx, dz, so, h, k⟩ := h
  obtain ⟨i, rfl, hc⟩ := dIx_case h
  cases (show w = V.int i from dz)
  refine ix_seq value slice pins s σ H _ _ vv ww Q I rv rw' ?_ hs
  rcases hc with ⟨xs, d, rfl, e, h⟩ | ⟨z, c, rfl, hl, e, h⟩ | ⟨xs, d, hx, e, h⟩
  · obtain ⟨a, vs, rfl, q, r⟩ := dx
    obtain ⟨u, e2, r2⟩ := atI_dv r e
    exact .inr (.inl ⟨a, vs, i, u, rfl, rfl, q.sq, e2, k d S _ H (Go.refl so) r2 h⟩)
  · cases (show v = V.str z from dx)
    exact .inr (.inr ⟨z, i, c, rfl, rfl, hl, e, k (.str ⟨#[c]⟩) S _ H (Go.refl so) rfl h⟩)
  · obtain ⟨a, vs, rfl, q, r⟩ := hx.sq so dx
    obtain ⟨u, e2, r2⟩ := atI_dv r e
    exact .inl ⟨a, vs, i, u, rfl, rfl, q, e2, k d S _ H (Go.refl so) r2 h⟩
theorem pd_ix (ha : PD X y a te) (hb : PD X y b ti) (hs : PlainIx b := by exact fun _ _ => rfl) : PD X y (.Subscript a b pos) (rBin dIx te ti) :=
  PD.of (pe_ix id_seq ha hb hs) fun _ _ _ h => bin_of (fun _ _ _ _ z => z) h
/-- xs[i] = v -/
def dSet : RSet := fun o i v S R => match o, i with
  | .ref a, .int k => ∃ xs j, S a = some (.lst xs) ∧ ixN xs.length k = some j ∧ R (sup S a (.lst (xs.set j v)))
  | _, _ => False
theorem sd_list : PSet X (lset X.K dSet) := by
  intro pins s σ H o i v ov iv u Q I ro ri rv h
  obtain ⟨x, k, d, S, R, dx, dk, dv, so, h, c⟩ := h
  refine set_list pins s σ H o i v ov iv u Q I ro ri rv ?_
  cases x <;> cases k <;> first | exact False.elim h | skip
  case ref.int a j =>
    cases (show o = V.ref a from dx); cases (show i = V.int j from dk)
    obtain ⟨xs, m, e, hj, h⟩ := h
    obtain ⟨vs, e1, r⟩ := so a _ e
    exact ⟨a, vs, j, m, rfl, rfl, e1, by rw [← r.length]; exact hj, c _ _ (Go.setLst so e (r.set m dv)) h⟩

/-! ### slices -/
abbrev RO := Ro → Sto → (Option Int → Sto → Prop) → Prop
def lO (K : PySem.W.Frag) (y : DXw) (t : RO) : TO := fun σ H Q => ∃ ρ S R, SRv K σ H ρ ∧ SX K y H S ∧ t ρ S R ∧ ∀ i S' H', Go K H S H' S' → R i S' → Q i H'
def PDO (X : Cx) (y : DXw) (e : Option Expr) (t : RO) : Prop := PO X e (lO X.K y t)
def rNoP : RO := fun _ S Q => Q none S
def rPart (t : RE) : RO := fun ρ S Q => t ρ S fun d S1 => match d with
  | .int i => Q (some i) S1
  | _ => False
theorem pdo_none : PDO X y none rNoP := ⟨fun pins s σ H Q I h => by
  obtain ⟨ρ, S, R, sr, so, h, k⟩ := h
  exact po_none.run pins s σ H Q I (k none S H (Go.refl so.so) h)⟩
theorem pdo_some (h : PD X y e te) : PDO X y (some e) (rPart te) := ⟨fun pins s σ H Q I q => by
  refine (po_some h).run pins s σ H Q I ?_
  obtain ⟨ρ, S, R, sr, so, h, k⟩ := q
  refine ⟨ρ, S, _, sr, so, h, fun d S' v H' g dv hd => ?_⟩
  cases d with
  | int i => exact ⟨i, dv, k (some i) S' H' g hd⟩
  | _ => exact False.elim hd⟩
def cutD (xs : List D) (lo hi : Option Int) : List D := (xs.drop (HT.sIx xs.length 0 lo)).take (HT.sIx xs.length xs.length hi - HT.sIx xs.length 0 lo)
theorem cutD_dv {K : PySem.W.Frag} {H : Hp} {xs : List D} {vs : List V} (r : DVs K H xs vs) (lo hi : Option Int) : DVs K H (cutD xs lo hi) (cutV vs lo hi) := by
  unfold cutD cutV
  rw [← r.length]
  exact (r.drop _).take _
abbrev RSl := D → Option Int → Option Int → Sto → (D → Sto → Prop) → Prop
def dSl : RSl := fun d lo hi S R => match d with
  | .tup xs => R (.tup (cutD xs lo hi)) S
  | _ => ∃ xs, RdL S d xs ∧ ∀ p, S p = none → R (.ref p) (sup S p (.lst (cutD xs lo hi)))
def lsl (K : PySem.W.Frag) (q : RSl) : V → Option Int → Option Int → Hp → VK → Prop := fun v lo hi H Q => ∃ d S R, DV K H d v ∧ SOk K H S ∧ q d lo hi S R ∧ ∀ d S' z H', Go K H S H' S' → DV K H' d z → R d S' → Q z H'
theorem sd_sl : SlR X (lsl X.K dSl) := by
  have lst : ∀ {d : D} {lo hi : Option Int} {v : V} {S : Sto} {H : Hp} {R : D → Sto → Prop} {Q : VK}, SOk X.K H S → DV X.K H d v → (∃ xs, RdL S d xs ∧ ∀ p, S p = none → R (.ref p) (sup S p (.lst (cutD xs lo hi)))) → (∀ d S' z H', Go X.K H S H' S' → DV X.K H' d z → R d S' → Q z H') → rSlL X.K v lo hi H Q := fun so dv ⟨xs, hx, h⟩ k => by
    obtain ⟨a, vs, rfl, q, r⟩ := hx.sq so dv
    exact ⟨a, vs, rfl, q, fun p hp => k (.ref p) _ _ _ (Go.newLst so hp (cutD_dv r _ _)) rfl (h p (so.free hp))⟩
  intro pins s σ H x v vl vu lo hi sl Q I rx hs pl pu h
  obtain ⟨d, S, R, dv, so, h, k⟩ := h
  refine ((sl_tupA (X := X)).or (sl_list (X := X))) pins s σ H x v vl vu lo hi sl Q I rx hs pl pu ?_
  cases d with
  | tup xs =>
    obtain ⟨a, vs, rfl, q, r⟩ := dv
    have h : R (.tup (cutD xs lo hi)) S := h
    refine .inl ⟨a, vs, rfl, q.sq, fun hw => ?_, fun _ p hp => ?_⟩
    · have e : cutD xs lo hi = xs := by
        unfold cutD
        rw [r.length, hw.1, hw.2, ← r.length]
        simp
      rw [e] at h
      exact k (.tup xs) S _ H (Go.refl so) ⟨a, vs, rfl, q, r⟩ h
    · have g := Go.new (K := X.K) (o := .tup (cutV vs lo hi)) so hp
      exact k (.tup (cutD xs lo hi)) S _ _ g ⟨p, _, rfl, .inl upd_same, DVs.go g _ _ (cutD_dv r _ _)⟩ h
  | _ => exact .inr (lst so dv h k)
def rSl (te : RE) (tl th : RO) : RE := fun ρ S Q => te ρ S fun d S1 => tl ρ S1 fun l S2 => th ρ S2 fun u S3 => dSl d l u S3 Q
theorem pd_slice {lo hi : Option Expr} {tl th : RO} (he : PD X y e te) (hl : PDO X y lo tl) (hu : PDO X y hi th) : PD X y (.Subscript e (.Slice lo hi none p2) pos) (rSl te tl th) := by
  refine PD.of (pe_slice sd_sl he hl hu) fun σ H Q h => ?_
  obtain ⟨ρ, S, R, sr, so, h, k⟩ := h
  refine ⟨ρ, S, _, sr, so, h, fun d S1 v H1 g1 dv h1 => ⟨ρ, S1, _, sr.go g1, so.go g1, h1, fun l S2 H2 g2 h2 => ⟨ρ, S2, _, (sr.go g1).go g2, (so.go g1).go g2, h2, fun u S3 H3 g3 h3 => ?_⟩⟩⟩
  exact ⟨d, S3, R, DV.go (g2.trans g3) _ _ dv, g3.ok, h3, fun d S' z H' g dz hz => k d S' z H' (g1.trans (g2.trans (g3.trans g))) dz hz⟩

/-! ### methods of lists -/
abbrev RMt := D → List D → Sto → (D → Sto → Prop) → Prop
def isL : D → Sto → Prop
  | .ref a, S => ∃ xs, S a = some (.lst xs)
  | _, _ => False
def lmt (K : PySem.W.Frag) (q : RMt) : V → List V → Hp → VK → Prop := fun v vs H Q => ∃ d ds S R, DV K H d v ∧ DVs K H ds vs ∧ SOk K H S ∧ q d ds S R ∧ ∀ d S' z H', Go K H S H' S' → DV K H' d z → R d S' → Q z H'
def rBM (q : RMt) (to : RE) (ta : RA) : RE := fun ρ S Q => to ρ S fun o S1 => isL o S1 ∧ ta ρ S1 fun ds S2 => q o ds S2 Q
def rBM0 (q : RMt) (to : RE) : RE := fun ρ S Q => to ρ S fun o S1 => isL o S1 ∧ q o [] S1 Q
theorem isL_ty {K : PySem.W.Frag} {H : Hp} {S : Sto} (so : SOk K H S) {d : D} {v : V} (dv : DV K H d v) (h : isL d S) : tyV K "list" v H := by
  cases d with
  | ref a =>
    cases (show v = V.ref a from dv)
    obtain ⟨xs, e⟩ := h
    obtain ⟨vs, e1, _⟩ := so a _ e
    exact .inl ⟨rfl, vs, SqL.of e1⟩
  | _ => exact False.elim h
variable {name : Str} {id : String} {cpos : Pos}
theorem pd_lm {q : RMt} (slot : Slot "list" name id) (hty : typeOf (.builtin id) = pure (.type "method_descriptor")) (hm : MtR X id (lmt X.K q)) (ho : PD X y o to) (ha : PDA X y (e :: es) ta)
    (hbase : attributeBase o name X.env (eval o X.env) = eval o X.env := by rfl)
    (hfew : ((backTo cpos (starEach (e :: es) X.env)).all (fun x => !x.1) && (backToKw cpos (keywordEach [] X.env)).all (fun x => x.1.isSome)
      && decide ((e :: es).length + ([] : List Keyword).length + (if ([] : List Keyword).isEmpty then 0 else 1) < 30)) = true := by rfl)
    (hline : (apos.endLine == cpos.line) = true := by rfl) (hs : starEach (e :: es) X.env = (false, eval e X.env) :: starEach es X.env := by rfl) (hplain : (backTo cpos (starEach es X.env)).any (·.1) = false := by rfl) :
    PD X y (.Call (.Attribute o name apos) (e :: es) [] cpos) (rBM q to ta) :=
  PD.of (pe_bm PySem.F.plainAttrs_list slot hty hm ho ha hbase hfew hline hs hplain) fun σ H Q h => by
    obtain ⟨ρ, S, R, sr, so, h, k⟩ := h
    refine ⟨ρ, S, _, sr, so, h, fun d S1 v H1 g1 dv h1 => ⟨isL_ty g1.ok dv h1.1, ρ, S1, _, sr.go g1, so.go g1, h1.2, fun ds S2 vs H2 g2 dvs hn h2 => ?_⟩⟩
    exact ⟨d, ds, S2, R, DV.go g2 _ _ dv, dvs, g2.ok, h2, fun d S' z H' g dz hz => k d S' z H' (g1.trans (g2.trans g)) dz hz⟩
theorem pd_lm0 {q : RMt} (slot : Slot "list" name id) (hty : typeOf (.builtin id) = pure (.type "method_descriptor")) (hm : MtR X id (lmt X.K q)) (ho : PD X y o to)
    (hbase : attributeBase o name X.env (eval o X.env) = eval o X.env := by rfl) (hline : (apos.endLine == cpos.line) = true := by rfl) : PD X y (.Call (.Attribute o name apos) [] [] cpos) (rBM0 q to) :=
  PD.of (pe_bm0 PySem.F.plainAttrs_list slot hty hm ho hbase hline) fun σ H Q h => by
    obtain ⟨ρ, S, R, sr, so, h, k⟩ := h
    refine ⟨ρ, S, _, sr, so, h, fun d S1 v H1 g1 dv h1 => ⟨isL_ty g1.ok dv h1.1, ?_⟩⟩
    exact ⟨d, [], S1, R, dv, DVs.nil, g1.ok, h1.2, fun d S' z H' g dz hz => k d S' z H' (g1.trans g) dz hz⟩
def dAppend : RMt := fun o ds S R => match o, ds with
  | .ref a, [d] => ∃ xs, S a = some (.lst xs) ∧ xs.length < sizeLine ∧ R .non (sup S a (.lst (xs ++ [d])))
  | _, _ => False
theorem md_append : MtR X "list.append" (lmt X.K dAppend) := by
  intro pins s σ H v vs vv us Q I rv rs h
  obtain ⟨o, ds, S, R, dv, dvs, so, h, k⟩ := h
  refine mt_append pins s σ H v vs vv us Q I rv rs ?_
  unfold dAppend at h
  split at h
  · rename_i a d
    cases (show v = V.ref a from dv)
    obtain ⟨w, rfl, dw⟩ := dvs1 dvs
    obtain ⟨xs, e, hl, h⟩ := h
    obtain ⟨ws, e1, r⟩ := so a _ e
    exact ⟨a, ws, w, rfl, rfl, e1, by rw [← r.length]; exact hl, k .non _ _ _ (Go.setLst so e (r.append (DVs.cons dw DVs.nil))) rfl h⟩
  · exact h.elim
def dInsert : RMt := fun o ds S R => match o, ds with
  | .ref a, [.int i, d] => ∃ xs, S a = some (.lst xs) ∧ xs.length < sizeLine ∧ 0 ≤ i ∧ i < 2 ^ 63 ∧ R .non (sup S a (.lst (xs.take i.toNat ++ [d] ++ xs.drop i.toNat)))
  | _, _ => False
theorem md_insert : MtR X "list.insert" (lmt X.K dInsert) := by
  intro pins s σ H v vs vv us Q I rv rs h
  obtain ⟨o, ds, S, R, dv, dvs, so, h, k⟩ := h
  refine mt_insert pins s σ H v vs vv us Q I rv rs ?_
  unfold dInsert at h
  split at h
  · rename_i a i d
    cases (show v = V.ref a from dv)
    obtain ⟨w, w2, rfl, dw, dw2⟩ := dvs2 dvs
    cases (show w = V.int i from dw)
    obtain ⟨xs, e, hl, h0, h1, h⟩ := h
    obtain ⟨ws, e1, r⟩ := so a _ e
    exact ⟨a, ws, i, w2, rfl, rfl, e1, by rw [← r.length]; exact hl, h0, h1, k .non _ _ _ (Go.setLst so e (((r.take _).append (DVs.cons dw2 DVs.nil)).append (r.drop _))) rfl h⟩
  · exact h.elim
def dExtend : RMt := fun o ds S R => match o, ds with
  | .ref a, [.ref b] => ∃ xs zs, S a = some (.lst xs) ∧ S b = some (.lst zs) ∧ xs.length + zs.length ≤ sizeLine ∧ R .non (sup S a (.lst (xs ++ zs)))
  | _, _ => False
theorem md_extend : MtR X "list.extend" (lmt X.K dExtend) := by
  intro pins s σ H v vs vv us Q I rv rs h
  obtain ⟨o, ds, S, R, dv, dvs, so, h, k⟩ := h
  refine mt_extend pins s σ H v vs vv us Q I rv rs ?_
  unfold dExtend at h
  split at h
  · rename_i a b
    cases (show v = V.ref a from dv)
    obtain ⟨w, rfl, dw⟩ := dvs1 dvs
    cases (show w = V.ref b from dw)
    obtain ⟨xs, zs, e, e', hl, h⟩ := h
    obtain ⟨ws, e1, r⟩ := so a _ e
    obtain ⟨ws', e1', r'⟩ := so b _ e'
    exact ⟨a, b, ws, ws', rfl, rfl, e1, e1', by rw [← r.length, ← r'.length]; exact hl, k .non _ _ _ (Go.setLst so e (r.append r')) rfl h⟩
  · exact h.elim
end
end DL
set_option Elab.async false
set_option linter.all false
set_option maxRecDepth 100000
set_option maxHeartbeats 4000000
namespace DL
open PySem PySem.Spec PyProof.Rows L2
section
variable {X : Cx} {y : DXw} {pos p p2 pos' apos : Pos} {e a b o i value : Expr} {es : List Expr} {x : Str} {ta : RA} {te ti to td tv : RE}

/-! ### flat values in lists and tuples -/
def fl : D → V
  | .non => .non | .bl b => .bl b | .int i => .int i | .str x => .str x | _ => .ref 0
def fb : D → Bool
  | .non => true | .bl _ => true | .int _ => true | .str _ => true | _ => false
theorem fl_of {K : PySem.W.Frag} {H : Hp} {d : D} {v : V} (h : fb d = true) (dv : DV K H d v) : v = fl d ∧ flatV v = true := by
  cases d with
  | non => cases (show v = V.non from dv); exact ⟨rfl, rfl⟩
  | bl b => cases (show v = V.bl b from dv); exact ⟨rfl, rfl⟩
  | int b => cases (show v = V.int b from dv); exact ⟨rfl, rfl⟩
  | str b => cases (show v = V.str b from dv); exact ⟨rfl, rfl⟩
  | _ => cases h
theorem fls_of {K : PySem.W.Frag} {H : Hp} : ∀ {ds : List D} {vs : List V}, ds.all fb = true → DVs K H ds vs → vs = ds.map fl ∧ vs.all flatV = true
  | [], _, _, h => by cases (show _ = [] from h); exact ⟨rfl, rfl⟩
  | d :: ds, _, f, h => by
    obtain ⟨v, ws, rfl, r, q⟩ := h
    rw [List.all_cons, Bool.and_eq_true] at f
    obtain ⟨e1, f1⟩ := fl_of f.1 r
    obtain ⟨e2, f2⟩ := fls_of f.2 q
    exact ⟨by rw [e1, e2, List.map_cons], by rw [List.all_cons, f1, f2]; rfl⟩
def inD (x : D) (xs : List D) : Bool := inV (fl x) (xs.map fl)
def dIn (n : Bool) : ROp := fun x c S R => match c with
  | .tup xs => fb x = true ∧ xs.all fb = true ∧ R (.bl (if n then !inD x xs else inD x xs)) S
  | _ => ∃ xs, RdL S c xs ∧ fb x = true ∧ xs.all fb = true ∧ R (.bl (if n then !inD x xs else inD x xs)) S
theorem dIn_of {n : Bool} {x c : D} {S : Sto} {R : D → Sto → Prop} {H : Hp} {v w : V} {Q : VK} (so : SOk X.K H S) (dx : DV X.K H x v) (dc : DV X.K H c w) (h : dIn n x c S R) (k : ∀ d S' z H', Go X.K H S H' S' → DV X.K H' d z → R d S' → Q z H') : rIn X.K n v w H Q := by
  have fin : ∀ {a : Addr} {xs : List D} {vs : List V}, w = .ref a → (SqL X.K H a vs ∨ SqT X.K H a vs) → DVs X.K H xs vs → fb x = true → xs.all fb = true → R (.bl (if n then !inD x xs else inD x xs)) S → rIn X.K n v w H Q := fun {a xs vs} e q r f1 f2 h => by
    obtain ⟨e1, g1⟩ := fl_of f1 dx
    obtain ⟨e2, g2⟩ := fls_of f2 r
    refine ⟨a, vs, e, q, g1, g2, ?_⟩
    rw [e1, e2]
    exact k (.bl (if n then !inD x xs else inD x xs)) S _ H (Go.refl so) rfl h
  cases c with
  | tup xs =>
    obtain ⟨a, vs, e, q, r⟩ := dc
    exact fin e (.inr q.sq) r h.1 h.2.1 h.2.2
  | _ =>
    obtain ⟨xs, hx, f1, f2, h⟩ := h
    obtain ⟨a, vs, e, q, r⟩ := hx.sq so dc
    exact fin e (.inl q) r f1 f2 h
theorem od_in : OpR X (compareOp .In) (lop X.K (dIn false)) := by
  intro pins s σ H v w vv ww Q I rv rw' h
  obtain ⟨x, y, S, R, dx, dy, so, h, k⟩ := h
  exact op_in_seq pins s σ H v w vv ww Q I rv rw' (dIn_of so dx dy h k)
theorem od_notin : OpR X (compareOp .NotIn) (lop X.K (dIn true)) := by
  intro pins s σ H v w vv ww Q I rv rw' h
  obtain ⟨x, y, S, R, dx, dy, so, h, k⟩ := h
  exact op_notIn_seq pins s σ H v w vv ww Q I rv rw' (dIn_of so dx dy h k)

/-! ### dicts by ints and texts -/
def dkey : Key → D
  | .inl i => .int i
  | .inr x => .str x
def keyD : D → Option Key
  | .int i => some (.inl i)
  | .str x => some (.inr x)
  | _ => none
theorem keyD_v {K : PySem.W.Frag} {H : Hp} {d : D} {v : V} {k : Key} (h : keyD d = some k) (dv : DV K H d v) : v = kV k := by
  cases d with
  | int i => cases h; exact dv
  | str i => cases h; exact dv
  | _ => cases h
def dval (kvs : List (Key × D)) (k : Key) : Option D := (kvs.find? fun kv => decide (kv.1 = k)).map (·.2)
def dput (kvs : List (Key × D)) (k : Key) (v : D) : List (Key × D) := if kvs.any (fun kv => decide (kv.1 = k)) then kvs.map (fun kv => if kv.1 = k then (kv.1, v) else kv) else kvs ++ [(k, v)]
theorem DKs.val {K : PySem.W.Frag} {H : Hp} {ds : List (Key × D)} {vs : List (Key × V)} (h : DKs K H ds vs) (k : Key) : (dval ds k).isSome = (valV vs k).isSome ∧ ∀ d, dval ds k = some d → ∃ v, valV vs k = some v ∧ DV K H d v := by
  induction h with
  | nil => exact ⟨rfl, fun _ e => by cases e⟩
  | @cons k' d v ds vs r _ ih =>
    by_cases e : k' = k
    · subst e
      refine ⟨by simp [dval, valV, List.find?_cons], fun d' h => ⟨v, by simp [valV, List.find?_cons], ?_⟩⟩
      have : d = d' := by simpa [dval, List.find?_cons] using h
      rw [← this]; exact r
    · have e1 : dval ((k', d) :: ds) k = dval ds k := by simp [dval, List.find?_cons, e]
      have e2 : valV ((k', v) :: vs) k = valV vs k := valV_neg e
      rw [e1, e2]
      exact ih
theorem DKs.any {K : PySem.W.Frag} {H : Hp} {ds : List (Key × D)} {vs : List (Key × V)} (h : DKs K H ds vs) (k : Key) : (ds.any fun kv => decide (kv.1 = k)) = vs.any fun kv => decide (kv.1 = k) := by
  induction h with
  | nil => rfl
  | cons _ _ ih => rw [List.any_cons, List.any_cons, ih]
theorem DKs.append {K : PySem.W.Frag} {H : Hp} {ds : List (Key × D)} {vs : List (Key × V)} (h : DKs K H ds vs) {k : Key} {d : D} {v : V} (r : DV K H d v) : DKs K H (ds ++ [(k, d)]) (vs ++ [(k, v)]) := by
  induction h with
  | nil => exact .cons r .nil
  | cons q _ ih => exact .cons q ih
theorem DKs.put {K : PySem.W.Frag} {H : Hp} {ds : List (Key × D)} {vs : List (Key × V)} (h : DKs K H ds vs) (k : Key) {d : D} {v : V} (r : DV K H d v) : DKs K H (dput ds k d) (putK vs k v) := by
  have m : DKs K H (ds.map fun kv => if kv.1 = k then (kv.1, d) else kv) (vs.map fun kv => if kv.1 = k then (kv.1, v) else kv) := by
    induction h with
    | nil => exact .nil
    | @cons k' d' v' ds vs q _ ih =>
      rw [List.map_cons, List.map_cons]
      by_cases e : k' = k
      · rw [if_pos e, if_pos e]; exact .cons r ih
      · rw [if_neg e, if_neg e]; exact .cons q ih
  unfold dput putK
  rw [h.any k]
  split
  · exact m
  · exact h.append r
def rDNew : RE := fun _ S Q => ∀ p, S p = none → Q (.ref p) (sup S p (.dK []))
theorem pd_dnew : PD X y (.Dict [] [] pos) rDNew := by
  refine PD.of pe_dnewK fun σ H Q h => ?_
  obtain ⟨ρ, S, R, sr, so, h, k⟩ := h
  intro p hp
  exact k (.ref p) _ _ _ (Go.newDK so.so hp .nil) rfl (h p (so.so.free hp))
def isD (S : Sto) (o k : D) (f : Addr → List (Key × D) → Key → Prop) : Prop := match o with
  | .ref a => ∃ kvs key, S a = some (.dK kvs) ∧ keyD k = some key ∧ f a kvs key
  | _ => False
def rDGet (td ti : RE) : RE := fun ρ S Q => td ρ S fun o S1 => ti ρ S1 fun k S2 => isD S2 o k fun _ kvs key => ∃ d, dval kvs key = some d ∧ Q d S2
def rDIn (n : Bool) (ti td : RE) : RE := fun ρ S Q => ti ρ S fun k S1 => td ρ S1 fun o S2 => isD S2 o k fun _ kvs key => Q (.bl (if n then !(dval kvs key).isSome else (dval kvs key).isSome)) S2
theorem isD_of {K : PySem.W.Frag} {S : Sto} {H : Hp} {o k : D} {v w : V} {f : Addr → List (Key × D) → Key → Prop} (so : SOk K H S) (dv : DV K H o v) (dw : DV K H k w) (h : isD S o k f) : ∃ a kvs vs key, v = .ref a ∧ S a = some (.dK kvs) ∧ H a = some (.dK vs) ∧ DKs K H kvs vs ∧ w = kV key ∧ f a kvs key := by
  cases o with
  | ref a =>
    obtain ⟨kvs, key, e, ek, h⟩ := h
    obtain ⟨vs, e1, r⟩ := so a _ e
    exact ⟨a, kvs, vs, key, dv, e, e1, r, keyD_v ek dw, h⟩
  | _ => exact False.elim h
theorem pd_dget (hu : X.A.units + 1 < cLine) (ho : PD X y o td) (hi : PD X y i ti) (hs : NoSl i := by exact fun _ _ => rfl) : PD X y (.Subscript o i pos) (rDGet td ti) := by
  refine PD.of (pe_dget hu ho hi hs) fun σ H Q h => ?_
  obtain ⟨ρ, S, R, sr, so, h, k⟩ := h
  refine ⟨ρ, S, _, sr, so, h, fun x S1 v H1 g1 dv h1 => ⟨ρ, S1, _, sr.go g1, so.go g1, h1, fun z S2 w H2 g2 dw h2 => ?_⟩⟩
  obtain ⟨a, kvs, vs, key, rfl, _, e1, r, rfl, d, hd, h3⟩ := isD_of g2.ok (DV.go g2 _ _ dv) dw h2
  obtain ⟨u, hu, ru⟩ := (r.val key).2 d hd
  exact ⟨a, u, rfl, hu ▸ DGet.k e1, k d S2 u H2 (g1.trans g2) ru h3⟩
theorem din_read {n : Bool} {σ : L2.St} {H : Hp} {Q : VK} (h : lE X.K y (rDIn n ti td) σ H Q) : lE X.K y ti σ H fun w H1 => lE X.K y td σ H1 fun v H2 => ∃ a o, v = .ref a ∧ DGet H2 a w o ∧ Q (.bl (if n then !o.isSome else o.isSome)) H2 := by
  obtain ⟨ρ, S, R, sr, so, h, k⟩ := h
  refine ⟨ρ, S, _, sr, so, h, fun z S1 w H1 g1 dw h1 => ⟨ρ, S1, _, sr.go g1, so.go g1, h1, fun x S2 v H2 g2 dv h2 => ?_⟩⟩
  obtain ⟨a, kvs, vs, key, rfl, _, e1, r, rfl, h3⟩ := isD_of g2.ok dv (DV.go g2 _ _ dw) h2
  refine ⟨a, _, rfl, DGet.k e1, ?_⟩
  rw [← (r.val key).1]
  exact k (.bl (if n then !(dval kvs key).isSome else (dval kvs key).isSome)) S2 _ H2 (g1.trans g2) rfl h3
theorem pd_din (hu : X.A.units + 1 < cLine) (hi : PD X y i ti) (ho : PD X y o td) (hb : behindInMarks .In o = false := by rfl) : PD X y (.Compare i [.In] [o] pos) (rDIn false ti td) := PD.of (pe_cmp (pc_din hu hi ho) hb) fun _ _ _ h => din_read (n := false) h
theorem pd_dnotin (hu : X.A.units + 1 < cLine) (hi : PD X y i ti) (ho : PD X y o td) (hb : behindInMarks .NotIn o = false := by rfl) : PD X y (.Compare i [.NotIn] [o] pos) (rDIn true ti td) := PD.of (pe_cmp (pc_dnotin hu hi ho) hb) fun _ _ _ h => din_read (n := true) h
theorem pdt_din (hu : X.A.units + 1 < cLine) (hi : PD X y i ti) (ho : PD X y o td) (hb : behindInMarks .In o = false := by rfl) : PDT X y (.Compare i [.In] [o] pos) (rTst (rDIn false ti td)) := PDT.of (pt_cmp (pc_din hu hi ho) hb) fun _ _ _ h => tst_of (fun _ _ _ h => din_read (n := false) h) h
theorem pdt_dnotin (hu : X.A.units + 1 < cLine) (hi : PD X y i ti) (ho : PD X y o td) (hb : behindInMarks .NotIn o = false := by rfl) : PDT X y (.Compare i [.NotIn] [o] pos) (rTst (rDIn true ti td)) := PDT.of (pt_cmp (pc_dnotin hu hi ho) hb) fun _ _ _ h => tst_of (fun _ _ _ h => din_read (n := true) h) h
def rDPut (td ti tv : RE) : RS := fun E ρ S => tv ρ S fun d S1 => td ρ S1 fun o S2 => ti ρ S2 fun k S3 => isD S3 o k fun a kvs key => kvs.length < sizeLine ∧ E.nx ρ (sup S3 a (.dK (dput kvs key d)))
theorem pd_dput (hu : X.A.units + 1 < cLine) (ho : PD X y o td) (hi : PD X y i ti) (hv : PD X y value tv) (hs : swapsWith value (some (.Subscript o i pos')) pos.line X.env = pure false := by rfl) : PDS X y (.Assign [.Subscript o i pos'] value pos) (rDPut td ti tv) := by
  refine PDS.of (ps_dput hu ho hi hv hs) fun D σ H h => ?_
  obtain ⟨ρ, S, E, sr, so, h, eo⟩ := h
  refine ⟨ρ, S, _, sr, so, h, fun d S1 u H1 g1 du h1 => ⟨ρ, S1, _, sr.go g1, so.go g1, h1, fun x S2 v H2 g2 dv h2 => ⟨ρ, S2, _, (sr.go g1).go g2, (so.go g1).go g2, h2, fun z S3 w H3 g3 dw h3 => ?_⟩⟩⟩
  obtain ⟨a, kvs, vs, key, rfl, e0, e1, r, rfl, hl, h4⟩ := isD_of g3.ok (DV.go g3 _ _ dv) dw h3
  have gA := g1.trans (g2.trans g3)
  have g4 := Go.setDK g3.ok e0 (r.put key (DV.go (g2.trans g3) _ _ du))
  exact ⟨a, _, rfl, DPut.k e1 (by rw [← r.length]; exact hl), eo.nx ρ _ σ _ (gA.trans g4) ((sr.go gA).go g4) h4⟩

/-! ### tuple(range(..)) -/
def rRgT (ta : RA) : RE := fun ρ S Q => ta ρ S fun ds S1 => match ds with
  | [.int j] => j ≤ 16777216 ∧ Q (.tup (rgI 0 j.toNat)) S1
  | [.int i, .int j] => (0 ≤ i ∧ i ≤ 16777216 ∧ 0 ≤ j ∧ j ≤ 16777216) ∧ Q (.tup (rgI i (j - i).toNat)) S1
  | _ => False
theorem rgI_dv {K : PySem.W.Frag} {H : Hp} {i j : Int} : DVs K H (rgI i (j - i).toNat) (rgV i j) := by
  unfold rgI rgV
  generalize (List.range (j - i).toNat) = l
  induction l with
  | nil => exact DVs.nil
  | cons a l ih => exact DVs.cons rfl ih
theorem pd_tupRg1 {ti : RE} {p q : Pos} (hc : X.calm = true) (hm : X.mg "tuple" = none) (hm2 : X.mg "range" = none) (hi : PD X y a ti) (hg : Gl X "tuple" := by rfl) (hg2 : Gl X "range" := by rfl) (na : starEach [.Call (.Name "range" q) [a] [] p2] X.env = (false, eval (.Call (.Name "range" q) [a] [] p2) X.env) :: starEach [] X.env := by rfl)
    (nb : starEach [a] X.env = (false, eval a X.env) :: starEach [] X.env := by rfl) : PD X y (.Call (.Name "tuple" p) [.Call (.Name "range" q) [a] [] p2] [] pos) (fun ρ S Q => ti ρ S fun d S1 => match d with | .int j => (0 ≤ j ∧ j ≤ 16777216) ∧ Q (.tup (rgI 0 j.toNat)) S1 | _ => False) := by
  refine PD.of (pe_tupRg hc hg hm (prg_1 hg2 hm2 hi nb) na) fun σ H Q h => ?_
  obtain ⟨ρ, S, R, sr, so, h, k⟩ := h
  refine ⟨ρ, S, _, sr, so, h, fun d S1 v H1 g dv hd => ?_⟩
  cases d with
  | int j =>
    refine ⟨j, dv, RgOk.of_le (by omega) hd.1.2 (by omega) hd.1.1, fun q hq => ?_⟩
    have g2 := Go.new (K := X.K) (o := .tup (rgV 0 j)) g.ok hq
    have e : (j - 0).toNat = j.toNat := by omega
    exact k (.tup (rgI 0 j.toNat)) S1 _ _ (g.trans g2) ⟨q, _, rfl, .inl upd_same, e ▸ rgI_dv⟩ hd.2
  | _ => exact False.elim hd
theorem pd_tupRg2 {ti tj : RE} {p q : Pos} (hc : X.calm = true) (hm : X.mg "tuple" = none) (hm2 : X.mg "range" = none) (hi : PD X y a ti) (hj : PD X y b tj) (hg : Gl X "tuple" := by rfl) (hg2 : Gl X "range" := by rfl) (na : starEach [.Call (.Name "range" q) [a, b] [] p2] X.env = (false, eval (.Call (.Name "range" q) [a, b] [] p2) X.env) :: starEach [] X.env := by rfl)
    (nb : starEach [a, b] X.env = (false, eval a X.env) :: starEach [b] X.env := by rfl) (nc : starEach [b] X.env = (false, eval b X.env) :: starEach [] X.env := by rfl) (hp : (backTo p2 (starEach [b] X.env)).any (·.1) = false := by rfl) : PD X y (.Call (.Name "tuple" p) [.Call (.Name "range" q) [a, b] [] p2] [] pos)
      (fun ρ S Q => ti ρ S fun d S1 => tj ρ S1 fun f S2 => match d, f with | .int i, .int j => (0 ≤ i ∧ i ≤ 16777216 ∧ 0 ≤ j ∧ j ≤ 16777216) ∧ Q (.tup (rgI i (j - i).toNat)) S2 | _, _ => False) := by
  refine PD.of (pe_tupRg hc hg hm (prg_2 hg2 hm2 hi hj nb nc hp) na) fun σ H Q h => ?_
  obtain ⟨ρ, S, R, sr, so, h, k⟩ := h
  refine ⟨ρ, S, _, sr, so, h, fun d S1 v H1 g1 dv hd => ⟨ρ, S1, _, sr.go g1, so.go g1, hd, fun f S2 w H2 g2 dw hf => ?_⟩⟩
  cases d <;> cases f <;> first | exact False.elim hf | skip
  case int.int i j =>
    cases (show v = V.int i from dv); cases (show w = V.int j from dw)
    refine ⟨i, j, rfl, rfl, RgOk.of_le hf.1.1 hf.1.2.2.2 hf.1.2.1 hf.1.2.2.1, fun q hq => ?_⟩
    have g3 := Go.new (K := X.K) (o := .tup (rgV i j)) g2.ok hq
    exact k (.tup (rgI i (j - i).toNat)) S2 _ _ (g1.trans (g2.trans g3)) ⟨q, _, rfl, .inl upd_same, rgI_dv⟩ hf.2
/-! ### x.bit_length(), factorial, comb -/
def rBits (te : RE) : RE := fun ρ S Q => te ρ S fun d S1 => match d with
  | .int i => Q (.int (Builtin.Int.intBits i : Nat)) S1
  | _ => False
theorem pd_bits (ho : PD X y o te) (hbase : attributeBase o "bit_length" X.env (eval o X.env) = eval o X.env := by rfl) (hline : (apos.endLine == pos.line) = true := by rfl) : PD X y (.Call (.Attribute o "bit_length" apos) [] [] pos) (rBits te) := by
  refine PD.of (pe_bits ho hbase hline) fun σ H Q h => ?_
  obtain ⟨ρ, S, R, sr, so, h, k⟩ := h
  refine ⟨ρ, S, _, sr, so, h, fun d S1 v H1 g dv hd => ?_⟩
  cases d with
  | int i => exact ⟨i, dv, k (.int (Builtin.Int.intBits i : Nat)) S1 _ H1 g rfl hd⟩
  | _ => exact False.elim hd
def dFact : RCall := fun ds S Q => match ds with
  | [.int i] => (0 ≤ i ∧ i ≤ 20000) ∧ Q (.int ((Builtin.Math.factorialNat i.toNat : Nat) : Int)) S
  | _ => False
theorem cd_factorial : CallR X (.builtin "math.factorial") (lcl X.K dFact) := by
  intro pins s σ H vs us Q I rv h
  obtain ⟨ds, S, R, dv, so, h, k⟩ := h
  unfold dFact at h
  split at h
  · rename_i i
    obtain ⟨v, rfl, r⟩ := dvs1 dv
    cases (show v = V.int i from r)
    obtain ⟨u, rfl, t, rfl⟩ := vals1 rv
    exact PySem.W.mc_factorial h.1.1 h.1.2 fun _ => ⟨.int _, H, I.tok _, ⟨_, rfl⟩, k (.int _) S _ H (Go.refl so) rfl h.2⟩
  · exact h.elim
def dComb : RCall := fun ds S Q => match ds with
  | [.int i, .int j] => (0 ≤ i ∧ 0 ≤ j ∧ i ≤ 9000) ∧ Q (.int (PySem.W.mcComb i j)) S
  | _ => False
theorem cd_comb : CallR X (.builtin "math.comb") (lcl X.K dComb) := by
  intro pins s σ H vs us Q I rv h
  obtain ⟨ds, S, R, dv, so, h, k⟩ := h
  unfold dComb at h
  split at h
  · rename_i i j
    obtain ⟨v, w, rfl, r1, r2⟩ := dvs2 dv
    cases (show v = V.int i from r1)
    cases (show w = V.int j from r2)
    obtain ⟨u, u', rfl, ⟨t, rfl⟩, ⟨t', rfl⟩⟩ := vals2 rv
    exact PySem.W.mc_comb h.1.1 h.1.2.1 (by have := h.1.2.2; omega) (.inr (by have := h.1.2.2; omega)) fun _ => ⟨.int _, H, I.tok _, ⟨_, rfl⟩, k (.int _) S _ H (Go.refl so) rfl h.2⟩
  · exact h.elim

/-! ### calls with keywords -/
def rCallK (y : DXw) (spec : DSp) (gD : List D → List D → List D) (ta tk : RA) : RE := fun ρ S Q => ta ρ S fun ds S1 => tk ρ S1 fun zs S2 => spec (gD ds zs) S2 Q fun C d S' => y.d C d ρ S'
structure KBD (K : PySem.W.Frag) (fd : FuncData) (ps ks : List Str) (g : List Value → List Value → List Value) (gD : List D → List D → List D) : Prop where
  to : ∀ (s : Shared) (us ws : List Value), K.In s.heap → (g us ws).length = ps.length → BindsTo s fd ⟨us, ks.zip ws⟩ (ps.zip (g us ws))
  rel : ∀ {H : Hp} {ds zs : List D} {vs ws : List V} {us xs : List Value}, DVs K H ds vs → DVs K H zs ws → Vals vs us → Vals ws xs → ∃ qs, DVs K H (gD ds zs) qs ∧ Vals qs (g us xs)
variable {k : Nat} {f : Addr} {fd : FuncData} {ps ks : List Str} {spec : DSp} {kws : List Keyword} {g : List Value → List Value → List Value} {gD : List D → List D → List D}
theorem run_K {pins : List (Addr × Obj)} {σ : L2.St} {H : Hp} {s : Shared} {Q : VK} {us ws : List Value} {qs : List V} (tk : Takes X y.W) (G : FnOk X.prog X.w X.K X.mg X.base (L2.CX X.prog X.w) k f fd ps (toSp X.K spec)) (hr : Room k X.A) (hb : KBD X.K fd ps ks g gD)
    (I : Inv X pins σ H s) (r : Vals qs (g us ws)) (h : toSp X.K spec qs H Q (WE y.W σ)) : wpAny (model X.prog X.w) X.A (call (.ref f) us (ks.zip ws)) (EP X pins σ Q) X.xe s := by
  have hl : (g us ws).length = ps.length := by rw [← r.length]; exact G.len _ _ _ _ h
  refine wpAny_call (codeAny_mono (G.run X.A X.stack s H ⟨us, ks.zip ws⟩ (g us ws) qs Q _ hr I.env0 (hb.to s us ws I.kIn hl) r h) fun r s' hq => ?_)
  cases r with
  | error e => exact passAt tk σ pins H s e s' I hq
  | ok fl =>
    cases fl with
    | ret u => exact I.after hq
    | next => exact False.elim hq
    | brk => exact False.elim hq
    | cont => exact False.elim hq
theorem pd_callK0 {tkk : RA} {n : Nat} (tk : Takes X y.W) (G : FnOk X.prog X.w X.K X.mg X.base (L2.CX X.prog X.w) k f fd ps (toSp X.K spec)) (hr : Room k X.A) (hm : X.mg x = some (.ref f)) (hk : PySem.W.keepIn X.K (.ref f) = true) (hb : KBD X.K fd ps ks g gD) (hkw : RdK X y kws n tkk)
    (hg : Gl X x := by rfl) (hall : (backToKw pos (keywordEach kws X.env)).all (·.1.isSome) = true := by rfl) (hks : (backToKw pos (keywordEach kws X.env)).filterMap (·.1) = ks := by rfl)
    (hdb : (x == ("__debug__" : Str)) = false := by decide) (hpl : ((backTo pos (starEach [] X.env)).any (·.1) || (backToKw pos (keywordEach kws X.env)).any (·.1.isNone)) = false := by rfl) :
    PD X y (.Call (.Name x p) [] kws pos) (rCallK y spec gD rNil tkk) := by
  refine ⟨fun pins s σ H Q I h => ?_⟩
  obtain ⟨ρ, S, R, sr, so, h, c⟩ := h
  refine wpAny_Call_Name_kw (ld_glob I hg hm ?_ hdb)
  refine PySem.W.callWith_KW0 (h₀ := X.base) I.ok.mod.kin hk hall ?_ hpl
  have hkr := hkw.run pos pins s σ H (fun vs H1 => ∃ zs S1, Go X.K H S H1 S1 ∧ DVs X.K H1 zs vs ∧ spec (gD [] zs) S1 R fun C d S' => y.d C d ρ S') I ⟨ρ, S, _, sr, so, h, fun zs S1 vs H1 g1 dvs _ h1 => ⟨zs, S1, g1, dvs, h1⟩⟩
  refine thn hkr fun ws s2 ⟨vs, H2, I2, rz, zs, S2, g2, dvs, h2⟩ => ⟨I2.kIn, ?_⟩
  rw [hks]
  obtain ⟨qs, hq1, hq2⟩ := hb.rel (H := H2) (ds := []) (vs := []) (us := []) DVs.nil dvs .nil rz
  exact run_K tk G hr hb I2 hq2 ⟨gD [] zs, S2, R, _, hq1, g2.ok, h2, fun d S3 v H3 g3 dv q => c d S3 v H3 (g2.trans g3) dv q, fun C d S3 dx w H3 g3 e dw q => (so.go g2).xo C d ρ S3 dx w σ H3 g3 (sr.go (g2.trans g3)) e dw q⟩
theorem pd_callK {tkk : RA} {n : Nat} (tk : Takes X y.W) (G : FnOk X.prog X.w X.K X.mg X.base (L2.CX X.prog X.w) k f fd ps (toSp X.K spec)) (hr : Room k X.A) (hm : X.mg x = some (.ref f)) (hk : PySem.W.keepIn X.K (.ref f) = true) (hb : KBD X.K fd ps ks g gD) (ha : PDA X y (e :: es) ta) (hkw : RdK X y kws n tkk)
    (hg : Gl X x := by rfl) (hall : (backToKw pos (keywordEach kws X.env)).all (·.1.isSome) = true := by rfl) (hks : (backToKw pos (keywordEach kws X.env)).filterMap (·.1) = ks := by rfl)
    (hdb : (x == ("__debug__" : Str)) = false := by decide) (he : starEach (e :: es) X.env = (false, eval e X.env) :: starEach es X.env := by rfl) (hpl : ((backTo pos (starEach (e :: es) X.env)).any (·.1) || (backToKw pos (keywordEach kws X.env)).any (·.1.isNone)) = false := by rfl) :
    PD X y (.Call (.Name x p) (e :: es) kws pos) (rCallK y spec gD ta tkk) := by
  refine ⟨fun pins s σ H Q I h => ?_⟩
  obtain ⟨ρ, S, R, sr, so, h, c⟩ := h
  refine wpAny_Call_Name_kw (ld_glob I hg hm ?_ hdb)
  have har := ha.run pos pins s σ H (fun vs H1 => ∃ ds S1, Go X.K H S H1 S1 ∧ DVs X.K H1 ds vs ∧ tkk ρ S1 fun zs S2 => spec (gD ds zs) S2 R fun C d S' => y.d C d ρ S') I ⟨ρ, S, _, sr, so, h, fun ds S1 vs H1 g1 dvs _ h1 => ⟨ds, S1, g1, dvs, h1⟩⟩
  refine PySem.W.callWith_KW (h₀ := X.base) I.ok.mod.kin hk hall (thn har fun us s1 ⟨vs, H1, I1, r, ds, S1, g1, dv1, h1⟩ => ?_) hpl he
  have hkr := hkw.run pos pins s1 σ H1 (fun vs H2 => ∃ zs S2, Go X.K H1 S1 H2 S2 ∧ DVs X.K H2 zs vs ∧ spec (gD ds zs) S2 R fun C d S' => y.d C d ρ S') I1 ⟨ρ, S1, _, sr.go g1, so.go g1, h1, fun zs S2 vs H2 g2 dvs _ h2 => ⟨zs, S2, g2, dvs, h2⟩⟩
  refine thn hkr fun ws s2 ⟨ws', H2, I2, rz, zs, S2, g2, dv2, h2⟩ => ⟨I2.kIn, ?_⟩
  rw [hks]
  obtain ⟨qs, hq1, hq2⟩ := hb.rel (H := H2) (DVs.go g2 _ _ dv1) dv2 r rz
  have gA := g1.trans g2
  exact run_K tk G hr hb I2 hq2 ⟨gD ds zs, S2, R, _, hq1, gA.ok, h2, fun d S3 v H3 g3 dv q => c d S3 v H3 (gA.trans g3) dv q, fun C d S3 dx w H3 g3 e dw q => (so.go gA).xo C d ρ S3 dx w σ H3 g3 (sr.go (gA.trans g3)) e dw q⟩
end
end DL
set_option Elab.async false
set_option linter.all false
set_option maxRecDepth 100000
set_option maxHeartbeats 4000000
namespace DL
open PySem PySem.Spec PyProof.Rows L2
/-! ### fractions -/
def fr (q : Rat) : D := .tup [.int q.num, .int (q.den : Int)]
theorem low_num {t b : Int} (hb : 0 < b) : t / ((Nat.gcd t.natAbs b.natAbs : Nat) : Int) = ((t : Rat) / (b : Rat)).num := by
  rw [← Rat.divInt_eq_div, Rat.num_divInt, Int.sign_eq_one_of_pos hb, Int.one_mul, Int.gcd, Nat.gcd_comm]
theorem low_den {t b : Int} (hb : 0 < b) : b / ((Nat.gcd t.natAbs b.natAbs : Nat) : Int) = (((t : Rat) / (b : Rat)).den : Int) := by
  rw [← Rat.divInt_eq_div, Rat.den_divInt, if_neg (by omega), Int.gcd, Nat.gcd_comm]
  have : (b.natAbs : Int) = b := by omega
  rw [Int.natCast_ediv, this]
theorem low_fr {t b : Int} (hb : 0 < b) : D.tup [.int (t / ((Nat.gcd t.natAbs b.natAbs : Nat) : Int)), .int (b / ((Nat.gcd t.natAbs b.natAbs : Nat) : Int))] = fr ((t : Rat) / (b : Rat)) := by
  unfold fr
  rw [← low_num hb, ← low_den hb]
theorem den_pos' (q : Rat) : (0 : Int) < (q.den : Int) := by have := q.den_pos; omega
theorem num_div_den' (q : Rat) : ((q.num : Int) : Rat) / ((q.den : Int) : Rat) = q := by
  rw [← Rat.divInt_eq_div]; exact Rat.num_divInt_den q
theorem mul_fr (a b : Rat) : (((a.num * b.num : Int) : Rat) / (((a.den : Int) * (b.den : Int) : Int) : Rat)) = a * b := by
  have ha := num_div_den' a
  have hb := num_div_den' b
  have da : ((a.den : Int) : Rat) ≠ 0 := by have := a.den_nz; simpa using this
  have db : ((b.den : Int) : Rat) ≠ 0 := by have := b.den_nz; simpa using this
  rw [Rat.intCast_mul, Rat.intCast_mul]
  generalize ((a.num : Int) : Rat) = x at *
  generalize ((b.num : Int) : Rat) = y at *
  generalize ((a.den : Int) : Rat) = u at *
  generalize ((b.den : Int) : Rat) = v at *
  subst ha hb
  grind
theorem add_fr (a b : Rat) : (((a.num * (b.den : Int) + b.num * (a.den : Int) : Int) : Rat) / (((a.den : Int) * (b.den : Int) : Int) : Rat)) = a + b := by
  have ha := num_div_den' a
  have hb := num_div_den' b
  have da : ((a.den : Int) : Rat) ≠ 0 := by have := a.den_nz; simpa using this
  have db : ((b.den : Int) : Rat) ≠ 0 := by have := b.den_nz; simpa using this
  rw [Rat.intCast_add, Rat.intCast_mul, Rat.intCast_mul, Rat.intCast_mul]
  generalize ((a.num : Int) : Rat) = x at *
  generalize ((b.num : Int) : Rat) = y at *
  generalize ((a.den : Int) : Rat) = u at *
  generalize ((b.den : Int) : Rat) = v at *
  subst ha hb
  grind
/-! ### sizes -/
theorem gcd_w {t b : Int} (hb : 0 < b) {n : Nat} (h : b.natAbs < 2 ^ n) (h0 : 0 < n) (h9 : n ≤ 9000) (z : Int) : CDivW z ((Nat.gcd t.natAbs b.natAbs : Nat) : Int) := by
  have h1 : 0 < Nat.gcd t.natAbs b.natAbs := Nat.gcd_pos_of_pos_right _ (by omega)
  have h2 : Nat.gcd t.natAbs b.natAbs ≤ b.natAbs := Nat.gcd_le_right _ (by omega)
  exact wide_div (b := n) (by omega) (by rw [Int.natAbs_natCast]; omega) h0 h9
theorem small_r {i j : Int} (h1 : -(2 ^ 64) < j) (h2 : j < 2 ^ 64) : CMulW i j ∨ CMul i j := .inr (.inr ⟨h1, h2⟩)
theorem small_l {i j : Int} (h1 : -(2 ^ 64) < i) (h2 : i < 2 ^ 64) : CMulW i j ∨ CMul i j := .inr (.inl ⟨h1, h2⟩)
theorem div_s {i j : Int} (h : 0 < j) (hb : j < 2 ^ 8000) : CDivW i j := wide_div (b := 8000) h (by omega) (by decide) (by decide)
end DL
set_option Elab.async false
set_option linter.all false
set_option maxRecDepth 100000
set_option maxHeartbeats 4000000
namespace DL
open PySem PySem.Spec PyProof.Rows L2
/-! ### loops -/
theorem for_rg {lo : Int} {n : Nat} {g : RG} {tb : RS} {E : DEnds} {ρ : Ro} {S : Sto} (W : Nat → Ro → Sto → Prop) (h0 : W 0 ρ S)
    (hs : ∀ (i : Nat) ρ' S', i < n → W i ρ' S' → g (.int (lo + (i : Int))) ρ' S' fun ρ2 S2 => tb { E with nx := W (i + 1), ct := W (i + 1), bk := E.nx } ρ2 S2) (hd : ∀ ρ' S', W n ρ' S' → E.nx ρ' S') :
    ∃ W : Nat → Ro → Sto → Prop, W 0 ρ S ∧ ∀ i ρ' S', W i ρ' S' → (fun (_ : Sto) => True) S' ∧
      (∀ x, (rgI lo n)[i]? = some x → g x ρ' S' fun ρ2 S2 => tb { E with nx := W (i + 1), ct := W (i + 1), bk := E.nx } ρ2 S2) ∧ (i = (rgI lo n).length → E.nx ρ' S') := by
  refine ⟨W, h0, fun i ρ' S' h => ⟨trivial, fun x hx => ?_, fun e => ?_⟩⟩
  · obtain ⟨hi, rfl⟩ := rgI_inv hx
    exact hs i ρ' S' hi h
  · rw [rgI_len] at e
    subst e
    exact hd ρ' S' h
theorem for_xs {xs : List D} {src : Sto → Prop} {g : RG} {tb : RS} {E : DEnds} {ρ : Ro} {S : Sto} (W : Nat → Ro → Sto → Prop) (h0 : W 0 ρ S) (hq : ∀ i ρ' S', W i ρ' S' → src S')
    (hs : ∀ (i : Nat) x ρ' S', xs[i]? = some x → W i ρ' S' → g x ρ' S' fun ρ2 S2 => tb { E with nx := W (i + 1), ct := W (i + 1), bk := E.nx } ρ2 S2) (hd : ∀ ρ' S', W xs.length ρ' S' → E.nx ρ' S') :
    ∃ W : Nat → Ro → Sto → Prop, W 0 ρ S ∧ ∀ i ρ' S', W i ρ' S' → src S' ∧
      (∀ x, xs[i]? = some x → g x ρ' S' fun ρ2 S2 => tb { E with nx := W (i + 1), ct := W (i + 1), bk := E.nx } ρ2 S2) ∧ (i = xs.length → E.nx ρ' S') :=
  ⟨W, h0, fun i ρ' S' h => ⟨hq i ρ' S' h, fun x hx => hs i x ρ' S' hx h, fun e => by subst e; exact hd ρ' S' h⟩⟩
/-- a comprehension whose elements are values f i x, the store but growing -/
def Ext (S S' : Sto) : Prop := ∀ a c, S a = some c → S' a = some c
theorem Ext.refl (S : Sto) : Ext S S := fun _ _ h => h
theorem Ext.trans {S S1 S2 : Sto} (a : Ext S S1) (b : Ext S1 S2) : Ext S S2 := fun c o h => b c o (a c o h)
theorem Ext.new {S : Sto} {p : Addr} (h : S p = none) (c : Cell) : Ext S (sup S p c) := fun a o e => by
  rw [sup_ne (fun z => ?_)]
  · exact e
  · subst z; rw [h] at e; cases e
theorem Ext.free {S S' : Sto} (e : Ext S S') {p : Addr} (h : S' p = none) : S p = none := by
  cases q : S p with
  | none => rfl
  | some o => rw [e p o q] at h; cases h
theorem Ext.rd {S S' : Sto} (e : Ext S S') {d : D} {xs : List D} (h : RdL S d xs) : RdL S' d xs := by
  rcases h with ⟨a, rfl, h⟩ | rfl
  · exact .inl ⟨a, rfl, e _ _ h⟩
  · exact .inr rfl
mutual
theorem Pat.imp : ∀ (p : Pat) (d : D) (ρ : Ro) (k k' : Ro → Prop), (∀ ρ', k ρ' → k' ρ') → Pat.put p d ρ k → Pat.put p d ρ k'
  | .n i, d, ρ, k, k', m, h => m _ h
  | .t ps, d, ρ, k, k', m, h => by
    cases d with
    | tup xs => exact Pat.imps ps xs ρ k k' m h
    | _ => exact False.elim h
theorem Pat.imps : ∀ (ps : List Pat) (ds : List D) (ρ : Ro) (k k' : Ro → Prop), (∀ ρ', k ρ' → k' ρ') → Pat.puts ps ds ρ k → Pat.puts ps ds ρ k'
  | [], ds, ρ, k, k', m, h => by
    cases ds with
    | nil => exact m _ h
    | cons _ _ => exact False.elim h
  | p :: ps, ds, ρ, k, k', m, h => by
    cases ds with
    | nil => exact False.elim h
    | cons d ds => exact Pat.imp p d ρ _ _ (fun ρ' h => Pat.imps ps ds ρ' k k' m h) h
end
def WM (n : Nat) (f : Nat → D) (S : Sto) : Nat → List D → Sto → Prop := fun i acc S' => i ≤ n ∧ acc = (List.range i).map f ∧ Ext S S'
theorem lc_rgm {lo : Int} {n : Nat} {p : Pat} {tt : RT} {te : RE} {vs : List Nat} {ρ : Ro} {S : Sto} {G : Addr → Sto → List D → Prop} (f : Nat → D)
    (hs : ∀ (i : Nat) acc S', i < n → WM n f S i acc S' → Pat.put p (.int (lo + (i : Int))) (dwipe ρ vs) fun ρ2 => tt ρ2 S' fun b S3 => IFB b (te ρ2 S3 fun d S4 => acc.length < sizeLine ∧ WM n f S (i + 1) (acc ++ [d]) S4) (WM n f S (i + 1) acc S3))
    (hd : ∀ S' q, Ext S S' → S' q = none → G q S' ((List.range n).map f)) :
    ∃ W : Nat → List D → Sto → Prop, W 0 [] S ∧ ∀ i acc S', W i acc S' → (fun (_ : Sto) => True) S' ∧
      (∀ x, (rgI lo n)[i]? = some x → Pat.put p x (dwipe ρ vs) fun ρ2 => tt ρ2 S' fun b S3 => IFB b (te ρ2 S3 fun d S4 => acc.length < sizeLine ∧ W (i + 1) (acc ++ [d]) S4) (W (i + 1) acc S3)) ∧
      (i = (rgI lo n).length → ∀ p, S' p = none → G p S' acc) := by
  refine ⟨WM n f S, ⟨Nat.zero_le _, by simp, Ext.refl S⟩, fun i acc S' w => ⟨trivial, fun x hx => ?_, fun h q hq => ?_⟩⟩
  · obtain ⟨hi, rfl⟩ := rgI_inv hx
    exact hs i acc S' hi w
  · rw [rgI_len] at h
    subst h
    obtain ⟨_, rfl, e⟩ := w
    exact hd S' q e hq
theorem lc_leaf {n i : Nat} {f : Nat → D} {S S' S4 : Sto} {acc : List D} {d : D} (hi : i < n) (w : WM n f S i acc S') (hn : n ≤ sizeLine) (hd : d = f i) (he : Ext S' S4) : acc.length < sizeLine ∧ WM n f S (i + 1) (acc ++ [d]) S4 := by
  obtain ⟨_, rfl, e⟩ := w
  refine ⟨by simp; omega, hi, ?_, e.trans he⟩
  rw [List.range_succ, List.map_append, hd]
  rfl
/-- over the items of a list -/
def WL (xs : List D) (f : D → D) (S : Sto) : Nat → List D → Sto → Prop := fun i acc S' => i ≤ xs.length ∧ acc = (xs.take i).map f ∧ Ext S S'
theorem lc_xsm {xs : List D} {src : Sto → Prop} {p : Pat} {tt : RT} {te : RE} {vs : List Nat} {ρ : Ro} {S : Sto} {G : Addr → Sto → List D → Prop} (f : D → D) (hq : ∀ S', Ext S S' → src S')
    (hs : ∀ (i : Nat) x acc S', xs[i]? = some x → WL xs f S i acc S' → Pat.put p x (dwipe ρ vs) fun ρ2 => tt ρ2 S' fun b S3 => IFB b (te ρ2 S3 fun d S4 => acc.length < sizeLine ∧ WL xs f S (i + 1) (acc ++ [d]) S4) (WL xs f S (i + 1) acc S3))
    (hd : ∀ S' q, Ext S S' → S' q = none → G q S' (xs.map f)) :
    ∃ W : Nat → List D → Sto → Prop, W 0 [] S ∧ ∀ i acc S', W i acc S' → src S' ∧
      (∀ x, xs[i]? = some x → Pat.put p x (dwipe ρ vs) fun ρ2 => tt ρ2 S' fun b S3 => IFB b (te ρ2 S3 fun d S4 => acc.length < sizeLine ∧ W (i + 1) (acc ++ [d]) S4) (W (i + 1) acc S3)) ∧
      (i = xs.length → ∀ p, S' p = none → G p S' acc) := by
  refine ⟨WL xs f S, ⟨Nat.zero_le _, by simp, Ext.refl S⟩, fun i acc S' w => ⟨hq S' w.2.2, fun x hx => hs i x acc S' hx w, fun h q hq => ?_⟩⟩
  subst h
  obtain ⟨_, rfl, e⟩ := w
  rw [List.take_length]
  exact hd S' q e hq
theorem lc_leafL {xs : List D} {i : Nat} {f : D → D} {S S' S4 : Sto} {acc : List D} {d x : D} (hx : xs[i]? = some x) (w : WL xs f S i acc S') (hn : xs.length ≤ sizeLine) (hd : d = f x) (he : Ext S' S4) : acc.length < sizeLine ∧ WL xs f S (i + 1) (acc ++ [d]) S4 := by
  obtain ⟨_, rfl, e⟩ := w
  have hi : i < xs.length := (List.getElem?_eq_some_iff.mp hx).1
  refine ⟨by simp; omega, hi, ?_, e.trans he⟩
  rw [List.take_succ, hx, List.map_append, hd]
  rfl
end DL
set_option Elab.async false
set_option linter.all false
set_option maxRecDepth 100000
set_option maxHeartbeats 4000000
namespace DL
open PySem PySem.Spec PyProof.Rows L2
section
variable {X : Cx} {y : DXw} {st : Stmt} {rest : List Stmt} {t u : RS} {e : Expr} {te : RE} {pos : Pos}
/-- a, b, c = x, y, z with plain local names -/
def rPar3 (i j l : Nat) (ta : RA) : RS := fun E ρ S => ta ρ S fun ds S1 => match ds with
  | [d, e, f] => E.nx (((ρ.set i (some d)).set j (some e)).set l (some f)) S1
  | _ => False
theorem pd_par3 (i j l : Nat) {x z w : Str} {a b c : Expr} {ta : RA} {px py pz pt pos : Pos} {kt k2 pt2} (hc : X.calm = true) (hN : X.N.Nodup) (ha : PDA X y [a, b, c] ta)
    (hw : swappedStores [.Tuple [.Name x px, .Name z py, .Name w pz] kt pt] (.Tuple [a, b, c] k2 pt2) X.env = pure (some [x, z, w]))
    (hi : X.N[i]? = some x := by rfl) (hj : X.N[j]? = some z := by rfl) (hl : X.N[l]? = some w := by rfl) (hij : i ≠ j := by decide) (hil : i ≠ l := by decide) (hjl : j ≠ l := by decide)
    (hx : X.env.scope.names.lookup x = some .local := by rfl) (hy : X.env.scope.names.lookup z = some .local := by rfl) (hz : X.env.scope.names.lookup w = some .local := by rfl)
    (hs : swapsWithSole [.Tuple [.Name x px, .Name z py, .Name w pz] kt pt] (.Tuple [a, b, c] k2 pt2) pos.line X.env = pure false := by rfl) :
    PDS X y (.Assign [.Tuple [.Name x px, .Name z py, .Name w pz] kt pt] (.Tuple [a, b, c] k2 pt2) pos) (rPar3 i j l ta) := PDS.of (ps_par3 hc hN hi hj hl hij hil hjl hx hy hz ha hw hs) fun D σ H h => by
  obtain ⟨ρ, S, E, sr, so, h, eo⟩ := h
  refine ⟨ρ, S, _, sr, so, h, fun ds S1 vs H1 g1 dvs hn h1 => ?_⟩
  match ds, dvs, h1 with
  | [d, e, f], dvs, h1 =>
    obtain ⟨v, ws, rfl, dv1, v2, ws2, rfl, dv2, v3, ws3, rfl, dv3, q⟩ := dvs
    cases (show ws3 = [] from q)
    exact ⟨v, v2, v3, rfl, eo.nx _ S1 _ H1 g1 ((((sr.go g1).set dv1 i).set dv2 j).set dv3 l) h1⟩
  | [], _, h1 => exact h1.elim
  | [_], _, h1 => exact h1.elim
  | [_, _], _, h1 => exact h1.elim
  | _ :: _ :: _ :: _ :: _, _, h1 => exact h1.elim
end

/-! ### a def whose garbage is dropped -/
theorem Go.less {K : PySem.W.Frag} {H H' : Hp} {S S' S2 : Sto} (g : Go K H S H' S') (e : Ext S2 S') : Go K H S H' S2 :=
  ⟨g.ok0, fun a c h => g.ok a c (e a c h), g.frame, fun a o h1 h2 => by
    cases q : S2 a with
    | none => rfl
    | some c => exact absurd (e a c q) (by rw [g.ex a o h1 h2]; exact fun z => by cases z)⟩
theorem fnE {P : Program} {w : World} {K : PySem.W.Frag} {mg : Str → Option Value} {base : Heap} {x qual : Str} {st : Stmt} {f : Addr} {fd : FuncData} {N ps : List Str} {k : Nat} {sp : DSp} (F : Fun K x qual st f fd) (S : FnScope N ps (defScope st))
    (len : ∀ ds S Q E, sp ds S Q E → ds.length = ps.length)
    (hbody : ∀ (cdv : Value) (A : Around) (outer : List Env) (s : Shared) (H : Hp) (E : XK) (RX : Addr → D → Sto → Prop), Room k (A.deeper (envOfC qual (defScope st) s.heap.objs.size f cdv)) →
      ∃ t, PDSs (cxOf (L2.CX P w) P w K mg base N qual (defScope st) f cdv A outer s H E) (yOf E RX) (defBody st) t ∧ ∀ ds S Q, sp ds S Q RX → t { nx := fun _ S' => ∃ S2, Ext S2 S' ∧ Q .non S2, rt := fun d S' => ∃ S2, Ext S2 S' ∧ Q d S2 } (startD N ds) S) :
    FnOk P w K mg base (L2.CX P w) (k + 1) f fd ps (toSp K sp) := by
  refine F.okX S (fun vs H Q E h => ?_) (fun cdv A outer s H vs Q E hr h => ?_)
  · obtain ⟨ds, S, R, RX, dvs, _, h, _⟩ := h
    rw [← dvs.length]
    exact len _ _ _ _ h
  · obtain ⟨ds, S, R, RX, dvs, so, h, k1, k2⟩ := h
    obtain ⟨t, ht, hq⟩ := hbody cdv A outer s H E RX hr
    refine ⟨_, ht, startD N ds, S, _, start_srv dvs, ⟨so, fun C d ρ S' dx w' σ H' g _ e dv q => k2 C d S' dx w' H' g e dv q⟩, hq ds S R h, ?_⟩
    exact ⟨fun ρ S' σ H' g _ ⟨S2, e, q⟩ => k1 .non S2 .non H' (g.less e) rfl q, fun d S' v H' g dv ⟨S2, e, q⟩ => k1 d S2 v H' (g.less e) dv q, fun _ _ _ _ _ _ z => z, fun _ _ _ _ _ _ z => z⟩
theorem fnok0 {P : Program} {w : World} {K : PySem.W.Frag} {mg : Str → Option Value} {base : Heap} {f : Addr} {fd : FuncData} {ps : List Str} {k : Nat} : FnOk P w K mg base (L2.CX P w) k f fd ps (toSp K fun _ _ _ _ => False) :=
  ⟨fun _ _ _ _ ⟨_, _, _, _, _, _, h, _⟩ => h.elim, fun _ _ _ _ _ _ _ _ _ _ _ _ _ ⟨_, _, _, _, _, _, h, _⟩ => h.elim⟩
/-! ### told and due -/
def cellsD (S : Sto) : D → Option (List D)
  | .ref a => match S a with
    | some (.lst xs) => some xs
    | _ => none
  | .fro xs => some xs
  | _ => none
def sameD (S : Sto) : Nat → D → D → Prop
  | 0, _, _ => False
  | _ + 1, told, .non => told = .non
  | _ + 1, told, .bl b => told = .bl b
  | _ + 1, told, .int i => told = .int i
  | _ + 1, told, .str x => told = .str x
  | n + 1, told, .tup xs => ∃ ys, told = .tup ys ∧ ys.length = xs.length ∧ xs.length < 1000000 ∧ ∀ (i : Nat) y x, ys[i]? = some y → xs[i]? = some x → sameD S n y x
  | n + 1, told, due => ∃ xs ys, RdL S due xs ∧ RdL S told ys ∧ ys.length = xs.length ∧ xs.length < 1000000 ∧ ∀ (i : Nat) y x, ys[i]? = some y → xs[i]? = some x → sameD S n y x
def sp_same (n : Nat) : DSp := fun ds S Q _ => ∃ told due, ds = [told, due] ∧ sameD S n told due ∧ Q (.bl true) S
theorem cut_to {xs : List D} {r : Nat} (h : r ≤ xs.length) : cutD xs none (some (r : Int)) = xs.take r := by
  unfold cutD
  rw [HT.sIx_none, HT.sIx_nat, Nat.min_eq_left h]
  rfl
theorem cut_from {xs : List D} {r : Nat} (h : r ≤ xs.length) : cutD xs (some (r : Int)) none = xs.drop r := by
  unfold cutD
  rw [HT.sIx_none, HT.sIx_nat, Nat.min_eq_left h, List.take_of_length_le (by simp)]
theorem take_get {xs : List D} {r j : Nat} {x : D} (h : (xs.take r)[j]? = some x) : xs[j]? = some x := by
  rw [List.getElem?_take] at h
  split at h
  · exact h
  · cases h
theorem drop_get {xs : List D} {r j : Nat} {x : D} (h : (xs.drop r)[j]? = some x) : xs[r + j]? = some x := by
  rw [List.getElem?_drop] at h
  exact h
theorem Ext.wr {S S' : Sto} {p : Addr} {c : Cell} (e : Ext S S') (h : S p = none) : Ext S (sup S' p c) := fun a o q => by
  rw [sup_ne (fun z => ?_)]
  · exact e a o q
  · subst z; rw [h] at q; cases q

/-! ### calls with keywords: what goes where -/
def gk {α : Type} (n m : Nat) (pm : List Nat) (us ws : List α) : List α := if us.length = n ∧ ws.length = m then pm.filterMap fun i => (us ++ ws)[i]? else []
theorem gk_rel {K : PySem.W.Frag} {n m : Nat} {pm : List Nat} {H : Hp} {ds zs : List D} {vs ws : List V} {us xs : List Value} (h1 : DVs K H ds vs) (h2 : DVs K H zs ws) (r1 : Vals vs us) (r2 : Vals ws xs) :
    ∃ qs, DVs K H (gk n m pm ds zs) qs ∧ Vals qs (gk n m pm us xs) := by
  have l1 := h1.length
  have l2 := h2.length
  have l3 := r1.length
  have l4 := r2.length
  by_cases c : ds.length = n ∧ zs.length = m
  · refine ⟨pm.filterMap fun i => (vs ++ ws)[i]?, ?_, ?_⟩
    · rw [show gk n m pm ds zs = pm.filterMap fun i => (ds ++ zs)[i]? from if_pos c]
      have hA := h1.append h2
      clear c
      induction pm with
      | nil => exact rfl
      | cons i pm ih =>
        rw [List.filterMap_cons, List.filterMap_cons]
        cases e : (ds ++ zs)[i]? with
        | none =>
          have : (vs ++ ws)[i]? = none := by
            rw [List.getElem?_eq_none_iff] at e ⊢
            rw [← hA.length]; exact e
          rw [this]
          exact ih
        | some d =>
          obtain ⟨v, e2, dv⟩ := hA.get e
          rw [e2]
          exact ⟨v, _, rfl, dv, ih⟩
    · rw [show gk n m pm us xs = pm.filterMap fun i => (us ++ xs)[i]? from if_pos (by omega)]
      have hA := r1.append r2
      clear c
      induction pm with
      | nil => exact .nil
      | cons i pm ih =>
        rw [List.filterMap_cons, List.filterMap_cons]
        cases e : (vs ++ ws)[i]? with
        | none =>
          have : (us ++ xs)[i]? = none := by
            rw [List.getElem?_eq_none_iff] at e ⊢
            rw [← hA.length]; exact e
          rw [this]
          exact ih
        | some d =>
          obtain ⟨v, e2, dv⟩ := hA.get e
          rw [e2]
          exact .cons dv ih
  · rw [show gk n m pm ds zs = [] from if_neg c, show gk n m pm us xs = [] from if_neg (by omega)]
    exact ⟨[], rfl, .nil⟩
theorem KBD.of {K : PySem.W.Frag} {x qual : Str} {st : Stmt} {f : Addr} {fd : FuncData} {ps ks : List Str} (n m : Nat) (pm : List Nat) (F : Fun K x qual st f fd) (hp : 0 < ps.length)
    (h : ∀ (kV doc pq : Value) (an : Option Addr) (cdv ct : Value) (us ws : List Value), us.length = n → ws.length = m → bindArgs (PySem.W.fnOf x qual (defArgs st) (defBody st) (defScope st) .none kV doc pq an cdv ct) ⟨us, ks.zip ws⟩ = pure (ps.zip (gk n m pm us ws))) :
    KBD K fd ps ks (gk n m pm) (gk n m pm) := by
  obtain ⟨oc, od, kV, doc, pq, an, cdv, ct, osl, rfl, lk, hcd⟩ := F.ex
  refine ⟨fun s us ws _ hl => ?_, fun h1 h2 r1 r2 => gk_rel h1 h2 r1 r2⟩
  by_cases c : us.length = n ∧ ws.length = m
  · exact .of_eq (h kV doc pq an cdv ct us ws c.1 c.2)
  · rw [show gk n m pm us ws = [] from if_neg c] at hl
    exact absurd hl (by simp; omega)

/-! ### the end -/
theorem law_end {K : PySem.W.Frag} {H : Hp} {a : Addr} {ns : List Int} (hO : Only H) (hS : SqL K H a (ns.map V.int)) {sp : DSp} (h : ∀ S, sp [.fro (ns.map D.int)] S (fun d _ => d = .bl true) (fun _ _ _ => False)) :
    toSp K sp [.ref a] H (fun v _ => v = .bl true) (fun _ _ _ => False) := by
  refine ⟨[.fro (ns.map D.int)], fun _ => none, _, _, ⟨_, _, rfl, ⟨a, ns.map V.int, rfl, ?_, DVs.of_ints⟩, rfl⟩, (fun _ _ z => by cases z), h _, (fun d S v H' _ dv e => by subst e; exact dv), fun _ _ _ _ _ _ _ _ _ z => z⟩
  rcases hS with hS | hS
  · rcases hS with hS | ⟨o, hS⟩
    · rcases hO a with e | ⟨o, xs, e⟩
      · rw [e] at hS; cases hS
      · rw [e] at hS; cases hS
    · exact .inl ⟨o, hS⟩
  · exact .inr hS
theorem cx_end (P : Program) (w : World) (H : Hp) (s : Shared) (e : Value) (s' : Shared) : L2.CX P w [] H s (fun _ _ _ => False) e s' → False := fun ⟨_, _, _, _, _, _, _, _, _, _, _, _, h⟩ => h
theorem law_binds {K : PySem.W.Frag} {x qual : Str} {st : Stmt} {f : Addr} {fd : FuncData} {p : Str} (F : Fun K x qual st f fd) (h : ∀ (kV doc pm : Value) (an : Option Addr) (cdv ct : Value) (u : Value), bindArgs (PySem.W.fnOf x qual (defArgs st) (defBody st) (defScope st) .none kV doc pm an cdv ct) ⟨[u], []⟩ = pure [(p, u)]) :
    ∀ (s : Shared) (u : Value), BindsTo s fd ⟨[u], []⟩ [(p, u)] := fun s u => by
  obtain ⟨oc, od, kV, doc, pm, an, cdv, ct, osl, rfl, _⟩ := F.ex
  exact .of_eq (h kV doc pm an cdv ct u)
end DL
set_option Elab.async false
set_option linter.all false
set_option maxRecDepth 100000
set_option maxHeartbeats 4000000
namespace DL
open PySem PySem.Spec PyProof.Rows L2
open PySem.AutoSeq1 (wpAny_loadPart')
/-! ### enumerate(tuple) -/
theorem meets_enumerate_newT (l : Addr) (items : Array Value) (n : Nat) (dct : Option Addr) (sl : Array (Option Value)) :
    Meets (Builtin.«enumerate.__new__» ⟨[.type "enumerate", .ref l], []⟩) (fun _ R s => s.heap.get? l = some { cls := .type "tuple", dict := dct, data := .seq items n, slots := sl } ∧
      R (.ok (.ret (.ref (s.heap.push { cls := .type "tuple_iterator", data := .fields #[.ref l, .int 0 0] }).objs.size)))
        { s with heap := (s.heap.push { cls := .type "tuple_iterator", data := .fields #[.ref l, .int 0 0] }).push { cls := .type "enumerate", data := .fields #[.none, .bool false, .ref s.heap.objs.size, rawInt 0, .none, .none] } }) :=
  .of_wp fun prog w A R s h => by
    obtain ⟨hp, g, d, tk, os⟩ := s; obtain ⟨hl, h⟩ := h
    have hsub := sub_enumerate
    have hL : Heap.IsTuple (Shared.heap ⟨hp, g, d, tk, os⟩) l items := ⟨_, hl, rfl, n, rfl⟩
    wp_walk using wpAny_loadPart' hl
    refine wpAny_stack_any fun st => wpAny_pure ?_
    split
    · rename_i c _ _ _ _ _
      cases (c == Value.type "enumerate")
      · wp_walk using wpAny_loadPart' hl, wpAny_pyIter_tuple hL
        exact ⟨_, rfl, h⟩
      · wp_walk using wpAny_loadPart' hl, wpAny_pyIter_tuple hL
        exact ⟨_, rfl, h⟩
    · wp_walk using wpAny_loadPart' hl, wpAny_pyIter_tuple hL
      exact ⟨_, rfl, h⟩
theorem call_enumerateT {prog : Program} {w : World} {A : Around} {E : Value → Shared → Prop} {s : Shared} {l : Addr} {items : Array Value} {Q : Value → Shared → Prop} (hL : s.heap.IsTuple l items)
    (h : ∀ h', IsEnum h' (s.heap.objs.size + 1) s.heap.objs.size 0 .none → h'.get? s.heap.objs.size = some { cls := .type "tuple_iterator", data := .fields #[.ref l, .int 0 0] } → h'.objs.size = s.heap.objs.size + 2 →
      (∀ b o, s.heap.get? b = some o → h'.get? b = some o) → Q (.ref (s.heap.objs.size + 1)) { s with heap := h' }) :
    wpAny (model prog w) A (call (.type "enumerate") [.ref l]) Q E s := by
  obtain ⟨⟨c, dct, dt, sl⟩, hl, hc, n, hd⟩ := hL
  replace hc : c = .type "tuple" := hc
  replace hd : dt = .seq items n := hd
  subst hc hd
  refine callType_new F.called_enumerate (by decide) (F.typeCall_enumerate_1 _) (F.newCall_enumerate_1 _) (fun obj => F.args_object_init_2 obj _) F.entry_enumerate_new
    (meets_enumerate_newT l items n dct sl) ⟨hl, ?_⟩
  have hz : (s.heap.push { cls := .type "tuple_iterator", data := .fields #[.ref l, .int 0 0] }).objs.size = s.heap.objs.size + 1 := Heap.size_push ..
  show _ ∧ _
  rw [hz]
  have he : IsEnum ((s.heap.push { cls := .type "tuple_iterator", data := .fields #[.ref l, .int 0 0] }).push
      { cls := .type "enumerate", data := .fields #[.none, .bool false, .ref s.heap.objs.size, rawInt 0, .none, .none] }) (s.heap.objs.size + 1) s.heap.objs.size 0 .none := by
    have := Heap.get?_push_size (s.heap.push { cls := .type "tuple_iterator", data := .fields #[.ref l, .int 0 0] })
      (o := { cls := .type "enumerate", data := .fields #[.none, .bool false, .ref s.heap.objs.size, rawInt 0, .none, .none] }) rfl
    rw [hz] at this; exact this
  refine ⟨⟨_, he, rfl⟩, h _ he (Heap.get?_push_of_some _ (Heap.get?_push_size _ rfl)) (by rw [Heap.size_push, hz]) fun b o x => Heap.get?_push_of_some _ (Heap.get?_push_of_some _ x)⟩
def IteT (K : PySem.W.Frag) (a : Addr) : It :=
  ⟨fun i H => ∃ (xs : List V) (x : V), SqT K H a xs ∧ xs[i]? = some x, fun i H v H' => ∃ T x, v = .ref T ∧ H T = none ∧ H' = upd H T (.tup [.int (i : Nat), x]) ∧ ∀ xs, SqT K H a xs → xs[i]? = some x, fun i H => ∃ xs : List V, SqT K H a xs ∧ xs.length ≤ i⟩
theorem turn_enumT {P : Program} {w : World} {K : PySem.W.Frag} {elts : List Expr} {kk : Nat} {tpos : Pos} (a e it : Addr) :
    Turn P w K (.Tuple elts kk tpos) (IteT K a) [e, it] e (fun i h => (∃ old, IsEnum h e it ((i : Nat) : Int) old) ∧ h.IsTupleIter it a i ∧ e ≠ it ∧ e ≠ a ∧ a ≠ it) where
  mem := by simp
  obj := fun i h st b hb => by
    obtain ⟨⟨old, he⟩, ⟨o, ho, hc, hd⟩, _⟩ := st
    have e' : b = e ∨ b = it := by simpa using hb
    rcases e' with z | z
    · rw [z]; exact ⟨_, he, fun v q => nomatch q⟩
    · rw [z]; exact ⟨o, ho, fun v q => by rw [hd] at q; cases q⟩
  keep := fun i h h' st k => let ⟨⟨old, he⟩, hi, hne⟩ := st; ⟨⟨old, k e (by simp) _ he⟩, hi.at fun o q => k it (by simp) o q, hne⟩
  item := by
    intro X hP hw hK hc i pins s σ H E I hf st hg
    subst hP hw hK
    obtain ⟨⟨old, he⟩, hit, hne, hea, hai⟩ := st
    obtain ⟨xs, x, hq, hx⟩ := hg
    obtain ⟨its, rv, p, hz⟩ := I.tuple hq
    obtain ⟨u, hu, ru⟩ := rv.get hx
    have hl := rv.length
    have hi : i < xs.length := by
      cases Nat.lt_or_ge i xs.length with
      | inl h => exact h
      | inr h2 => rw [List.getElem?_eq_none h2] at hx; cases hx
    have hel : e < s.heap.objs.size := Heap.lt_size he
    have hil : it < s.heap.objs.size := by obtain ⟨_, q, _⟩ := hit; exact Heap.lt_size q
    have pt : s.heap.IsTuple a its.toArray := p
    refine wpAny_pyNext_enum_itemD (Draws.tuple (A := X.A.in1) (show X.A.in1.handled = none from I.ok.hd hc) it a hai its.toArray) he ⟨hit, pt⟩ (by simp; omega) hne (by simp [hne, hea]) fun y h' tk hP ho st' hT hsz hk => ?_
    have ey : y = u := by
      have : its[i]? = some y := by simpa using hP
      rw [hu] at this
      exact (Option.some.inj this).symm
    subst ey
    refine ⟨_, rfl, wpAny_letOwnedTupleGo_enum (s := { s with heap := h', toks := tk + 1 }) ho fun h'' he' sb => ?_⟩
    have hT2 : h''.get? s.heap.objs.size = some { cls := .type "tuple", data := .seq #[.int i tk, y] } := (sb.2 _ (Nat.ne_of_gt hel)).trans hT
    have new : ObjOk X.prog X.w (upd H s.heap.objs.size (.tup [.int (i : Nat), x])) h'' s.heap.objs.size (.tup [.int (i : Nat), x]) :=
      ⟨by show 2 ≤ sizeLine; decide, [.int i tk, y], .cons ⟨_, rfl⟩ (.cons ru .nil), ⟨_, hT2, rfl, _, rfl⟩⟩
    have I1 : Inv X pins σ (upd H s.heap.objs.size (.tup [.int (i : Nat), x])) { s with heap := h'', toks := tk + 1 } :=
      I.turnedNew (ch := [e, it]) (fun b ob hb q => (sb.2 b (fun z => hb (by simp [z]))).trans (hk b ob (fun z => hb (by simp [z])) (fun z => hb (by simp [z])) q)) hf (Nat.le_refl _) new
    refine ⟨.ref s.heap.objs.size, _, I1, rfl, ⟨_, x, rfl, I.hok.fresh (Nat.le_refl _), rfl, fun ys hy => by rw [I.tuple_inj hy hq]; exact hx⟩, ⟨⟨y, ?_⟩, st'.1.at fun o q => (sb.2 it (Ne.symm hne)).trans q, hne, hea, hai⟩, fun b hb => ?_⟩
    · have e1 : ((i + 1 : Nat) : Int) = (i : Int) + 1 := by omega
      rw [e1]; exact he'
    · have hb' : b < s.heap.objs.size := by
        have e' : b = e ∨ b = it := by simpa using hb
        rcases e' with z | z
        · rw [z]; exact hel
        · rw [z]; exact hil
      rw [upd_ne (Nat.ne_of_lt hb')]
      exact (hf b hb).1
  done := by
    intro X hP hw hK hc i pins s σ H E I hf st hg
    subst hP hw hK
    obtain ⟨⟨old, he⟩, hit, hne, hea, hai⟩ := st
    obtain ⟨xs, hq, hx⟩ := hg
    obtain ⟨its, rv, p, hz⟩ := I.tuple hq
    obtain ⟨f0, f1, f2, f3, f4, f5⟩ := hf it (by simp)
    have hl := rv.length
    have hT : s.TypeIs (.ref e) "enumerate" := ⟨_, he, rfl⟩
    unfold pyNext
    refine wpAny_bind (wpAny_attempt (wpAny_callSpecial?_slot (name := Str.ofString "__next__") hT F.slot_enumerate_next
      (wpAny_call_entry F.slot_enumerate_next hT F.entry_enumerate_next ?_ (F.args_enumerate_next_1 _))))
    show wpAny _ _ (field (.ref e) 2 >>= _) _ _ _
    refine wpAny_bind (wpAny_field he rfl (x := .ref it) rfl ?_)
    refine wpAny_bind (wpAny_nextOf_tuple_end (items := its.toArray) (I.ok.hd hc) hit p (by simp; omega) fun h' x he' hx' => ?_)
    obtain ⟨o, ho, hc'⟩ := hx'
    refine wpAny_bind (wpAny_isInstance (T := "StopIteration") (b := true) ⟨o, ho, hc'⟩ isSubtype_stop ?_)
    exact wpAny_pure ⟨rfl, I.turned (t' := s.toks) (fun b o hb q => he' b o hb q) f0 f1 f3 f4 f5⟩
  self := fun A i s Q E st h => let ⟨⟨_, he⟩, _⟩ := st; wpAny_pyIter_enum he h
def iEnumT (K : PySem.W.Frag) (ta : TA) : TI := fun σ H R => ta σ H fun vs H1 => ∃ a xs, vs = [.ref a] ∧ SqT K H1 a xs ∧ R (IteT K a) H1
theorem pi_enumT {X : Cx} {e : Expr} {ta : TA} {p pos tpos : Pos} {elts : List Expr} {kk : Nat} (hg : Gl X "enumerate") (hm : X.mg "enumerate" = none) (ha : PA X [e] ta) (hs : starEach [e] X.env = [(false, eval e X.env)] := by rfl) :
    PI X (.Tuple elts kk tpos) (.Call (.Name "enumerate" p) [e] [] pos) (iEnumT X.K ta) := by
  refine ⟨fun pins s σ H R I h => ?_⟩
  refine Call_ (ld_blt I hg hm boot_enumerate (PyProof.Rows.callWith_type1 (thn (ha.run pos pins s σ H _ I h) fun us s1 ⟨vs, H1, I1, r1, q1⟩ => ?_) hs rfl))
  obtain ⟨a, xs, ex, hq, q⟩ := q1
  subst ex
  cases r1 with
  | cons r rr =>
    cases rr
    cases r
    obtain ⟨its, rv, p', hz⟩ := I1.tuple hq
    have pt : s1.heap.IsTuple a its.toArray := p'
    have hal : a < s1.heap.objs.size := by obtain ⟨_, q, _⟩ := pt; exact Heap.lt_size q
    refine call_enumerateT pt fun h' he hit hsz hk => wpAny_pyIter_enum he ?_
    have I2 : Inv X pins σ H1 { s1 with heap := h' } := I1.kept (t' := s1.toks) hk
    refine ⟨s1.heap.objs.size + 1, [s1.heap.objs.size + 1, s1.heap.objs.size], _, _, H1, rfl, I2, turn_enumT a (s1.heap.objs.size + 1) s1.heap.objs.size, ⟨⟨.none, he⟩, ⟨_, hit, rfl, rfl⟩, Nat.succ_ne_self _, Nat.ne_of_gt (Nat.lt_succ_of_lt hal), Nat.ne_of_lt hal⟩, fun b hb => ?_, q⟩
    have e' : b = s1.heap.objs.size + 1 ∨ b = s1.heap.objs.size := by simpa using hb
    have hle : s1.heap.objs.size ≤ b := by
      rcases e' with z | z
      · rw [z]; exact Nat.le_add_right _ _
      · rw [z]; exact Nat.le_refl _
    exact I1.fpOk hle (I1.hok.fresh hle)

section
variable {X : Cx} {y : DXw}
/-- (i, x) for each item of a tuple -/
def enD (xs : List D) : List D := xs.mapIdx fun i x => D.tup [.int (i : Int), x]
theorem enD_get {xs : List D} {i : Nat} : (enD xs)[i]? = xs[i]?.map fun x => D.tup [.int (i : Int), x] := by unfold enD; rw [List.getElem?_mapIdx]
theorem enD_len {xs : List D} : (enD xs).length = xs.length := by unfold enD; simp
def rEnum (t : RA) : RI := fun ρ S R => t ρ S fun ds S1 => match ds with
  | [.tup xs] => R (enD xs) (fun _ => True) S1
  | _ => False
theorem jok_enumT {K : PySem.W.Frag} {H1 : Hp} {S1 : Sto} {a : Addr} {xs : List D} {vs : List V} (h : StT K H1 a vs) (r : DVs K H1 xs vs) : JOk K H1 S1 (IteT K a) (enD xs) (fun _ => True) := by
  intro i H S g _
  have h2 := g.tup h
  have r2 := DVs.go g _ _ r
  refine ⟨fun x hx => ?_, fun hn => ⟨vs, h2.sq, ?_⟩⟩
  · rw [enD_get] at hx
    cases e : xs[i]? with
    | none => rw [e] at hx; cases hx
    | some d =>
      rw [e] at hx
      cases (Option.some.inj hx)
      obtain ⟨v, e2, dv⟩ := r2.get e
      refine ⟨⟨vs, v, h2.sq, e2⟩, fun w H' ⟨T, x, ew, hT, eH, hall⟩ => ?_⟩
      have := hall vs h2.sq
      rw [e2] at this
      cases (Option.some.inj this)
      subst ew eH
      have g2 := Go.new (K := K) (o := .tup [.int (i : Nat), v]) g.ok hT
      exact ⟨g2, T, _, rfl, .inl upd_same, DVs.cons rfl (DVs.cons (DV.go g2 _ _ dv) DVs.nil)⟩
  · rw [enD_get] at hn
    rw [← r.length]
    cases e : xs[i]? with
    | none => rw [List.getElem?_eq_none_iff] at e; exact e
    | some d => rw [e] at hn; cases hn
theorem pdi_enum {e : Expr} {ta : RA} {p pos tpos : Pos} {elts : List Expr} {kk : Nat} (hm : X.mg "enumerate" = none) (ha : PDA X y [e] ta) (hg : Gl X "enumerate" := by rfl) (hs : starEach [e] X.env = [(false, eval e X.env)] := by rfl) :
    PDI X y (.Tuple elts kk tpos) (.Call (.Name "enumerate" p) [e] [] pos) (rEnum ta) := by
  refine PDI.of (pi_enumT hg hm ha hs) fun σ H R h => ?_
  obtain ⟨ρ, S, Rd, sr, so, h, k⟩ := h
  refine ⟨ρ, S, _, sr, so, h, fun ds S1 vs H1 g dvs hn h1 => ?_⟩
  split at h1
  · rename_i xs
    obtain ⟨v, ws, rfl, dv, q⟩ := dvs
    cases (show ws = [] from q)
    obtain ⟨a, us, rfl, hT, r⟩ := dv
    exact ⟨a, us, rfl, hT.sq, k _ _ _ _ _ g (jok_enumT hT r) h1⟩
  · exact h1.elim
/-! ### comprehensions with two clauses: the new list stands in the store -/
theorem wipe_wipe (σ : L2.St) (l : List Nat) : L2.wipe (L2.wipe σ l) l = L2.wipe σ l := by
  have gen : ∀ (l l' : List Nat), (∀ i ∈ l, i ∈ l') → L2.wipe (L2.wipe σ l') l = L2.wipe σ l' := by
    intro l
    induction l with
    | nil => intro l' _; rfl
    | cons a l ih =>
      intro l' hl
      show (L2.wipe (L2.wipe σ l') l).set a none = L2.wipe σ l'
      rw [ih l' fun i hi => hl i (List.mem_cons_of_mem _ hi)]
      have ha' := hl a List.mem_cons_self
      apply List.ext_getElem?
      intro j
      by_cases hj : a = j
      · subst hj
        by_cases hb : a < (L2.wipe σ l').length
        · rw [List.getElem?_set_self hb]
          cases q : (L2.wipe σ l')[a]? with
          | none => rw [List.getElem?_eq_none_iff] at q; omega
          | some o =>
            cases o with
            | none => rfl
            | some x => exact absurd ha' (wipe_some q).2
        · rw [List.getElem?_eq_none (by simpa using hb), List.getElem?_eq_none (by simpa using hb)]
      · rw [List.getElem?_set_ne hj]
  exact gen l l fun _ h => h
def rLc2 (wi : RI) (p : Pat) (tt : RT) (wi1 : RI) (p1 : Pat) (tt1 : RT) (te : RE) (vs vs1 : List Nat) : RE := fun ρ S Q => wi ρ S fun xs src S1 => ∀ D0, S1 D0 = none → ∃ W : Nat → Sto → Prop, W 0 (sup S1 D0 (.lst [])) ∧ ∀ i S', W i S' → src S' ∧
  (∀ x, xs[i]? = some x → Pat.put p x (dwipe ρ vs) fun ρ2 => tt ρ2 S' fun b S3 => IFB b (wi1 ρ2 S3 fun ys src1 S4 => ∃ W1 : Nat → Sto → Prop, W1 0 S4 ∧ ∀ j S5, W1 j S5 → src1 S5 ∧
      (∀ z, ys[j]? = some z → Pat.put p1 z (dwipe ρ2 vs1) fun ρ3 => tt1 ρ3 S5 fun b S6 => IFB b (te ρ3 S6 fun d S7 => ∃ acc, S7 D0 = some (.lst acc) ∧ acc.length < sizeLine ∧ W1 (j + 1) (sup S7 D0 (.lst (acc ++ [d])))) (W1 (j + 1) S6)) ∧
      (j = ys.length → W (i + 1) S5)) (W (i + 1) S3)) ∧
  (i = xs.length → Q (.ref D0) S')
theorem lc2_of {wi wi1 : RI} {p p1 : Pat} {tt tt1 : RT} {te : RE} {vs vs1 : List Nat} {σ : L2.St} {H : Hp} {Q : VK} (ha : Pat.all vs p = true) (ha1 : Pat.all vs1 p1 = true) (h : lE X.K y (rLc2 wi p tt wi1 p1 tt1 te vs vs1) σ H Q) :
    tLc2 (lI X.K y wi) (Pat.g X.K p) (lT X.K y0 tt) (lI X.K y0 wi1) (Pat.g X.K p1) (lT X.K y0 tt1) (lE X.K y0 te) vs vs1 σ H Q := by
  obtain ⟨ρ, S, R, sr, so, h, k⟩ := h
  refine ⟨ρ, S, _, sr, so, h, fun xs src S1 J H1 g1 jo hD D0 hDn => ?_⟩
  obtain ⟨W, w0, hs⟩ := hD D0 (g1.ok.free hDn)
  have g0 := Go.newLst g1.ok hDn DVs.nil
  refine ⟨fun i m H2 => ∃ S2, m = xs.length - i ∧ i ≤ xs.length ∧ Go X.K H1 S1 H2 S2 ∧ W i S2, ⟨_, _, rfl, Nat.zero_le _, g0, w0⟩, ?_⟩
  rintro i m H2 ⟨S2, rfl, hi, g2, w2⟩
  obtain ⟨hsrc, hturn, hend⟩ := hs i S2 w2
  obtain ⟨j1, j2⟩ := jo i H2 S2 g2 hsrc
  by_cases hlt : i < xs.length
  · have hx : xs[i]? = some xs[i] := List.getElem?_eq_getElem hlt
    obtain ⟨jg, jy⟩ := j1 _ hx
    refine .inr ⟨jg, fun H3 => ∃ S3, Go X.K H1 S1 H3 S3 ∧ W (i + 1) S3, fun H3 ⟨S3, g3, a4⟩ => ⟨xs.length - (i + 1), by omega, S3, rfl, hlt, g3, a4⟩, fun v H3 hy => ?_⟩
    obtain ⟨g3, dv⟩ := jy v H3 hy
    have gA := g2.trans g3
    refine Pat.ok p _ v _ _ _ ha dv (((sr.go g1).go gA).wipe vs) (hturn _ hx) fun ρ3 σ3 sr3 hw h3 => ⟨by rw [hw, wipe_wipe], ?_⟩
    refine ⟨ρ3, S2, _, sr3, sx0 gA.ok, h3, fun b S4 H4 g4 h4 => ?_⟩
    refine ite_of_IFB h4 (fun z => ⟨ρ3, S4, _, sr3.go g4, sx0 g4.ok, z, fun ys src1 S5 J1 H5 g5 jo1 ⟨W1, w10, hs1⟩ => ?_⟩) fun z => ⟨S4, gA.trans g4, z⟩
    have gB := (gA.trans g4).trans g5
    refine ⟨fun j k H6 => ∃ S6, k = ys.length - j ∧ j ≤ ys.length ∧ Go X.K H5 S5 H6 S6 ∧ W1 j S6, ⟨_, S5, rfl, Nat.zero_le _, Go.refl g5.ok, w10⟩, ?_⟩
    rintro j k H6 ⟨S6, rfl, hj, g6, w6⟩
    obtain ⟨hsrc1, hturn1, hend1⟩ := hs1 j S6 w6
    obtain ⟨i1, i2⟩ := jo1 j H6 S6 g6 hsrc1
    by_cases hlt1 : j < ys.length
    · have hz : ys[j]? = some ys[j] := List.getElem?_eq_getElem hlt1
      obtain ⟨jg1, jy1⟩ := i1 _ hz
      refine .inr ⟨jg1, fun H7 => ∃ S7, Go X.K H5 S5 H7 S7 ∧ W1 (j + 1) S7, fun H7 ⟨S7, g7, a4⟩ => ⟨ys.length - (j + 1), by omega, S7, rfl, hlt1, g7, a4⟩, fun v H7 hy1 => ?_⟩
      obtain ⟨g7, dv7⟩ := jy1 v H7 hy1
      have gC := g6.trans g7
      refine Pat.ok p1 _ v _ _ _ ha1 dv7 ((((sr3.go g4).go g5).go gC).wipe vs1) (hturn1 _ hz) fun ρ4 σ4 sr4 hw4 h5 => ⟨by rw [hw4, wipe_wipe], ?_⟩
      refine ⟨ρ4, S6, _, sr4, sx0 gC.ok, h5, fun b S8 H8 g8 h8 => ?_⟩
      refine ite_of_IFB h8 (fun z => ⟨ρ4, S8, _, sr4.go g8, sx0 g8.ok, z, fun d S9 w H9 g9 dv9 ⟨acc, eD, hl, w9⟩ => ?_⟩) fun z => ⟨S8, gC.trans g8, z⟩
      obtain ⟨ws, hD9, r9⟩ := g9.ok D0 _ eD
      exact ⟨ws, hD9, by rw [← r9.length]; exact hl, _, ((gC.trans g8).trans g9).trans (Go.setLst g9.ok eD (r9.append (DVs.cons dv9 DVs.nil))), w9⟩
    · have e : j = ys.length := by omega
      subst e
      exact .inl ⟨i2 (by simp), S6, gB.trans g6, hend1 rfl⟩
  · have e : i = xs.length := by omega
    subst e
    exact .inl ⟨j2 (by simp), k (.ref D0) _ _ _ (g1.trans g2) rfl (hend rfl)⟩
theorem pd_lc2 {elt tg iter tg1 iter1 : Expr} {ifs ifs1 : List Expr} {scope : Scope} {own : List (Str × Nat)} {vs1 : List Nat} {pos : Pos} {wi wi1 : RI} {p p1 : Pat} {tt tt1 : RT} {te : RE} (hc : X.calm = true) (hN : X.N.Nodup) (hi : PDI X y tg iter wi) (ok : BlkOk X.N X.env.scope scope own)
    (hg : ∀ (s : Shared) (H : Hp) (C : Addr) (cl : List (Str × Addr)) (fp : List Addr), PG (X.blk s H scope (compEnvC scope cl C X.env) fp) tg (Pat.g X.K p)) (ht : ∀ (s : Shared) (H : Hp) (C : Addr) (cl : List (Str × Addr)) (fp : List Addr), PDTs (X.blk s H scope (compEnvC scope cl C X.env) fp) y0 ifs tt)
    (hi1 : ∀ (s : Shared) (H : Hp) (C : Addr) (cl : List (Str × Addr)) (fp : List Addr), PDI (X.blk s H scope (compEnvC scope cl C X.env) fp) y0 tg1 iter1 wi1)
    (hg1 : ∀ (s : Shared) (H : Hp) (C : Addr) (cl : List (Str × Addr)) (fp : List Addr), PG (X.blk s H scope (compEnvC scope cl C X.env) fp) tg1 (Pat.g X.K p1)) (ht1 : ∀ (s : Shared) (H : Hp) (C : Addr) (cl : List (Str × Addr)) (fp : List Addr), PDTs (X.blk s H scope (compEnvC scope cl C X.env) fp) y0 ifs1 tt1)
    (he : ∀ (s : Shared) (H : Hp) (C : Addr) (cl : List (Str × Addr)) (fp : List Addr), PD (X.blk s H scope (compEnvC scope cl C X.env) fp) y0 elt te) (hv1 : ∀ i ∈ vs1, i ∈ own.map (·.2) := by decide) (hv : Pat.all (own.map (·.2)) p = true := by rfl) (hv2 : Pat.all vs1 p1 = true := by rfl) (hs : ∀ x, foldedSetIterable iter X.env x = pure x := by intro _; rfl) (hs1 : ∀ env x, foldedSetIterable iter1 env x = pure x := by intro _ _; rfl) :
    PD X y (.ListComp elt [⟨tg, iter, ifs, 0⟩, ⟨tg1, iter1, ifs1, 0⟩] scope pos) (rLc2 wi p tt wi1 p1 tt1 te (own.map (·.2)) vs1) :=
  PD.of (pe_lc2 (wi1 := lI X.K y0 wi1) (tt := lT X.K y0 tt) (tt1 := lT X.K y0 tt1) (te := lE X.K y0 te) hc hN hi ok hv1 hg ht hi1 hg1 ht1 he hs hs1) fun σ H Q h => lc2_of hv hv2 h
end
end DL
set_option Elab.async false
set_option linter.all false
set_option maxRecDepth 100000
set_option maxHeartbeats 4000000
namespace DL
open PySem PySem.Spec PyProof.Rows L2
/-! ### sizes of fractions -/
def RB (n : Nat) (q : Rat) : Prop := q.num.natAbs < 2 ^ n ∧ q.den < 2 ^ n
theorem lt_up {x a b : Nat} (h : x < 2 ^ a) (hab : a ≤ b) : x < 2 ^ b := Nat.lt_of_lt_of_le h (Nat.pow_le_pow_right (by decide) hab)
theorem RB.mono {n m : Nat} {q : Rat} (h : RB n q) (l : n ≤ m) : RB m q := ⟨lt_up h.1 l, lt_up h.2 l⟩
theorem rb_div {t b : Int} {n : Nat} (hb : 0 < b) (h1 : t.natAbs < 2 ^ n) (h2 : b.natAbs < 2 ^ n) : RB n ((t : Rat) / (b : Rat)) := by
  constructor
  · rw [← low_num hb]
    exact Nat.lt_of_le_of_lt (by rw [Int.natAbs_ediv_of_dvd (Int.natAbs_dvd_natAbs.mp (by rw [Int.natAbs_natCast]; exact Nat.gcd_dvd_left _ _))]; exact Nat.div_le_self _ _) h1
  · have e := low_den (t := t) hb
    have : ((((t : Rat) / (b : Rat)).den : Nat) : Int) ≤ b := by
      rw [← e]
      exact Int.ediv_le_self _ (by omega)
    omega
/-- q is so many N-ths -/
def Ov (N : Int) (q : Rat) : Prop := ∃ k : Int, q = (k : Rat) / (N : Rat)
theorem ratNe {N : Int} (h : 0 < N) : (N : Rat) ≠ 0 := fun z => by
  have := Rat.intCast_inj.mp (z.trans Rat.intCast_zero.symm)
  omega
theorem ratPos {N : Int} (h : 0 < N) : (0 : Rat) < (N : Rat) := by
  have := Rat.intCast_lt_intCast.mpr h
  simpa using this
theorem ov_add {N : Int} (h : 0 < N) {a b : Rat} (ha : Ov N a) (hb : Ov N b) : Ov N (a + b) := by
  obtain ⟨k, rfl⟩ := ha
  obtain ⟨l, rfl⟩ := hb
  refine ⟨k + l, ?_⟩
  rw [Rat.intCast_add]
  have := ratNe h
  grind
theorem ov_mul {N M : Int} (h : 0 < N) (h' : 0 < M) {a b : Rat} (ha : Ov N a) (hb : Ov M b) : Ov (N * M) (a * b) := by
  obtain ⟨k, rfl⟩ := ha
  obtain ⟨l, rfl⟩ := hb
  refine ⟨k * l, ?_⟩
  rw [Rat.intCast_mul, Rat.intCast_mul]
  have := ratNe h
  have := ratNe h'
  grind
theorem ov_zero (N : Int) : Ov N 0 := ⟨0, by rw [Rat.intCast_zero, Rat.div_def, Rat.zero_mul]⟩
theorem ov_one {N : Int} (h : 0 < N) : Ov N 1 := ⟨N, by have := ratNe h; grind⟩
theorem ov_rb {N : Int} (h : 0 < N) {n : Nat} (hn : N.natAbs < 2 ^ n) {q : Rat} (o : Ov N q) (h0 : 0 ≤ q) (h1 : q ≤ 1) : RB n q := by
  obtain ⟨k, rfl⟩ := o
  have hp := ratPos h
  have e : ((k : Rat) / (N : Rat)) * (N : Rat) = (k : Rat) := by
    have := ratNe h
    grind
  have k0 : 0 ≤ k := by
    have : (0 : Rat) ≤ (k : Rat) := by rw [← e]; exact Rat.mul_nonneg h0 (Rat.le_of_lt hp)
    exact Rat.intCast_le_intCast.mp (by simpa using this)
  have k1 : k ≤ N := by
    have : (k : Rat) ≤ (N : Rat) := by
      rw [← e]
      have := Rat.mul_le_mul_of_nonneg_right h1 (Rat.le_of_lt hp)
      simpa using this
    exact Rat.intCast_le_intCast.mp this
  exact rb_div h (by omega) hn
/-! ### shares -/
def shD (qs : List Rat) : D := .tup (qs.map fr)
structure Sh (N : Int) (qs : List Rat) : Prop where
  pos : 0 < N
  ne : qs ≠ []
  all : ∀ q ∈ qs, 0 < q ∧ Ov N q
  sum : qs.sum = 1
theorem sum_nonneg : ∀ {qs : List Rat}, (∀ q ∈ qs, (0 : Rat) ≤ q) → 0 ≤ qs.sum
  | [], _ => by simp
  | q :: qs, h => by
    have h1 := h q List.mem_cons_self
    have h2 := sum_nonneg (qs := qs) fun x hx => h x (List.mem_cons_of_mem _ hx)
    rw [List.sum_cons]
    grind
theorem mem_le_sum : ∀ {qs : List Rat}, (∀ q ∈ qs, (0 : Rat) ≤ q) → ∀ q ∈ qs, q ≤ qs.sum
  | x :: qs, h, q, hq => by
    have h1 := h x List.mem_cons_self
    have hs : ∀ q ∈ qs, (0 : Rat) ≤ q := fun y hy => h y (List.mem_cons_of_mem _ hy)
    have h2 := sum_nonneg hs
    rw [List.sum_cons]
    rcases List.mem_cons.mp hq with rfl | hq
    · grind
    · have := mem_le_sum hs q hq
      grind
theorem take_le_sum {qs : List Rat} (h : ∀ q ∈ qs, (0 : Rat) ≤ q) (i : Nat) : (qs.take i).sum ≤ qs.sum := by
  have e : qs.sum = (qs.take i).sum + (qs.drop i).sum := by rw [← List.sum_append, List.take_append_drop]
  have := sum_nonneg (qs := qs.drop i) fun q hq => h q (List.mem_of_mem_drop hq)
  grind
theorem ov_sum {N : Int} (hN : 0 < N) : ∀ {qs : List Rat}, (∀ q ∈ qs, Ov N q) → Ov N qs.sum
  | [], _ => by simpa using ov_zero N
  | q :: qs, h => by
    rw [List.sum_cons]
    exact ov_add hN (h q List.mem_cons_self) (ov_sum hN fun x hx => h x (List.mem_cons_of_mem _ hx))
theorem Sh.le1 {N : Int} {qs : List Rat} (s : Sh N qs) {q : Rat} (h : q ∈ qs) : q ≤ 1 := s.sum ▸ mem_le_sum (fun x hx => Rat.le_of_lt (s.all x hx).1) q h
theorem Sh.rb {N : Int} {qs : List Rat} (s : Sh N qs) {n : Nat} (hn : N.natAbs < 2 ^ n) {q : Rat} (h : q ∈ qs) : RB n q := ov_rb s.pos hn (s.all q h).2 (Rat.le_of_lt (s.all q h).1) (s.le1 h)
/-! ### equal fractions -/
theorem pyr_fr {S : Sto} (q : Rat) : PyR S (fr q) (.tuple [.int q.num, .int (q.den : Int)]) := .tup (.cons (.int _) (.cons (.int _) .nil))
theorem eq_fr {S : Sto} {R : D → Sto → Prop} (q : Rat) (h : R (.bl true) S) : dEqG false (fr q) (fr q) S R :=
  ⟨_, _, pyr_fr q, pyr_fr q, rfl, rfl, by
    have : PyData.eqv (.tuple [.int q.num, .int (q.den : Int)]) (.tuple [.int q.num, .int (q.den : Int)]) = true := SeqAt.eqv_refl _ rfl
    rw [if_neg (by decide), this]; exact h⟩
theorem fr1 : D.tup [.int 1, .int 1] = fr 1 := rfl
theorem fr0 : D.tup [.int 0, .int 1] = fr 0 := rfl
end DL
namespace DL
open PySem PySem.Spec PyProof.Rows L2
/-! ### things put together: shares with marks -/
def sel (ps : List (Rat × Bool)) : List Rat := (ps.filter (·.2)).map (·.1)
def tog (T : Rat) (ps : List (Rat × Bool)) : List Rat := match ps with
  | [] => []
  | (q, false) :: ps => q :: tog T ps
  | (_, true) :: ps => T :: (ps.filter (!·.2)).map (·.1)
def idx (k : Nat) : List (Rat × Bool) → List Nat
  | [] => []
  | (_, b) :: ps => if b then k :: idx (k + 1) ps else idx (k + 1) ps
theorem tog_push (T : Rat) (x : Rat × Bool) : ∀ ps, tog T (ps ++ [x]) = tog T ps ++ (if x.2 then (if ps.any (·.2) then [] else [T]) else [x.1])
  | [] => by
    obtain ⟨q, b⟩ := x
    cases b <;> rfl
  | (q, false) :: ps => by
    show q :: tog T (ps ++ [x]) = q :: (tog T ps ++ _)
    rw [tog_push T x ps]
    rfl
  | (q, true) :: ps => by
    show T :: ((ps ++ [x]).filter (!·.2)).map (·.1) = T :: ((ps.filter (!·.2)).map (·.1) ++ _)
    rw [List.filter_append, List.map_append]
    obtain ⟨r, b⟩ := x
    cases b <;> rfl
theorem idx_ge : ∀ (ps : List (Rat × Bool)) (k i : Nat), i ∈ idx k ps → k ≤ i
  | [], _, _, h => by cases h
  | (q, b) :: ps, k, i, h => by
    unfold idx at h
    cases b with
    | false => exact Nat.le_of_succ_le (idx_ge ps (k + 1) i (by simpa using h))
    | true =>
      rcases List.mem_cons.mp (by simpa using h) with rfl | h
      · exact Nat.le_refl _
      · exact Nat.le_of_succ_le (idx_ge ps (k + 1) i h)
theorem idx_mem : ∀ (ps : List (Rat × Bool)) (k j : Nat), (k + j ∈ idx k ps) ↔ ∃ q, ps[j]? = some (q, true)
  | [], k, j => by simp [idx]
  | (q, b) :: ps, k, 0 => by
    have : ¬ k ∈ idx (k + 1) ps := fun z => by have := idx_ge ps _ _ z; omega
    unfold idx
    cases b <;> simp [this]
  | (q, b) :: ps, k, j + 1 => by
    have := idx_mem ps (k + 1) j
    rw [show k + 1 + j = k + (j + 1) by omega] at this
    unfold idx
    cases b with
    | false => simpa using this
    | true => simpa using this
theorem idx_head : ∀ (ps : List (Rat × Bool)) (k j : Nat), (idx k ps).head? = some (k + j) ↔ (∃ q, ps[j]? = some (q, true)) ∧ (ps.take j).any (·.2) = false
  | [], k, j => by simp [idx]
  | (q, b) :: ps, k, 0 => by
    unfold idx
    cases b with
    | false =>
      have : ¬ (idx (k + 1) ps).head? = some k := fun z => by
        have := idx_ge ps _ _ (List.mem_of_mem_head? z)
        omega
      simpa using this
    | true => simp
  | (q, b) :: ps, k, j + 1 => by
    have := idx_head ps (k + 1) j
    rw [show k + 1 + j = k + (j + 1) by omega] at this
    unfold idx
    cases b with
    | false => simpa using this
    | true => simp
theorem idx_append : ∀ (as bs : List (Rat × Bool)) (k : Nat), idx k (as ++ bs) = idx k as ++ idx (k + as.length) bs
  | [], bs, k => rfl
  | (q, b) :: as, bs, k => by
    show (if b then k :: idx (k + 1) (as ++ bs) else idx (k + 1) (as ++ bs)) = (if b then k :: idx (k + 1) as else idx (k + 1) as) ++ _
    rw [idx_append as bs (k + 1), List.length_cons, show k + 1 + as.length = k + (as.length + 1) by omega]
    cases b <;> simp
theorem idx_get : ∀ (ps : List (Rat × Bool)) (k : Nat), (idx k ps).map (fun i => (ps.map (·.1))[i - k]?) = (sel ps).map some
  | [], _ => rfl
  | (q, b) :: ps, k => by
    have ih := idx_get ps (k + 1)
    have e : (idx (k + 1) ps).map (fun i => (((q, b) :: ps).map (·.1))[i - k]?) = (idx (k + 1) ps).map (fun i => (ps.map (·.1))[i - (k + 1)]?) := by
      apply List.map_congr_left
      intro i hi
      have := idx_ge ps _ _ hi
      rw [List.map_cons, show i - k = (i - (k + 1)) + 1 by omega]
      rfl
    unfold idx sel
    cases b with
    | false => simpa [sel] using e.trans ih
    | true => simpa [sel] using e.trans ih
theorem tog_sum : ∀ (ps : List (Rat × Bool)), ps.any (·.2) = true → (tog (sel ps).sum ps).sum = (ps.map (·.1)).sum := by
  have key : ∀ ps : List (Rat × Bool), ((ps.filter (!·.2)).map (·.1)).sum + (sel ps).sum = (ps.map (·.1)).sum := by
    intro ps
    induction ps with
    | nil => simp [sel]; try grind
    | cons x ps ih =>
      obtain ⟨q, b⟩ := x
      cases b <;> simp [sel] at ih ⊢ <;> grind
  have gen : ∀ (T : Rat) (ps : List (Rat × Bool)), ps.any (·.2) = true → (tog T ps).sum = T + ((ps.filter (!·.2)).map (·.1)).sum := by
    intro T ps
    induction ps with
    | nil => intro h; cases h
    | cons x ps ih =>
      intro h
      obtain ⟨q, b⟩ := x
      cases b with
      | true => simp [tog]
      | false =>
        have := ih (by simpa using h)
        simp [tog, this]
        grind
  intro ps h
  rw [gen _ _ h, ← key ps]
  grind
theorem sel_mem {ps : List (Rat × Bool)} {q : Rat} (h : q ∈ sel ps) : q ∈ ps.map (·.1) := by
  unfold sel at h
  obtain ⟨x, hx, rfl⟩ := List.mem_map.mp h
  exact List.mem_map.mpr ⟨x, (List.mem_filter.mp hx).1, rfl⟩
theorem sel_le {ps : List (Rat × Bool)} (h : ∀ q ∈ ps.map (·.1), (0 : Rat) ≤ q) : (sel ps).sum ≤ (ps.map (·.1)).sum := by
  induction ps with
  | nil => simp [sel]
  | cons x ps ih =>
    obtain ⟨q, b⟩ := x
    have h0 := h q (by simp)
    have := ih fun q hq => h q (List.mem_cons_of_mem _ hq)
    cases b <;> simp [sel] at this ⊢ <;> grind
theorem tog_mem {T : Rat} : ∀ {ps : List (Rat × Bool)} {q : Rat}, q ∈ tog T ps → q = T ∨ q ∈ ps.map (·.1)
  | [], _, h => by cases h
  | (r, false) :: ps, q, h => by
    rcases List.mem_cons.mp (show q ∈ r :: tog T ps from h) with rfl | h
    · exact .inr (by simp)
    · rcases tog_mem h with h | h
      · exact .inl h
      · exact .inr (List.mem_cons_of_mem _ h)
  | (r, true) :: ps, q, h => by
    rcases List.mem_cons.mp (show q ∈ T :: (ps.filter (!·.2)).map (·.1) from h) with rfl | h
    · exact .inl rfl
    · obtain ⟨x, hx, rfl⟩ := List.mem_map.mp h
      exact .inr (List.mem_cons_of_mem _ (List.mem_map.mpr ⟨x, (List.mem_filter.mp hx).1, rfl⟩))
theorem Sh.tog {N : Int} {ps : List (Rat × Bool)} (s : Sh N (ps.map (·.1))) (h : ps.any (·.2) = true) : Sh N (DL.tog (sel ps).sum ps) := by
  refine ⟨s.pos, fun z => ?_, fun q hq => ?_, by rw [tog_sum ps h]; exact s.sum⟩
  · have := tog_sum ps h
    rw [z, s.sum] at this
    simp at this
  · rcases tog_mem hq with rfl | hq
    · refine ⟨?_, ov_sum s.pos fun q hq => (s.all q (sel_mem hq)).2⟩
      obtain ⟨x, hx, hb⟩ := List.any_eq_true.mp h
      have hm : x.1 ∈ sel ps := List.mem_map.mpr ⟨x, List.mem_filter.mpr ⟨hx, hb⟩, rfl⟩
      have h1 := (s.all _ (sel_mem hm)).1
      have h2 := mem_le_sum (fun q hq => Rat.le_of_lt (s.all q (sel_mem hq)).1) _ hm
      grind
    · exact s.all q hq
/-! ### both -/
def prods (as bs : List Rat) : List Rat := as.flatMap fun a => bs.map fun b => a * b
theorem sum_mul (a : Rat) : ∀ bs : List Rat, (bs.map fun b => a * b).sum = a * bs.sum
  | [] => by simp
  | b :: bs => by
    rw [List.map_cons, List.sum_cons, List.sum_cons, sum_mul a bs]
    grind
theorem prods_sum (bs : List Rat) : ∀ as : List Rat, (prods as bs).sum = as.sum * bs.sum
  | [] => by simp [prods]
  | a :: as => by
    have := prods_sum bs as
    unfold prods at this ⊢
    rw [List.flatMap_cons, List.sum_append, this, sum_mul, List.sum_cons]
    grind
theorem Sh.prods {N M : Int} {as bs : List Rat} (s : Sh N as) (t : Sh M bs) : Sh (N * M) (DL.prods as bs) := by
  refine ⟨Int.mul_pos s.pos t.pos, fun z => ?_, fun q hq => ?_, by rw [prods_sum, s.sum, t.sum]; grind⟩
  · have := prods_sum bs as
    rw [z, s.sum, t.sum] at this
    simp at this
  · unfold DL.prods at hq
    obtain ⟨a, ha, hq⟩ := List.mem_flatMap.mp hq
    obtain ⟨b, hb, rfl⟩ := List.mem_map.mp hq
    exact ⟨Rat.mul_pos (s.all a ha).1 (t.all b hb).1, ov_mul s.pos t.pos (s.all a ha).2 (t.all b hb).2⟩

theorem const_tup2 {K : PySem.W.Frag} {z : Addr} {od : Option Addr} {i j : Int} {t u : Tok} {n : Nat} {sl : Array (Option Value)} (l : K.lookup z = some ⟨.type "tuple", od, .seq #[.int i t, .int j u] n, sl⟩) : ∀ H, DV K H (.tup [.int i, .int j]) (.ref z) := fun H =>
  ⟨z, [.int i, .int j], rfl, .inr ⟨_, _, _, l, rfl, rfl, (show 2 ≤ 16777216 by decide), .cons ⟨_, rfl⟩ (.cons ⟨_, rfl⟩ .nil)⟩, DVs.cons rfl (DVs.cons rfl DVs.nil)⟩
def nts (ts : List Nat) : D := .tup (ts.map fun (t : Nat) => D.int (t : Int))
theorem inD_nat (i : Nat) (ts : List Nat) : inD (.int (i : Int)) (ts.map fun (t : Nat) => D.int (t : Int)) = decide (i ∈ ts) := by
  induction ts with
  | nil => rfl
  | cons t ts ih =>
    unfold inD inV at ih ⊢
    simp only [List.map_cons, List.any_cons] at ih ⊢
    rw [ih]
    have : eqV (fl (.int (t : Int))) (fl (.int (i : Int))) = decide (i = t) := by
      show ((t : Int) == (i : Int)) = decide (i = t)
      by_cases h : i = t
      · subst h; simp
      · rw [decide_eq_false h]; simp; omega
    rw [this]
    simp
end DL
namespace DL
theorem fr_at {qs : List Rat} {i : Nat} {x : D} (h : (qs.map fr)[i]? = some x) : ∃ q, qs[i]? = some q ∧ x = fr q := by
  rw [List.getElem?_map] at h
  cases e : qs[i]? with
  | none => rw [e] at h; cases h
  | some q => rw [e] at h; exact ⟨q, rfl, (Option.some.inj h).symm⟩
theorem take_succ_sum {qs : List Rat} {i : Nat} {q : Rat} (h : qs[i]? = some q) : (qs.take (i + 1)).sum = (qs.take i).sum + q := by
  rw [List.take_succ, h, List.sum_append]
  simp only [Option.toList_some, List.sum_cons, List.sum_nil]
  grind

theorem idx_len : ∀ (ps : List (Rat × Bool)) (k : Nat), (idx k ps).length ≤ ps.length
  | [], _ => Nat.le_refl _
  | (q, b) :: ps, k => by
    have := idx_len ps (k + 1)
    unfold idx
    cases b <;> simp <;> omega
theorem idx_lt (ps : List (Rat × Bool)) (t : Nat) (h : t ∈ idx 0 ps) : t < ps.length := by
  obtain ⟨q, hq⟩ := (idx_mem ps 0 t).mp (by rw [Nat.zero_add]; exact h)
  cases Nat.lt_or_ge t ps.length with
  | inl h => exact h
  | inr h2 => rw [List.getElem?_eq_none h2] at hq; cases hq
theorem idx_asc : ∀ (ps : List (Rat × Bool)) (k : Nat), (idx k ps).Pairwise (· < ·)
  | [], _ => .nil
  | (q, b) :: ps, k => by
    have := idx_asc ps (k + 1)
    unfold idx
    cases b with
    | false => simpa using this
    | true => exact .cons (fun i hi => idx_ge ps _ _ hi) this
theorem idx_ne {ps : List (Rat × Bool)} (h : ps.any (·.2) = true) : idx 0 ps ≠ [] := fun z => by
  obtain ⟨x, hx, hb⟩ := List.any_eq_true.mp h
  obtain ⟨j, hj, rfl⟩ := List.mem_iff_getElem.mp hx
  have := (idx_mem ps 0 j).mpr ⟨ps[j].1, by rw [List.getElem?_eq_getElem hj, ← hb]⟩
  rw [z] at this
  cases this
theorem tog_len (T : Rat) : ∀ ps : List (Rat × Bool), (tog T ps).length ≤ ps.length
  | [] => Nat.le_refl _
  | (q, false) :: ps => by
    have := tog_len T ps
    show (q :: tog T ps).length ≤ _
    simp; omega
  | (q, true) :: ps => by
    have := List.length_filter_le (fun x : Rat × Bool => !x.2) ps
    show (T :: (ps.filter (!·.2)).map (·.1)).length ≤ _
    simp; omega
def pickD (qs : List Rat) : D → D
  | .int t => fr (qs[t.toNat]?.getD 0)
  | d => d
def mulD (a : Rat) : D → D
  | .tup [.int n, .int m] => fr (a * ((n : Rat) / (m : Rat)))
  | d => d
theorem mulD_fr (a q : Rat) : mulD a (fr q) = fr (a * q) := by
  show fr (a * ((q.num : Rat) / (((q.den : Nat) : Int) : Rat))) = fr (a * q)
  rw [num_div_den']
theorem sel_vals (ps : List (Rat × Bool)) : ((idx 0 ps).map fun (t : Nat) => D.int (t : Int)).map (pickD (ps.map (·.1))) = (sel ps).map fr := by
  have h := idx_get ps 0
  rw [List.map_map]
  have e : (idx 0 ps).map (fun (t : Nat) => fr ((ps.map (·.1))[t]?.getD 0)) = ((idx 0 ps).map fun i => (ps.map (·.1))[i - 0]?).map fun o => fr (o.getD 0) := by rw [List.map_map]; rfl
  have e2 : ((sel ps).map some).map (fun o => fr (o.getD 0)) = (sel ps).map fr := by rw [List.map_map]; rfl
  rw [← e2, ← h, ← e]
  rfl
theorem prods_len (as bs : List Rat) : (prods as bs).length = as.length * bs.length := by
  unfold prods
  induction as with
  | nil => simp
  | cons a as ih => rw [List.flatMap_cons, List.length_append, ih, List.length_map, List.length_cons, Nat.succ_mul]; omega

theorem trues {xs : List D} : (xs.map fun _ => D.bl true) = (xs.map fun _ => true).map D.bl := by rw [List.map_map]; rfl
theorem num_pos' {q : Rat} (h : 0 < q) : 0 < q.num := by
  have h1 := Rat.num_nonneg.mpr (Rat.le_of_lt h)
  rcases Int.lt_or_eq_of_le h1 with h2 | h2
  · exact h2
  · have := num_div_den' q
    rw [← h2, Rat.intCast_zero, Rat.div_def, Rat.zero_mul] at this
    rw [← this] at h
    exact absurd h (by decide +kernel)

theorem sameD.ext : ∀ {n : Nat} {S S' : Sto} {x y : D}, sameD S n x y → Ext S S' → sameD S' n x y
  | 0, _, _, _, _, h, _ => h.elim
  | n + 1, S, S', x, y, h, e => by
    have lst : (∃ xs ys, RdL S y xs ∧ RdL S x ys ∧ ys.length = xs.length ∧ xs.length < 1000000 ∧ ∀ (i : Nat) u v, ys[i]? = some u → xs[i]? = some v → sameD S n u v) →
        ∃ xs ys, RdL S' y xs ∧ RdL S' x ys ∧ ys.length = xs.length ∧ xs.length < 1000000 ∧ ∀ (i : Nat) u v, ys[i]? = some u → xs[i]? = some v → sameD S' n u v :=
      fun ⟨xs, ys, hx, hy, hl, hb, hq⟩ => ⟨xs, ys, e.rd hx, e.rd hy, hl, hb, fun i u v h1 h2 => (hq i u v h1 h2).ext e⟩
    cases y with
    | non => exact h
    | bl b => exact h
    | int b => exact h
    | str b => exact h
    | tup xs =>
      obtain ⟨ys, h1, hl, hb, hq⟩ := h
      exact ⟨ys, h1, hl, hb, fun i u v h1 h2 => (hq i u v h1 h2).ext e⟩
    | ty _ => exact lst h
    | ref _ => exact lst h
    | fro _ => exact lst h
    | exc _ _ => exact lst h
end DL
set_option Elab.async false
set_option linter.all false
set_option maxRecDepth 100000
set_option maxHeartbeats 4000000
namespace DL
open PySem PySem.Spec PyProof.Rows L2
section
variable {X : Cx} {y : DXw}
/-! ### list.pop(i), zip of lists, range with a step, is True -/
def dPopAt : RMt := fun o ds S R => match o, ds with
  | .ref a, [.int i] => ∃ xs k d, S a = some (.lst xs) ∧ -(2 ^ 63) ≤ i ∧ i < 2 ^ 63 ∧ seqIndex? i xs.length = some k ∧ xs[k]? = some d ∧ R d (sup S a (.lst (xs.eraseIdx k)))
  | _, _ => False
theorem DVs.eraseIdx {K : PySem.W.Frag} {H : Hp} : ∀ {ds : List D} {vs : List V} (k : Nat), DVs K H ds vs → DVs K H (ds.eraseIdx k) (vs.eraseIdx k)
  | [], vs, k, h => by cases (show vs = [] from h); exact rfl
  | d :: ds, vs, 0, h => by
    obtain ⟨v, ws, rfl, _, h2⟩ := h
    exact h2
  | d :: ds, vs, k + 1, h => by
    obtain ⟨v, ws, rfl, h1, h2⟩ := h
    exact ⟨v, _, rfl, h1, DVs.eraseIdx k h2⟩
theorem md_popAt : MtR X "list.pop" (lmt X.K dPopAt) := by
  intro pins s σ H v vs vv us Q I rv rs h
  obtain ⟨o, ds, S, R, dv, dvs, so, h, k⟩ := h
  refine mt_popAt pins s σ H v vs vv us Q I rv rs ?_
  unfold dPopAt at h
  split at h
  · rename_i a i
    obtain ⟨xs, j, d, e, h1, h2, h3, h4, h⟩ := h
    cases (show v = V.ref a from dv)
    obtain ⟨w, ws, rfl, dw, q⟩ := dvs
    cases (show ws = [] from q)
    cases (show w = V.int i from dw)
    obtain ⟨zs, e1, r⟩ := so a _ e
    obtain ⟨z, hz, dz⟩ := r.get h4
    have g := Go.setLst so e (r.eraseIdx j)
    exact ⟨a, zs, i, j, z, rfl, rfl, e1, h1, h2, by rw [← r.length]; exact h3, hz, k d _ z _ g (DV.wr e1 (.inl ⟨_, rfl⟩) _ _ dz) h⟩
  · exact h.elim
def dIsB : ROp
  | .bl a, .bl b, S, R => R (.bl (decide (a = b))) S
  | _, _, _, _ => False
def dNotB : ROp
  | .bl a, .bl b, S, R => R (.bl (!decide (a = b))) S
  | _, _, _, _ => False
theorem od_isB : OpR X (compareOp .Is) (lop X.K dIsB) := by
  intro pins s σ H v w vv ww Q I rv rw' h
  obtain ⟨x, z, S, R, dx, dy, so, h, k⟩ := h
  refine op_isBl pins s σ H v w vv ww Q I rv rw' ?_
  cases x <;> cases z <;> first | exact False.elim h | skip
  case bl.bl a b => exact ⟨a, b, dx, dy, k (.bl (decide (a = b))) S _ H (Go.refl so) rfl h⟩
theorem od_notB : OpR X (compareOp .IsNot) (lop X.K dNotB) := by
  intro pins s σ H v w vv ww Q I rv rw' h
  obtain ⟨x, z, S, R, dx, dy, so, h, k⟩ := h
  refine op_notBl pins s σ H v w vv ww Q I rv rw' ?_
  cases x <;> cases z <;> first | exact False.elim h | skip
  case bl.bl a b => exact ⟨a, b, dx, dy, k (.bl (!decide (a = b))) S _ H (Go.refl so) rfl h⟩
/-- range(i, j, c) of n items -/
def rgC (lo c : Int) (n : Nat) : List D := (List.range n).map fun (i : Nat) => D.int (lo + (i : Int) * c)
def rRng3 (ta : RA) : RI := fun ρ S R => ta ρ S fun ds S1 => match ds with
  | [.int i, .int j, .int c] => ∃ n : Nat, RgC i j c n ∧ R (rgC i c n) (fun _ => True) S1
  | _ => False
theorem jok_rangeC {K : PySem.W.Frag} {H1 : Hp} {S1 : Sto} {lo c : Int} {n : Nat} : JOk K H1 S1 (Itc lo c n) (rgC lo c n) (fun _ => True) := by
  intro i H S g _
  unfold rgC
  refine ⟨fun x hx => ?_, fun hn => ?_⟩
  · rw [List.getElem?_map] at hx
    by_cases hi : i < n
    · rw [List.getElem?_range hi] at hx
      cases (Option.some.inj hx)
      exact ⟨hi, fun v H' ⟨e1, e2⟩ => by subst e1 e2; exact ⟨Go.refl g.ok, rfl⟩⟩
    · rw [List.getElem?_eq_none (by simpa using hi)] at hx; cases hx
  · rw [List.getElem?_eq_none_iff] at hn
    have : n ≤ i := by simpa using hn
    exact this
theorem pdi_range3 {tg a b c : Expr} {ta : RA} {p pos : Pos} (hm : X.mg "range" = none) (ha : PDA X y [a, b, c] ta) (hg : Gl X "range" := by rfl) (hs : starEach [a, b, c] X.env = (false, eval a X.env) :: starEach [b, c] X.env := by rfl) (hpl : (backTo pos (starEach [b, c] X.env)).any (·.1) = false := by rfl) :
    PDI X y tg (.Call (.Name "range" p) [a, b, c] [] pos) (rRng3 ta) := by
  refine PDI.of (pi_range3 hg hm ha hs hpl) fun σ H R h => ?_
  obtain ⟨ρ, S, Rd, sr, so, h, k⟩ := h
  refine ⟨ρ, S, _, sr, so, h, fun ds S1 vs H1 g dvs hn h1 => ?_⟩
  split at h1
  · rename_i i j c
    obtain ⟨v, ws, rfl, dv, v2, ws2, rfl, dv2, v3, ws3, rfl, dv3, q⟩ := dvs
    cases (show ws3 = [] from q)
    cases (show v = V.int i from dv)
    cases (show v2 = V.int j from dv2)
    cases (show v3 = V.int c from dv3)
    obtain ⟨n, h2, h3⟩ := h1
    exact ⟨i, j, c, n, rfl, h2, k _ _ _ _ _ g jok_rangeC h3⟩
  · exact h1.elim
/-- zip of two lists: as they stand at each turn -/
def zpD (xs zs : List D) : List D := (xs.zip zs).map fun p => D.tup [p.1, p.2]
def rZip (ta : RA) : RI := fun ρ S R => ta ρ S fun ds S1 => match ds with
  | [d, e] => ∃ xs zs, RdL S1 d xs ∧ RdL S1 e zs ∧ R (zpD xs zs) (fun S' => RdL S' d xs ∧ RdL S' e zs) S1
  | _ => False
theorem jok_zip {K : PySem.W.Frag} {H1 : Hp} {S1 : Sto} {d e : D} {v w : V} {a b : Addr} {xs zs : List D} (dv : DV K H1 d v) (dw : DV K H1 e w) (ev : v = .ref a) (ew : w = .ref b) : JOk K H1 S1 (Itz K a b) (zpD xs zs) (fun S' => RdL S' d xs ∧ RdL S' e zs) := by
  intro i H S g hr
  obtain ⟨a', vs, e1, q1, r1⟩ := RdL.sq g.ok hr.1 (DV.go g _ _ dv)
  obtain ⟨b', ws, e2, q2, r2⟩ := RdL.sq g.ok hr.2 (DV.go g _ _ dw)
  rw [ev] at e1; cases e1
  rw [ew] at e2; cases e2
  unfold zpD
  refine ⟨fun x hx => ?_, fun hn => ⟨vs, ws, q1, q2, ?_⟩⟩
  · rw [List.getElem?_map] at hx
    cases ez : (xs.zip zs)[i]? with
    | none => rw [ez] at hx; cases hx
    | some p =>
      rw [ez] at hx
      cases (Option.some.inj hx)
      obtain ⟨p1, p2⟩ := p
      obtain ⟨hx1, hx2⟩ := List.getElem?_zip_eq_some.mp ez
      obtain ⟨u, hu, du⟩ := r1.get hx1
      obtain ⟨t, ht, dt⟩ := r2.get hx2
      refine ⟨⟨vs, ws, u, t, q1, q2, hu, ht⟩, fun v' H' ⟨T, x1, y1, ev', hT, eH, ha, hb⟩ => ?_⟩
      have f1 := ha vs q1
      have f2 := hb ws q2
      rw [hu] at f1
      rw [ht] at f2
      cases (Option.some.inj f1)
      cases (Option.some.inj f2)
      subst ev' eH
      have g2 := Go.new (K := K) (o := .tup [u, t]) g.ok hT
      exact ⟨g2, T, _, rfl, .inl upd_same, DVs.cons (DV.go g2 _ _ du) (DVs.cons (DV.go g2 _ _ dt) DVs.nil)⟩
  · rw [List.getElem?_eq_none_iff, List.length_map, List.length_zip] at hn
    rw [← r1.length, ← r2.length]
    omega
theorem pdi_zip {e e2 : Expr} {ta : RA} {p pos tpos : Pos} {elts : List Expr} {kk : Nat} (hm : X.mg "zip" = none) (ha : PDA X y [e, e2] ta) (hg : Gl X "zip" := by rfl)
    (hs : starEach [e, e2] X.env = (false, eval e X.env) :: starEach [e2] X.env := by rfl) (hpl : (backTo pos (starEach [e2] X.env)).any (·.1) = false := by rfl) :
    PDI X y (.Tuple elts kk tpos) (.Call (.Name "zip" p) [e, e2] [] pos) (rZip ta) := by
  refine PDI.of (pi_zip hg hm ha hs hpl) fun σ H R h => ?_
  obtain ⟨ρ, S, Rd, sr, so, h, k⟩ := h
  refine ⟨ρ, S, _, sr, so, h, fun ds S1 vs H1 g dvs hn h1 => ?_⟩
  split at h1
  · rename_i d1 d2
    obtain ⟨v, ws, rfl, dv, v2, ws2, rfl, dv2, q⟩ := dvs
    cases (show ws2 = [] from q)
    obtain ⟨xs, zs, hx, hz, h1⟩ := h1
    obtain ⟨a, us, rfl, q1, r1⟩ := hx.sq g.ok dv
    obtain ⟨b, ts, rfl, q2, r2⟩ := hz.sq g.ok dv2
    exact ⟨a, b, us, ts, rfl, q1, q2, k _ _ _ _ _ g (jok_zip dv dv2 rfl rfl) h1⟩
  · exact h1.elim

/-! ### sorted(set(list of ints)) -/
end
section
variable {P : Program} {w : World} {A : Around} {E : Value → Shared → Prop} {s : Shared}
theorem call_set_listI {l : Addr} {items : Array Value} (ns : List Int) {Q : Value → Shared → Prop} (hh : A.handled = none) (hl : s.heap.IsList l items) (hit : IntsAre items.toList ns) (hb : ns.length + 1 < scanBound)
    (h : ∀ (h' : Heap) (tk c : Nat), SetR w h' s.heap.objs.size (fun j => decide (j ∈ ns)) c → c ≤ ns.length → (∀ b o, s.heap.get? b = some o → h'.get? b = some o) → Q (.ref s.heap.objs.size) { s with heap := h', toks := tk }) :
    wpAny (model P w) A (call (.type "set") [.ref l]) Q E s := by
  have hisz : items.size = ns.length := by
    have q := IntsAre.length hit
    rw [Array.length_toList] at q
    exact q
  obtain ⟨c, tl, hmro⟩ := F.called_set.mro
  have hmade := F.called_set.made
  have hsub := F.called_set.sub
  refine wpAny_call (codeAny_of_tree ?_)
  show wpAny _ _ (callAny (.type "set") _) _ _ _
  refine wpAny_pure ⟨Code.quiet_builtin _ (by decide +kernel), codeAny_builtin F.entry_type_call ?_⟩
  rw [Around.under_plain (weight_type_call_type "set" [.ref l] []) rfl]
  have h1 := F.called_set.notType
  have h2 := F.called_set.canCreate
  have hct := F.typeCall_set_1 (.ref l)
  repeat (any_goals (first | assumption | wp_step))
  refine codeAny_mono (code_set_led1 (.ref l) (E := E) (Q₁ := fun obj s₁ => obj = .ref s.heap.objs.size ∧ s₁ = { s with heap := s.heap.push { cls := .type "set", dict := none, data := .set #[] 0 (.fresh 0 0 (!w.params.followText "set-order")) } }) ⟨rfl, rfl⟩) fun r s₁ hr => ?_
  cases r with
  | error e => exact hr
  | ok fl =>
    cases fl with
    | ret obj =>
      obtain ⟨rfl, rfl⟩ := hr
      obtain ⟨h0, eh0⟩ : ∃ h0, h0 = s.heap.push { cls := .type "set", dict := none, data := .set #[] 0 (.fresh 0 0 (!w.params.followText "set-order")) } := ⟨_, rfl⟩
      rw [← eh0]
      have hS : h0.get? s.heap.objs.size = some { cls := .type "set", dict := none, data := .set #[] 0 (.fresh 0 0 (!w.params.followText "set-order")) } := by rw [eh0]; exact Heap.get?_push_size _ rfl
      have hz0 : h0.objs.size = s.heap.objs.size + 1 := by rw [eh0]; exact Heap.size_push ..
      have keep0 : ∀ b o, s.heap.get? b = some o → h0.get? b = some o := fun b o e => by rw [eh0]; exact Heap.get?_push_of_some _ e
      have hT : Shared.TypeIs { s with heap := h0 } (.ref s.heap.objs.size) "set" := ⟨_, hS, rfl⟩
      have hli := F.called_set.init.lookup
      have hbi := F.called_set.init.bind (.ref s.heap.objs.size)
      repeat (any_goals (first | assumption | wp_step))
      refine codeAny_mono (codeAny_call_builtin (R := wants (fun r s₂ => r = .none ∧ ∃ h' tk c, s₂ = { s with heap := h', toks := tk } ∧ SetR w h' s.heap.objs.size (fun j => decide (j ∈ ns)) c ∧ c ≤ ns.length ∧
          (∀ b o, s.heap.get? b = some o → h'.get? b = some o)) E) F.called_set.init.plain F.entry_set_init (check_set_init_1 hT ?_)) fun r₂ s₂ hr₂ => ?_
      · obtain ⟨ol, hol, hcl, nl, hdl⟩ := hl
        obtain ⟨ocls, odict, odata, oslots⟩ := ol
        simp only at hcl hdl
        subst hcl; subst hdl
        have hol' := keep0 _ _ hol
        have hsls := F.sub_list_set
        have hslf := F.sub_list_frozenset
        have hne : (Value.type "list" == Value.type "dict") = false := by decide
        have hl1 : h0.IsList l items := ⟨_, hol', rfl, nl, rfl⟩
        unfold Builtin.«set.__init__» noKeywords Builtin.Frozenset.updateFrom
        generalize hPI : pyIter = PI
        wp_walk
        subst hPI
        refine wpAny_pyIter_list hl1 ?_
        refine wpAny_bind (wpAny_runValue ?_)
        have hlS : l < s.heap.objs.size := Heap.lt_size hol
        have hh3 : A.in1.in1.in1.handled = none := by simp [hh]
        have hneI : l ≠ h0.objs.size := by rw [hz0]; exact Nat.ne_of_lt (Nat.lt_succ_of_lt hlS)
        have hSf : s.heap.objs.size ∉ [h0.objs.size, l] := by
          rw [hz0]; simp only [List.mem_cons, List.mem_singleton, List.not_mem_nil, or_false, not_or]
          exact ⟨Nat.ne_of_lt (Nat.lt_succ_self _), Nat.ne_of_gt hlS⟩
        have hval : ∀ (i : Nat) (v : Value), items[i]? = some v → ∃ k t, ns[i]? = some k ∧ v = .int k t := fun i v hv => by
          have hi : i < ns.length := by rw [← hisz]; exact (Array.getElem?_eq_some_iff.mp hv).1
          obtain ⟨t, e⟩ := PyProof.Rows.IntsAre.int_at hit i v (by rw [Array.getElem?_toList]; exact hv)
          refine ⟨ns[i], t, List.getElem?_eq_getElem hi, ?_⟩
          rw [e, List.getD_eq_getElem?_getD, List.getElem?_eq_getElem hi] <;> rfl
        refine set_update_ints ((Walks.list hh3 _ l hneI items).toS) s.heap.objs.size hSf ns hisz hb hval (items.size - 0) 0 _ (by omega) (Nat.zero_le _)
          ⟨⟨_, Heap.get?_push_size _ rfl, rfl, rfl⟩, (hl1.push _)⟩ ⟨0, Nat.le_refl 0, setR_new_at (Heap.get?_push_of_some _ hS)⟩ ?_
        intro s' c' hm hc' hS'
        obtain ⟨h', g2, d', tk', os'⟩ := s'
        have eg : g2 = s.gens := hm.gens
        have ed : d' = s.drawn := hm.drawn
        have eo : os' = s.os := hm.os
        subst eg; subst ed; subst eo
        refine wpAny_pure ?_
        show wpAny _ _ (ret Value.none) _ _ _
        rw [hisz] at hc'
        refine wpAny_pure ⟨rfl, h', tk', c', rfl, hS', hc', fun b o e => ?_⟩
        have hb0 : b < s.heap.objs.size := Heap.lt_size e
        exact hm.heap b o (by rw [hz0]; simp only [List.mem_cons, List.mem_singleton, List.not_mem_nil, or_false, not_or]; exact ⟨Nat.ne_of_lt hb0, Nat.ne_of_lt (Nat.lt_succ_of_lt hb0)⟩) (Heap.get?_push_of_some _ (keep0 b o e))
      · cases r₂ with
        | error e => exact hr₂
        | ok fl₂ =>
          cases fl₂ with
          | ret r =>
            obtain ⟨rfl, h', tk, c', rfl, hS', hc', hk'⟩ := hr₂
            repeat (any_goals (first | assumption | wp_step))
            exact h _ _ _ hS' hc' hk'
          | _ => exact hr₂.elim
    | _ => exact hr.elim
end
section
variable {X : Cx} {y : DXw}
def rSetOfI (K : PySem.W.Frag) (w : World) : List V → Hp → VK → Prop := fun xs H Q => ∃ (l : Addr) (ns : List Int), xs = [V.ref l] ∧ SqL K H l (ns.map V.int) ∧ ns.length < 64 ∧
  ∀ (a : Addr) (c : Nat), H a = none → c ≤ ns.length → Q (.ref a) (upd H a (SetO w a (fun j => decide (j ∈ ns)) c))
theorem cr_setOfI (hc : X.calm = true) : CallR X (.type "set") (rSetOfI X.K X.w) := by
  intro pins s σ H xs us Q I r h
  obtain ⟨l, ns, rfl, hl, hf, q⟩ := h
  rw [Vals.ref1 r]
  obtain ⟨its, rv, pl, hz⟩ := I.list hl
  have hn : H s.heap.objs.size = none := I.hok.fresh (Nat.le_refl _)
  refine call_set_listI (P := X.prog) (w := X.w) ns (I.ok.hd hc) pl.isList (by simpa using ints_of_vals rv) (by unfold scanBound; omega) fun h' tk c R hcn k => ?_
  exact ⟨.ref s.heap.objs.size, upd H s.heap.objs.size (SetO X.w s.heap.objs.size (fun j => decide (j ∈ ns)) c), I.laid (t' := tk) k (Nat.le_refl _) (setO_new R), rfl, q _ c hn hcn⟩
def rSortSet (te : RE) : RE := fun ρ S Q => te ρ S fun d S1 => ∃ ns : List Int, RdL S1 d (ns.map D.int) ∧ ns.length < 64 ∧
  ∀ (ms : List Int) p, ms.Pairwise (· < ·) → (∀ k, k ∈ ms ↔ k ∈ ns) → S1 p = none → Q (.ref p) (sup S1 p (.lst (ms.map D.int)))
theorem pd_sortedSet {e : Expr} {te : RE} {p p2 pos pos2 : Pos} (hc : X.calm = true) (hm : X.mg "sorted" = none) (hm2 : X.mg "set" = none) (he : PD X y e te) (hg : Gl X "sorted" := by rfl) (hg2 : Gl X "set" := by rfl)
    (h1 : starEach [.Call (.Name "set" p2) [e] [] pos2] X.env = (false, eval (.Call (.Name "set" p2) [e] [] pos2) X.env) :: starEach [] X.env := by rfl) (h2 : starEach [e] X.env = (false, eval e X.env) :: starEach [] X.env := by rfl) :
    PD X y (.Call (.Name "sorted" p) [.Call (.Name "set" p2) [e] [] pos2] [] pos) (rSortSet te) := by
  refine PD.of (pe_callB (cr_sortedSet hc) hg hm (by decide +kernel) (pa_cons (pe_callTy (cr_setOfI hc) hg2 hm2 (by decide +kernel) (pa_cons he pa_nil (hs := h2)) (he := h2)) pa_nil (hs := h1)) (he := h1)) fun σ H Q h => ?_
  obtain ⟨ρ, S, R, sr, so, h, k⟩ := h
  refine ⟨ρ, S, _, sr, so, h, fun d S1 v H1 g1 dv hq => ?_⟩
  obtain ⟨ns, hx, hl, hQ⟩ := hq
  obtain ⟨a, vs, rfl, q, r⟩ := hx.sq g1.ok dv
  have ev := r.ints
  subst ev
  refine ⟨a, ns, rfl, q, hl, fun b c hb hcn => ?_⟩
  have g2 := Go.new (K := X.K) (o := SetO X.w b (fun j => decide (j ∈ ns)) c) g1.ok hb
  refine ⟨b, _, c, rfl, upd_same, by omega, fun ms p3 pw hm hlen hp => ?_⟩
  have g3 := Go.newLst g2.ok hp (DVs.of_ints (ns := ms))
  exact k (.ref p3) _ _ _ ((g1.trans g2).trans g3) rfl (hQ ms p3 pw (fun z => (hm z).trans (by simp)) (g2.ok.free hp))
end
end DL
namespace DL
open PySem PySem.Spec PyProof.Rows L2
def frP (q : Rat) : PyData := .tuple [.int q.num, .int (q.den : Int)]
theorem pyrs_frs {S : Sto} : ∀ qs : List Rat, PyRs S (qs.map fr) (qs.map frP)
  | [] => .nil
  | q :: qs => .cons (pyr_fr q) (pyrs_frs qs)
theorem lay_frs : ∀ qs : List Rat, PyData.canLayAll0 (qs.map frP) = true
  | [] => rfl
  | q :: qs => by
    show (PyData.canLay0 (frP q) && PyData.canLayAll0 (qs.map frP)) = true
    rw [lay_frs qs]
    rfl
theorem dep_frs : ∀ qs : List Rat, PyData.depthAll (qs.map frP) ≤ 3
  | [] => by simp [PyData.depthAll]
  | q :: qs => by
    have := dep_frs qs
    have h : PyData.depth (frP q) ≤ 3 := by simp [frP, PyData.depth, PyData.depthAll]
    simp only [List.map_cons, PyData.depthAll]
    omega
theorem shaped_frs (qs : List Rat) : SeqAt.shaped (.list (qs.map frP)) = true := by
  have h1 := lay_frs qs
  have h2 := dep_frs qs
  unfold SeqAt.shaped
  rw [show PyData.canLay0 (.list (qs.map frP)) = PyData.canLayAll0 (qs.map frP) from by simp [PyData.canLay0], h1, Bool.true_and]
  apply decide_eq_true
  simp only [PyData.depth]
  omega
end DL
set_option Elab.async false
set_option linter.all false
set_option maxRecDepth 100000
set_option maxHeartbeats 4000000
namespace DL
open PySem PySem.Spec PyProof.Rows L2 RZ
/-! ### tuple * int -/
theorem tuple_mul1 (l : Addr) (items : Array Value) (n : Nat) (dd : Option Addr) (sl : Array (Option Value)) (u : Tok) :
    Meets (Builtin.«tuple.__mul__» ⟨[.ref l, .int 1 u], []⟩) (fun _ R s => s.heap.get? l = some { cls := .type "tuple", dict := dd, data := .seq items n, slots := sl } ∧ R (.ok (.ret (Value.ref l))) s) :=
  .of_wp fun prog w A R s h => by
    obtain ⟨hp, g, d, tk, os⟩ := s
    obtain ⟨hl, h⟩ := h
    have f1 := AutoSeq1.idx_int
    have c1 : (items.isEmpty || (1 : Int) == 1) = true := by simp
    wp_walk using wpAny_loadPart' hl
    exact ⟨_, rfl, h⟩
section
variable {X : Cx} {y : DXw}
theorem op_repT1 : OpR X (binaryOp .Mult) (fun x y H Q => ∃ l xs, x = .ref l ∧ y = .int 1 ∧ SqT X.K H l xs ∧ Q (.ref l) H) := by
  intro pins s σ H x y v u Q I rx ry h
  obtain ⟨l, xs, rfl, rfl, hT, q⟩ := h
  cases rx
  obtain ⟨t, rfl⟩ := ry
  obtain ⟨its, r, ⟨⟨cls, dd, data, sl⟩, ho, hc, n, hd⟩, hs⟩ := I.tuple hT
  simp only at hc hd
  subst hc hd
  refine wpAny_binaryOp_repeat_ref (T := "tuple") (U := "int") (by decide) ⟨_, ho, rfl⟩ (fun s' => typeIs_int s' 1 t) noFill_tuple_mul F.fills_int_mul F.slot_int_rmul repeat_tuple F.slot_int_index.lookup
    (call_meets F.slot_int_rmul (typeIs_int s 1 t) F.entry_int_rmul (F.args_int_rmul_2 _ _) (int_rmul_tuple 1 t l its.toArray n dd sl)
      ⟨ho, rfl, ⟨_, ho, rfl⟩, call_meets F.slot_tuple_mul ⟨_, ho, rfl⟩ F.entry_tuple_mul (F.args_tuple_mul_2 _ _) (tuple_mul1 l its.toArray n dd sl t) ⟨ho, ?_⟩⟩)
  exact ⟨.ref l, H, I, rfl, q⟩
theorem DVs.rep {K : PySem.W.Frag} {H : Hp} {ds : List D} {vs : List V} (r : DVs K H ds vs) : ∀ n : Nat, DVs K H (List.replicate n ds).flatten (List.replicate n vs).flatten
  | 0 => DVs.nil
  | n + 1 => by rw [List.replicate_succ, List.replicate_succ, List.flatten_cons, List.flatten_cons]; exact r.append (DVs.rep r n)
def dMulT : ROp
  | .tup xs, .int k, S, R => xs ≠ [] ∧ 1 ≤ k ∧ k ≤ 1000 ∧ xs.length ≤ 1000 ∧ R (.tup (List.replicate k.toNat xs).flatten) S
  | _, _, _, _ => False
theorem od_mulT : OpR X (binaryOp .Mult) (lop X.K dMulT) := by
  intro pins s σ H v w vv ww Q I rv rw' h
  obtain ⟨x, y, S, R, dx, dy, so, h, k⟩ := h
  cases x <;> cases y <;> first | exact False.elim h | skip
  case tup.int xs j =>
    obtain ⟨a, vs, rfl, q, r⟩ := dx
    cases (show w = V.int j from dy)
    obtain ⟨hne, h1, h2, hl, h⟩ := h
    by_cases hj : j = 1
    · subst hj
      refine op_repT1 pins s σ H _ _ vv ww Q I rv rw' ⟨a, vs, rfl, rfl, q.sq, k (.tup _) S _ H (Go.refl so) ⟨a, vs, rfl, q, ?_⟩ h⟩
      rw [show (List.replicate (1 : Int).toNat xs).flatten = xs by simp]
      exact r
    · refine op_repT pins s σ H _ _ vv ww Q I rv rw' ⟨a, j, vs, rfl, rfl, q.sq, fun z => hne ?_, by omega, h2, by rw [← r.length]; exact hl, fun p hp => ?_⟩
      · have := r.length
        rw [z] at this
        exact List.eq_nil_of_length_eq_zero this
      · have g := Go.new (K := X.K) (o := .tup (List.replicate j.toNat vs).flatten) so hp
        exact k (.tup _) S _ _ g ⟨p, _, rfl, .inl upd_same, DVs.rep (DVs.go g _ _ r) _⟩ h
/-! ### max of a list -/
def dMax1 : RCall := fun ds S Q => match ds with
  | [d] => ∃ ns : List Int, RdL S d (ns.map D.int) ∧ 0 < ns.length ∧ ∀ m, m ∈ ns → (∀ y, y ∈ ns → y ≤ m) → Q (.int m) S
  | _ => False
theorem cd_max1 (hc : X.calm = true) : CallR X (.builtin "max") (lcl X.K dMax1) := by
  intro pins s σ H vs us Q I rv h
  obtain ⟨ds, S, R, dv, so, h, k⟩ := h
  unfold dMax1 at h
  split at h
  · rename_i d
    obtain ⟨v, rfl, r⟩ := dvs1 dv
    obtain ⟨ns, hx, hl, hq⟩ := h
    obtain ⟨a, ws, rfl, q, rr⟩ := hx.sq so r
    cases rr.ints
    exact cr_max hc pins s σ H _ us Q I rv ⟨a, ns, rfl, q, hl, fun m hm hy => k (.int m) S _ H (Go.refl so) rfl (hq m hm hy)⟩
  · exact h.elim
/-! ### zip of two tuples, or of two lists -/
def rZipA (ta : RA) : RI := fun ρ S R => ta ρ S fun ds S1 => match ds with
  | [.tup xs, .tup zs] => R (zpD xs zs) (fun _ => True) S1
  | [d, e] => ∃ xs zs, RdL S1 d xs ∧ RdL S1 e zs ∧ R (zpD xs zs) (fun S' => RdL S' d xs ∧ RdL S' e zs) S1
  | _ => False
theorem jok_zipT {K : PySem.W.Frag} {H1 : Hp} {S1 : Sto} {a b : Addr} {xs zs : List D} {vs ws : List V} (q1 : StT K H1 a vs) (r1 : DVs K H1 xs vs) (q2 : StT K H1 b ws) (r2 : DVs K H1 zs ws) : JOk K H1 S1 (ItzT K a b) (zpD xs zs) (fun _ => True) := by
  intro i H S g _
  have q1 := (g.tup q1).sq
  have q2 := (g.tup q2).sq
  have r1 := DVs.go g _ _ r1
  have r2 := DVs.go g _ _ r2
  unfold zpD
  refine ⟨fun x hx => ?_, fun hn => ⟨vs, ws, q1, q2, ?_⟩⟩
  · rw [List.getElem?_map] at hx
    cases ez : (xs.zip zs)[i]? with
    | none => rw [ez] at hx; cases hx
    | some p =>
      rw [ez] at hx
      cases (Option.some.inj hx)
      obtain ⟨p1, p2⟩ := p
      obtain ⟨hx1, hx2⟩ := List.getElem?_zip_eq_some.mp ez
      obtain ⟨u, hu, du⟩ := r1.get hx1
      obtain ⟨t, ht, dt⟩ := r2.get hx2
      refine ⟨⟨vs, ws, u, t, q1, q2, hu, ht⟩, fun v' H' ⟨T, x1, y1, ev', hT, eH, ha, hb⟩ => ?_⟩
      have f1 := ha vs q1
      have f2 := hb ws q2
      rw [hu] at f1
      rw [ht] at f2
      cases (Option.some.inj f1)
      cases (Option.some.inj f2)
      subst ev' eH
      have g2 := Go.new (K := K) (o := .tup [u, t]) g.ok hT
      exact ⟨g2, T, _, rfl, .inl upd_same, DVs.cons (DV.go g2 _ _ du) (DVs.cons (DV.go g2 _ _ dt) DVs.nil)⟩
  · rw [List.getElem?_eq_none_iff, List.length_map, List.length_zip] at hn
    rw [← r1.length, ← r2.length]
    omega
theorem pdi_zipA {e e2 : Expr} {ta : RA} {p pos tpos : Pos} {elts : List Expr} {kk : Nat} (hm : X.mg "zip" = none) (ha : PDA X y [e, e2] ta) (hg : Gl X "zip" := by rfl)
    (hs : starEach [e, e2] X.env = (false, eval e X.env) :: starEach [e2] X.env := by rfl) (hpl : (backTo pos (starEach [e2] X.env)).any (·.1) = false := by rfl) :
    PDI X y (.Tuple elts kk tpos) (.Call (.Name "zip" p) [e, e2] [] pos) (rZipA ta) := by
  refine PDI.of (pi_zipA hg hm ha hs hpl) fun σ H R h => ?_
  obtain ⟨ρ, S, Rd, sr, so, h, k⟩ := h
  refine ⟨ρ, S, _, sr, so, h, fun ds S1 vs H1 g dvs hn h1 => ?_⟩
  unfold rZipA at h1
  split at h1
  · rename_i xs zs
    obtain ⟨v, ws, rfl, dv, v2, ws2, rfl, dv2, q⟩ := dvs
    cases (show ws2 = [] from q)
    obtain ⟨a, us, rfl, q1, r1⟩ := dv
    obtain ⟨b, ts, rfl, q2, r2⟩ := dv2
    exact ⟨a, b, us, ts, rfl, .inr ⟨q1.sq, q2.sq, k _ _ _ _ _ g (jok_zipT q1 r1 q2 r2) h1⟩⟩
  · rename_i d1 d2 hne
    obtain ⟨v, ws, rfl, dv, v2, ws2, rfl, dv2, q⟩ := dvs
    cases (show ws2 = [] from q)
    obtain ⟨xs, zs, hx, hz, h1⟩ := h1
    obtain ⟨a, us, rfl, q1, r1⟩ := hx.sq g.ok dv
    obtain ⟨b, ts, rfl, q2, r2⟩ := hz.sq g.ok dv2
    exact ⟨a, b, us, ts, rfl, .inl ⟨q1, q2, k _ _ _ _ _ g (jok_zip dv dv2 rfl rfl) h1⟩⟩
  · exact h1.elim
end
end DL
set_option Elab.async false
set_option linter.all false
set_option maxRecDepth 100000
set_option maxHeartbeats 4000000
/-! DO: == and != with an empty list or tuple, [::-1] of lists and tuples, dict displays of written int keys. -/
namespace DL
open PySem PySem.Spec PyProof.Rows L2
section
variable {X : Cx} {y : DXw} {pos p p2 p3 : Pos} {e : Expr} {te : RE}
/-! ### x == [], x == () -/
def dEmp (n : Bool) : ROp := fun x y S R => (∃ xs, x = .tup xs ∧ y = .tup [] ∧ R (.bl (if n then !xs.isEmpty else xs.isEmpty)) S) ∨ ∃ xs, RdL S x xs ∧ RdL S y [] ∧ R (.bl (if n then !xs.isEmpty else xs.isEmpty)) S
theorem isEmpty_vs {α β : Type} {xs : List α} {ys : List β} (h : xs.length = ys.length) : xs.isEmpty = ys.isEmpty := by
  cases xs <;> cases ys <;> first | rfl | (simp at h)
theorem od_eqE (hu : X.A.units + 64 < cLine) : OpR X (compareOp .Eq) (lop X.K (dEmp false)) := by
  intro pins s σ H v w vv ww Q I rv rw' h
  obtain ⟨x, y, S, R, dx, dy, so, h, k⟩ := h
  have fin : ∀ (b : Bool), R (.bl b) S → EP X pins σ Q (.bool b) s := fun b q => ⟨.bl b, H, I, rfl, k (.bl b) S _ H (Go.refl so) rfl q⟩
  rcases h with ⟨xs, rfl, rfl, h⟩ | ⟨xs, hx, hy, h⟩
  · obtain ⟨a, vs, rfl, q, r⟩ := dx
    obtain ⟨b, ws, rfl, q2, r2⟩ := dy
    cases (show ws = [] from r2)
    cases rv
    cases rw'
    obtain ⟨its, rr, ht, hz⟩ := I.tuple q.sq
    obtain ⟨its2, rr2, ht2, hz2⟩ := I.tuple q2.sq
    cases rr2
    obtain ⟨o, ho, hc, n, hd⟩ := ht
    obtain ⟨o2, ho2, hc2, n2, hd2⟩ := ht2
    refine SeqAt.RcAt.tuples (items := its.toArray) (items2 := #[]) (e := fun _ => true) ⟨o, ho, hc, n, hd⟩ ⟨o2, ho2, hc2, n2, hd2⟩ (by omega) (fun j _ h2 => absurd h2 (by simp)) X.prog X.w _ _ ?_
    have e1 : ((List.range (min its.toArray.size (#[] : Array Value).size)).all (fun _ => true) && its.toArray.size == (#[] : Array Value).size) = xs.isEmpty := by
      rw [isEmpty_vs (r.length.trans rr.length)]
      cases its <;> simp
    rw [e1]
    exact fin _ h
  · obtain ⟨a, vs, rfl, q, r⟩ := hx.sq so dx
    obtain ⟨b, ws, rfl, q2, r2⟩ := hy.sq so dy
    cases (show ws = [] from r2)
    cases rv
    cases rw'
    obtain ⟨its, rr, ht, hz⟩ := I.list q
    obtain ⟨its2, rr2, ht2, hz2⟩ := I.list q2
    cases rr2
    have hl := ht.isList
    have hl2 := ht2.isList
    have e0 : xs.isEmpty = its.isEmpty := isEmpty_vs (r.length.trans rr.length)
    cases its with
    | nil =>
      refine SeqAt.RcAt.lists (e := fun _ => true) hl hl2 rfl (by omega) (fun j h1 _ => absurd h1 (by simp)) X.prog X.w _ _ ?_
      rw [show ((List.range (([] : List Value).toArray).size).all fun _ => true) = true from rfl]
      rw [e0] at h
      exact fin _ h
    | cons z its =>
      refine SeqAt.RcAt.lists_lengths hl hl2 (by simp) (by omega) X.prog X.w _ _ ?_
      rw [e0] at h
      exact fin _ h
theorem od_neE (hu : X.A.units + 64 < cLine) : OpR X (compareOp .NotEq) (lop X.K (dEmp true)) := by
  intro pins s σ H v w vv ww Q I rv rw' h
  obtain ⟨x, y, S, R, dx, dy, so, h, k⟩ := h
  have fin : ∀ (b : Bool), R (.bl b) S → EP X pins σ Q (.bool b) s := fun b q => ⟨.bl b, H, I, rfl, k (.bl b) S _ H (Go.refl so) rfl q⟩
  rcases h with ⟨xs, rfl, rfl, h⟩ | ⟨xs, hx, hy, h⟩
  · obtain ⟨a, vs, rfl, q, r⟩ := dx
    obtain ⟨b, ws, rfl, q2, r2⟩ := dy
    cases (show ws = [] from r2)
    cases rv
    cases rw'
    obtain ⟨its, rr, ht, hz⟩ := I.tuple q.sq
    obtain ⟨its2, rr2, ht2, hz2⟩ := I.tuple q2.sq
    cases rr2
    obtain ⟨o, ho, hc, n, hd⟩ := ht
    obtain ⟨o2, ho2, hc2, n2, hd2⟩ := ht2
    refine SeqAt.RcNeAt.tuples (items := its.toArray) (items2 := #[]) (e := fun _ => true) ⟨o, ho, hc, n, hd⟩ ⟨o2, ho2, hc2, n2, hd2⟩ (by omega) (fun j _ h2 => absurd h2 (by simp)) X.prog X.w _ _ ?_
    have e1 : ((List.range (min its.toArray.size (#[] : Array Value).size)).all (fun _ => true) && its.toArray.size == (#[] : Array Value).size) = xs.isEmpty := by
      rw [isEmpty_vs (r.length.trans rr.length)]
      cases its <;> simp
    rw [e1]
    exact fin _ h
  · obtain ⟨a, vs, rfl, q, r⟩ := hx.sq so dx
    obtain ⟨b, ws, rfl, q2, r2⟩ := hy.sq so dy
    cases (show ws = [] from r2)
    cases rv
    cases rw'
    obtain ⟨its, rr, ht, hz⟩ := I.list q
    obtain ⟨its2, rr2, ht2, hz2⟩ := I.list q2
    cases rr2
    have hl := ht.isList
    have hl2 := ht2.isList
    have e0 : xs.isEmpty = its.isEmpty := isEmpty_vs (r.length.trans rr.length)
    cases its with
    | nil =>
      refine SeqAt.RcNeAt.lists (e := fun _ => true) hl hl2 rfl (by omega) (fun j h1 _ => absurd h1 (by simp)) X.prog X.w _ _ ?_
      rw [show ((List.range (([] : List Value).toArray).size).all fun _ => true) = true from rfl]
      rw [e0] at h
      exact fin _ h
    | cons z its =>
      refine SeqAt.RcNeAt.lists_lengths hl hl2 (by simp) (by omega) X.prog X.w _ _ ?_
      rw [e0] at h
      exact fin _ h
end
end DL
set_option Elab.async false
set_option linter.all false
set_option maxRecDepth 100000
set_option maxHeartbeats 4000000
/-! DP: [::-1] of lists and tuples. -/
namespace DL
open PySem PySem.Spec PyProof.Rows L2
section
variable {prog : Program} {w : World} {A : Around} {E : Value → Shared → Prop} {s : Shared}
theorem rev_pick (xs : Array Value) : ((List.range xs.size).filterMap fun (k : Nat) => xs[(((xs.size : Int) - 1) + (k : Int) * (-1)).toNat]?).toArray = xs.toList.reverse.toArray := by
  congr 1
  apply List.ext_getElem?
  intro i
  have e : (List.range xs.size).filterMap (fun (k : Nat) => xs[(((xs.size : Int) - 1) + (k : Int) * (-1)).toNat]?) = (List.range xs.size).pmap (fun k (hk : k < xs.size) => xs[xs.size - 1 - k]'(by omega)) (fun k hk => List.mem_range.mp hk) := by
    have : ∀ (l : List Nat) (hl : ∀ k ∈ l, k < xs.size), l.filterMap (fun (k : Nat) => xs[(((xs.size : Int) - 1) + (k : Int) * (-1)).toNat]?) = l.pmap (fun k (hk : k < xs.size) => xs[xs.size - 1 - k]'(by omega)) hl := by
      intro l
      induction l with
      | nil => intro _; rfl
      | cons k l ih =>
        intro hl
        have hk := hl k (by simp)
        have e2 : (((xs.size : Int) - 1) + (k : Int) * (-1)).toNat = xs.size - 1 - k := by omega
        rw [List.filterMap_cons, e2, Array.getElem?_eq_getElem (by omega), List.pmap_cons, ih fun j hj => hl j (List.mem_cons_of_mem _ hj)]
    exact this _ fun k hk => List.mem_range.mp hk
  rw [e]
  by_cases hi : i < xs.size
  · rw [List.getElem?_eq_getElem (by simpa using hi), List.getElem?_eq_getElem (by simpa using hi)]
    simp
  · rw [List.getElem?_eq_none (by simpa using hi), List.getElem?_eq_none (by simpa using hi)]
theorem rev_applied {sl : Addr} {vl vu vs : Value} {n : Nat} {Q : Int × Int × Nat → Shared → Prop} (hs : s.heap.IsSliceOf sl vl vu vs) (pl : IsPart vl none) (pu : IsPart vu none) (ps : IsPart vs (some (-1)))
    (h : Q ((n : Int) - 1, -1, n) s) : wpAny (model prog w) A (Builtin.Slice.sliceApplied (.ref sl) (pure (n : Int))) Q E s := by
  obtain ⟨os, hos, hcs, hds⟩ := id hs
  unfold Builtin.Slice.sliceApplied Builtin.Slice.sliceFields
  refine wpAny_bind (wpAny_bind (wpAny_field hos hds (x := vl) rfl (wpAny_bind (wpAny_field hos hds (x := vu) rfl (wpAny_bind (wpAny_field hos hds (x := vs) rfl (wpAny_pure ?_)))))))
  refine wpAny_bind (HT.slicePart_ ps ?_)
  show wpAny _ _ (if ((-1 : Int) == 0) = true then _ else _) _ _ s
  rw [if_neg (by decide)]
  refine wpAny_bind (HT.slicePart_ pl (wpAny_bind (HT.slicePart_ pu (wpAny_bind (wpAny_pure ?_)))))
  have e : Builtin.Slice.sliceAdjust none none (-1) (n : Int) = ((n : Int) - 1, -1) := rfl
  have e2 : Builtin.Slice.slicePlaces ((n : Int) - 1) (-1) (-1) = n := by
    unfold Builtin.Slice.slicePlaces
    have h1 : ¬ ((-1 : Int) > 0) := by omega
    simp only [h1, if_false, Int.neg_neg, Int.ediv_one]
    split <;> omega
  show wpAny _ _ (match Builtin.Slice.sliceAdjust none none (-1) (n : Int) with | (lo, hi) => pure (lo, (-1 : Int), Builtin.Slice.slicePlaces lo hi (-1))) _ _ s
  rw [e]
  show wpAny _ _ (pure ((n : Int) - 1, (-1 : Int), Builtin.Slice.slicePlaces ((n : Int) - 1) (-1) (-1))) _ _ s
  rw [e2]
  exact wpAny_pure h
theorem rev_tuple {t sl : Addr} {items : Array Value} {vl vu vs : Value} {Q : Value → Shared → Prop} (ht : IsTup s.heap t items) (hs : s.heap.IsSliceOf sl vl vu vs) (pl : IsPart vl none) (pu : IsPart vu none) (ps : IsPart vs (some (-1)))
    (h : Q (.ref s.heap.objs.size) { s with heap := s.heap.push { cls := .type "tuple", data := .seq items.toList.reverse.toArray } })
    (hsz : items.size ≤ sizeLine) : wpAny (model prog w) A (getItem (.ref t) (.ref sl)) Q E s := by
  have htake : sizeOk (.seq items.toList.reverse.toArray) := by
    show items.toList.reverse.toArray.size ≤ sizeLine
    rw [List.size_toArray, List.length_reverse, Array.length_toList]
    exact hsz
  obtain ⟨os, hos, hcs, hds⟩ := id hs
  have hTs : s.TypeIs (.ref sl) "slice" := ⟨os, hos, hcs⟩
  unfold getItem
  try with_reducible refine wpAny_holding ?_
  first | refine wpAny_bind (wpAny_pure ?_) | skip
  refine wpAny_bind (wpAny_sequenceKey ht.typeIs (by decide) ?_)
  refine wpAny_bind (wpAny_callSpecial?_slot (name := Str.ofString "__getitem__") ht.typeIs PyProof.Rows.slot_tuple_getitem
    (wpAny_call_entry PyProof.Rows.slot_tuple_getitem ht.typeIs entry_tuple_getitem ?_ (args_tuple_getitem _ _)))
  show wpAny _ _ (Builtin.Tuple.tupleItemsOf (.ref t) >>= _) _ _ s
  refine wpAny_bind (tupleItemsOf_ ht ?_)
  refine wpAny_bind (wpAny_typeOf hTs ?_)
  rw [if_pos (by decide)]
  refine wpAny_bind (rev_applied hs pl pu ps ?_)
  have hno : ¬ ((((items.size : Int) - 1) == 0 && (-1 : Int) == 1 && items.size == items.size) = true) := by simp
  show wpAny _ _ (if (((items.size : Int) - 1) == 0 && (-1 : Int) == 1 && items.size == items.size) = true then _ else _) _ _ s
  rw [if_neg hno, rev_pick]
  first
    | exact wpAny_bind (m := Builtin.Tuple.tupleExact _) (wpAny_newObj_type (wpAny_pure ⟨_, rfl, wpAny_pure h⟩) htake)
    | exact wpAny_bind (m := Builtin.Tuple.tupleExact _) (wpAny_newObj_type (wpAny_bind (wpAny_pure (wpAny_pure ⟨_, rfl, wpAny_pure h⟩))) htake)
    | exact wpAny_bind (wpAny_bind (m := Builtin.Tuple.tupleExact _) (wpAny_newObj_type (wpAny_pure (wpAny_pure ⟨_, rfl, wpAny_pure h⟩)) htake))
    | exact wpAny_bind (wpAny_bind (m := Builtin.Tuple.tupleExact _) (wpAny_newObj_type (wpAny_pure ⟨_, rfl, wpAny_pure h⟩) htake))
end
section
variable {X : Cx} {y : DXw} {pos p1 p2 p3 : Pos} {e : Expr} {te : RE} {k : Nat}
def tRev2 (K : PySem.W.Frag) (te : TE) : TE := fun σ H Q => te σ H fun x H1 => ∃ a xs, x = .ref a ∧ ((SqL K H1 a xs ∧ ∀ p, H1 p = none → Q (.ref p) (upd H1 p (.lst xs.reverse))) ∨ (SqT K H1 a xs ∧ ∀ p, H1 p = none → Q (.ref p) (upd H1 p (.tup xs.reverse))))
theorem pe_rev2 {te : TE} (he : PE X e te) : PE X (.Subscript e (.Slice none none (some (.UnaryOp .USub (.Constant (.int 1) k p1) p2)) p3) pos) (tRev2 X.K te) := by
  refine ⟨fun pins s σ H Q I h => ?_⟩
  refine Subscript_ (thn (he.run pins s σ H _ I h) fun v s1 ⟨x, H1, I1, r1, q1⟩ => ?_)
  obtain ⟨a, xs, ex, hx⟩ := q1
  subst ex
  cases r1
  have hst : PO X (some (.UnaryOp .USub (.Constant (.int 1) k p1) p2)) (tPart (tUn (rU fun i => .int (-i)) (tC (.int 1)))) := po_some (pe_un un_neg pe_int)
  refine wpAny_Slice (thn (po_none.run pins s1 σ H1 (fun o H2 => o = none ∧ H2 = H1) I1 ⟨rfl, rfl⟩) fun vl s2 ⟨l, H2, I2, pl, el, e2⟩ => ?_)
  subst el e2
  refine thn (po_none.run pins s2 σ H2 (fun o H3 => o = none ∧ H3 = H2) I2 ⟨rfl, rfl⟩) fun vu s3 ⟨u, H3, I3, pu, eu, e3⟩ => ?_
  subst eu e3
  refine thn (hst.run pins s3 σ H3 (fun o H4 => o = some (-1) ∧ H4 = H3) I3 ⟨1, rfl, -1, rfl, rfl, rfl⟩) fun vs s4 ⟨o, H4, I4, ps, eo, e4⟩ => ?_
  subst eo e4
  have I5 : Inv X pins σ H4 { s4 with heap := s4.heap.push { cls := .type "slice", data := .fields #[vl, vu, vs] } } := I4.kept (t' := s4.toks) fun b ob q => Heap.get?_push_of_some _ q
  show wpAny (model X.prog X.w) X.A (subscriptTail e (.Slice none none (some (.UnaryOp .USub (.Constant (.int 1) k p1) p2)) p3) (.ref a) (.ref s4.heap.objs.size)) (EP X pins σ Q) X.xe { s4 with heap := s4.heap.push { cls := .type "slice", data := .fields #[vl, vu, vs] } }
  rcases hx with ⟨hx, q⟩ | ⟨hx, q⟩
  · obtain ⟨its, r, ht, hz⟩ := I5.list hx
    refine tail_any (ops := [.ref a, .ref s4.heap.objs.size]) ht.isList.typeIs (PySem.slot_list_getitem.lookup) ?_ (by with_unfolding_all rfl)
    refine wpAny_getItem_list_slice ht.isList (Heap.IsSliceOf.new _ vl vu vs) pl pu ps (by decide) ?_ (by rw [List.size_toArray]; have := r.length; omega)
    rw [PySem.W.krv_pick]
    refine ⟨.ref _, _, I5.laid (t' := s4.toks) (o := .lst xs.reverse) (fun b ob q => Heap.get?_push_of_some _ q) (Nat.le_refl _) ?_, rfl, q _ (I5.hok.fresh (Nat.le_refl _))⟩
    exact ⟨by rw [List.length_reverse]; exact hz, _, 0, r.reverse, Heap.get?_push_size _ rfl⟩
  · obtain ⟨its, r, ht, hz⟩ := I5.tuple hx
    have hti : IsTup { s4 with heap := s4.heap.push { cls := .type "slice", data := .fields #[vl, vu, vs] } }.heap a its.toArray := ht
    refine tail_any (ops := [.ref a, .ref s4.heap.objs.size]) hti.typeIs (PyProof.Rows.slot_tuple_getitem.lookup) ?_ (by with_unfolding_all rfl)
    refine rev_tuple hti (Heap.IsSliceOf.new _ vl vu vs) pl pu ps ?_ (by rw [List.size_toArray]; have := r.length; omega)
    refine ⟨.ref _, _, I5.laid (t' := s4.toks) (o := .tup xs.reverse) (fun b ob q => Heap.get?_push_of_some _ q) (Nat.le_refl _) ?_, rfl, q _ (I5.hok.fresh (Nat.le_refl _))⟩
    exact ⟨by rw [List.length_reverse]; exact hz, _, r.reverse, ⟨_, Heap.get?_push_size _ rfl, rfl, _, rfl⟩⟩
def dRev (d : D) (S : Sto) (Q : D → Sto → Prop) : Prop := match d with
  | .tup xs => Q (.tup xs.reverse) S
  | d => ∃ xs, RdL S d xs ∧ ∀ p, S p = none → Q (.ref p) (sup S p (.lst xs.reverse))
def rRev (te : RE) : RE := fun ρ S Q => te ρ S fun d S1 => dRev d S1 Q
theorem DVs.reverse {K : PySem.W.Frag} {H : Hp} {xs : List D} {vs : List V} (r : DVs K H xs vs) : DVs K H xs.reverse vs.reverse := by
  induction xs generalizing vs with
  | nil => cases (show vs = [] from r); exact rfl
  | cons x xs ih =>
    obtain ⟨v, ws, rfl, h1, h2⟩ := r
    rw [List.reverse_cons, List.reverse_cons]
    exact (ih h2).append ⟨v, [], rfl, h1, rfl⟩
theorem pd_rev (he : PD X y e te) : PD X y (.Subscript e (.Slice none none (some (.UnaryOp .USub (.Constant (.int 1) k p1) p2)) p3) pos) (rRev te) := by
  refine PD.of (pe_rev2 he) fun σ H Q h => ?_
  obtain ⟨ρ, S, R, sr, so, h, kk⟩ := h
  refine ⟨ρ, S, _, sr, so, h, fun d S1 v H1 g dv hd => ?_⟩
  have lst : (∃ xs, RdL S1 d xs ∧ ∀ p, S1 p = none → R (.ref p) (sup S1 p (.lst xs.reverse))) → ∃ a xs, v = .ref a ∧ ((SqL X.K H1 a xs ∧ ∀ p, H1 p = none → Q (.ref p) (upd H1 p (.lst xs.reverse))) ∨ (SqT X.K H1 a xs ∧ ∀ p, H1 p = none → Q (.ref p) (upd H1 p (.tup xs.reverse)))) := fun ⟨xs, hx, h⟩ => by
    obtain ⟨a, vs, rfl, q, r⟩ := hx.sq g.ok dv
    exact ⟨a, vs, rfl, .inl ⟨q, fun p hp => kk (.ref p) _ _ _ (g.trans (Go.newLst g.ok hp r.reverse)) rfl (h p (g.ok.free hp))⟩⟩
  cases d with
  | tup xs =>
    obtain ⟨a, vs, rfl, q, r⟩ := dv
    have hd : R (.tup xs.reverse) S1 := hd
    refine ⟨a, vs, rfl, .inr ⟨q.sq, fun p hp => ?_⟩⟩
    have g2 := Go.new (K := X.K) (o := .tup vs.reverse) g.ok hp
    exact kk (.tup xs.reverse) S1 _ _ (g.trans g2) ⟨p, _, rfl, .inl upd_same, DVs.go g2 _ _ r.reverse⟩ hd
  | _ => exact lst hd
end
end DL
set_option Elab.async false
set_option linter.all false
set_option maxRecDepth 100000
set_option maxHeartbeats 4000000
/-! DQ: dict displays of written int keys; what is under way, and repr of lists of ints. -/
namespace DL
open PySem PySem.Spec PyProof.Rows L2
section
variable {X : Cx} {y : DXw} {pos p1 p2 p3 : Pos} {a b v e : Expr} {ta tb te : RE} {k k2 : Nat}
def rDisp1 (i : Int) (te : RE) : RE := fun ρ S Q => ∀ p, S p = none → te ρ (sup S p (.dK [])) fun d S2 => S2 p = some (.dK []) ∧ Q (.ref p) (sup S2 p (.dK [(.inl i, d)]))
theorem pd_disp1 {i : Int} (hv : PD X y v te) : PD X y (.Dict [some (.Constant (.int i) k p1)] [v] pos) (rDisp1 i te) :=
  PD.of (pe_disp (pps_cons pe_int hv pps_nil) rfl rfl (by simp) (by simp)) fun σ H Q h => by
    obtain ⟨ρ, S, R, sr, so, h, kk⟩ := h
    intro p hp
    have g0 := Go.newDK (K := X.K) so.so hp .nil
    refine ⟨ρ, sup S p (.dK []), _, sr.go g0, so.go g0, h p (so.so.free hp), fun d S2 w H2 g2 dv h2 => ?_⟩
    obtain ⟨e2, q⟩ := h2
    obtain ⟨vs, e3, r⟩ := g2.ok p _ e2
    cases r
    exact ⟨e3, [(.inl i, w)], rfl, by simp, kk (.ref p) _ _ _ ((g0.trans g2).trans (Go.setDK g2.ok e2 (DKs.cons (k := .inl i) dv .nil))) rfl q⟩
def rDisp2 (i j : Int) (ta tb : RE) : RE := fun ρ S Q => ∀ p, S p = none → ta ρ (sup S p (.dK [])) fun d S2 => tb ρ S2 fun d2 S3 => S3 p = some (.dK []) ∧ Q (.ref p) (sup S3 p (.dK [(.inl i, d), (.inl j, d2)]))
theorem pd_disp2 {i j : Int} (hij : i ≠ j) (ha : PD X y a ta) (hb : PD X y b tb) : PD X y (.Dict [some (.Constant (.int i) k p1), some (.Constant (.int j) k2 p2)] [a, b] pos) (rDisp2 i j ta tb) :=
  PD.of (pe_disp (pps_cons pe_int ha (pps_cons pe_int hb pps_nil)) rfl rfl (by simp) (by simp)) fun σ H Q h => by
    obtain ⟨ρ, S, R, sr, so, h, kk⟩ := h
    intro p hp
    have g0 := Go.newDK (K := X.K) so.so hp .nil
    refine ⟨ρ, sup S p (.dK []), _, sr.go g0, so.go g0, h p (so.so.free hp), fun d S2 w H2 g2 dv h2 => ⟨ρ, S2, _, (sr.go g0).go g2, (so.go g0).go g2, h2, fun d2 S3 w2 H3 g3 dv2 h3 => ?_⟩⟩
    obtain ⟨e2, q⟩ := h3
    obtain ⟨vs, e3, r⟩ := g3.ok p _ e2
    cases r
    have em : mergeK [] [((.inl i : Key), w), (.inl j, w2)] = [(.inl i, w), (.inl j, w2)] := by
      simp [mergeK, putK, hij]
    refine ⟨e3, [(.inl i, w), (.inl j, w2)], rfl, by simp, ?_⟩
    rw [em]
    exact kk (.ref p) _ _ _ (((g0.trans g2).trans g3).trans (Go.setDK g3.ok e2 (DKs.cons (k := .inl i) (DV.go g3 _ _ dv) (DKs.cons (k := .inl j) dv2 .nil)))) rfl q
end
/-! ### what is under way -/
def wG (X : Cx) (g : List Code) : Cx := { X with A := { X.A with guards := some g }, xe := fun _ _ => False }
theorem wpAny_G {α : Type} {M : Model} {A : Around} {t : Sem α} {Q : α → Shared → Prop} {E : Value → Shared → Prop} {s : Shared} (h : ∀ g, wpAny M { A with guards := some g } t Q E s) : wpAny M A t Q E s := fun Γ p hΓ =>
  h (Γ.code.guards ++ guardsOf Γ.below) Γ p ⟨hΓ.1, hΓ.2.1, hΓ.2.2.1, fun g hg => by cases hg; rfl, hΓ.2.2.2.2⟩
section
variable {X : Cx} {y : DXw} {pins : List (Addr × Obj)} {σ : L2.St} {H : Hp} {s : Shared} {g : List Code}
theorem inv_toG (I : Inv X pins σ H s) : Inv (wG X g) pins σ H s :=
  ⟨⟨I.ok.mod, I.ok.kind, I.ok.glob, I.ok.blt, I.ok.above, I.ok.inj, I.ok.has, I.ok.cab, I.ok.hd, I.ok.frames, I.ok.stk, I.ok.exf, I.ok.bs, I.ok.bsz, I.ok.noex, I.ok.exfs, I.ok.funs, I.ok.frf⟩, I.os, I.bare, I.base, I.loc, I.cell, I.free, I.freeC, I.pin, I.hok, I.len⟩
theorem inv_ofG (I : Inv (wG X g) pins σ H s) : Inv X pins σ H s :=
  ⟨⟨I.ok.mod, I.ok.kind, I.ok.glob, I.ok.blt, I.ok.above, I.ok.inj, I.ok.has, I.ok.cab, I.ok.hd, I.ok.frames, I.ok.stk, I.ok.exf, I.ok.bs, I.ok.bsz, I.ok.noex, I.ok.exfs, I.ok.funs, I.ok.frf⟩, I.os, I.bare, I.base, I.loc, I.cell, I.free, I.freeC, I.pin, I.hok, I.len⟩
theorem sp_ofG {D : Ends} {f : Flow} (h : SP (wG X g) pins D f s) : SP X pins D f s := by
  cases f with
  | next => obtain ⟨σ', H', I, q⟩ := h; exact ⟨σ', H', inv_ofG I, q⟩
  | brk => obtain ⟨σ', H', I, q⟩ := h; exact ⟨σ', H', inv_ofG I, q⟩
  | cont => obtain ⟨σ', H', I, q⟩ := h; exact ⟨σ', H', inv_ofG I, q⟩
  | ret u => obtain ⟨v, σ', H', I, r, q⟩ := h; exact ⟨v, σ', H', inv_ofG I, r, q⟩
theorem pdss_G {sts : List Stmt} {t : List Code → RS} (h : ∀ g, PDSs (wG X g) y0 sts (t g)) : PDSs X y sts (fun E ρ S => ∀ g, t g E ρ S) := ⟨fun pins s σ H D I q => wpAny_G fun g => by
  obtain ⟨ρ, S, E, sr, so, q, eo⟩ := q
  exact wpAny_mono ((h g).run pins s σ H D (inv_toG I) ⟨ρ, S, E, sr, ⟨so.so, fun _ _ _ _ _ _ _ _ _ _ _ _ z => z.elim⟩, q g, eo⟩) (fun f s' hf => sp_ofG hf) fun _ _ z => z.elim⟩
theorem room_G {k : Nat} {A : Around} (r : Room k A) : Room k { A with guards := some g } := ⟨r.hd, r.dp, r.un⟩
end
/-! ### repr of a list of ints -/
def runL (a : Addr) : Code × Pos → Bool := fun
  | (.builtin "list.__repr__.loop" ⟨v :: _, _⟩, _) => Builtin.List.listSameRef v (.ref a)
  | _ => false
theorem runL_off (a : Addr) (c : Code) (p : Pos) (h : c.isGuard = false) : runL a (c, p) = false := by
  unfold runL
  split
  · next v rest kw _ heq => cases heq; simp [Code.isGuard, guardIds] at h
  · rfl
theorem runL_pos (a : Addr) (c : Code) (p : Pos) : runL a (c, p) = runL a (c, default) := by
  unfold runL
  split
  · next v rest kw _ heq => cases heq; rfl
  · next h =>
    split
    · next v rest kw _ heq => cases heq; exact (h _ _ _ _ rfl).elim
    · rfl
def txI (is : List Int) : List Str := is.map fun i => (Str.ofString (toString i))
/-- repr of the list at a, where g is under way -/
def repL (g : List Code) (a : Addr) (is : List Int) : Str := if (g.any fun c => runL a (c, default)) = true then "[...]" else listText (txI is)
theorem rep_items {prog : Program} {w : World} : ∀ {is : List Int} {its : List Value}, Vals (is.map V.int) its → (∀ i ∈ is, i.natAbs.log2 < 1920) → ∀ (j : Nat) (z : Value), its[j]? = some z → ∃ t, (txI is)[j]? = some t ∧ ReprIs prog w z t
  | [], _, r, _, j, z, e => by cases r; simp at e
  | i :: is, _, r, h, 0, z, e => by
    cases r with
    | cons r1 r2 =>
      obtain ⟨t, rfl⟩ := r1
      cases (Option.some.inj e)
      exact ⟨_, rfl, ReprIs.int t (h i (by simp))⟩
  | i :: is, _, r, h, j + 1, z, e => by
    cases r with
    | cons r1 r2 => exact rep_items r2 (fun i hi => h i (List.mem_cons_of_mem _ hi)) j z e
section
variable {X : Cx} {y : DXw} {g : List Code}
theorem call_repL (hg : X.A.guards = some g) (hu : X.A.units + 64 < cLine) : CallR X (.builtin "repr") (fun xs H Q => ∃ a is, xs = [.ref a] ∧ SqL X.K H a (is.map V.int) ∧ is ≠ [] ∧ (∀ i ∈ is, i.natAbs.log2 < 1920) ∧ (listText (txI is)).length ≤ sizeLine ∧ Q (.str (repL g a is)) H) := by
  intro pins s σ H xs us Q I r h
  obtain ⟨a, is, rfl, hs, hne, hz, hsz, q⟩ := h
  obtain ⟨u, rfl, t⟩ := vals1 r
  cases t
  obtain ⟨its, rr, ht, hzz⟩ := I.list hs
  obtain ⟨o, ho, hc, ne, hd⟩ := ht.isList
  cases its with
  | nil => exact absurd (List.map_eq_nil_iff.mp (List.eq_nil_of_length_eq_zero rr.length)) hne
  | cons z its =>
    refine call_repr_slot (by omega) ⟨o, ho, hc⟩ F.slot_list_repr.toG ?_
    by_cases hb : (g.any fun c => runL a (c, default)) = true
    · have q2 : Q (.str "[...]") H := by
        unfold repL at q
        rw [if_pos hb] at q
        exact q
      refine wpAny_call (codeAny_call_builtin_own (Code.quiet_builtin _ (by decide +kernel)) F.entry_list_repr (F.slot_list_repr.check _ _ _ _ _ _ _ _ ⟨o, ho, hc⟩ (F.args_list_repr_1 _) ?_))
      show wpOwn _ _ _ (Builtin.listReprAt 0 ⟨[.ref a], []⟩) _ _ s
      intro Γ p hcc hΓ
      have hrun : Γ.below.any (runL a) = true := by
        rw [any_eq_guards (runL_off a) (runL_pos a), hΓ.2.2.2.1 g hg]
        exact hb
      unfold Builtin.listReprAt
      simp [slotArgs, Builtin.List.listItems, seqItems?, Sem.wp_load_of (h := ho), hd, stack]
      show Sem.wp _ Γ (if (Γ.below.any (runL a)) = true then _ else _) _ _ p s
      rw [if_pos hrun]
      refine wpOwn_of_wpAny ?_ Γ p hcc hΓ
      refine wpAny_bind (wpAny_rule ?_)
      refine wpAny_bind (wpAny_mkStr (wpAny_pure ?_) (by decide +kernel))
      exact ⟨⟨_, _, rfl⟩, .str "[...]", H, I.tok _, ⟨_, rfl⟩, q2⟩
    · have q2 : Q (.str (listText (txI is))) H := by
        unfold repL at q
        rw [if_neg hb] at q
        exact q
      refine call_list_repr (g := g) ⟨o, ho, hc⟩ hg (fun v rest kw hm => ?_) ho hd (by unfold txI; rw [List.length_map, List.size_toArray]; have := rr.length; rw [List.length_map] at this; exact this) (fun j z' hj => rep_items rr hz j z' (by simpa using hj)) (fun h' u tk hk => ⟨_, _, rfl, .str _, H, I.kept (h' := h') (t' := tk) hk, ⟨_, rfl⟩, q2⟩) hsz
      cases hv : Builtin.List.listSameRef v (.ref a) with
      | false => rfl
      | true => exact absurd (List.any_eq_true.mpr ⟨_, hm, hv⟩) hb
def dRepr (g : List Code) : RCall := fun ds S Q => match ds with
  | [.ref a] => ∃ is : List Int, S a = some (.lst (is.map D.int)) ∧ is ≠ [] ∧ (∀ i ∈ is, i.natAbs.log2 < 1920) ∧ (listText (txI is)).length ≤ sizeLine ∧ Q (.str (repL g a is)) S
  | _ => False
theorem cd_repr (hg : X.A.guards = some g) (hu : X.A.units + 64 < cLine) : CallR X (.builtin "repr") (lcl X.K (dRepr g)) := by
  intro pins s σ H vs us Q I rv h
  obtain ⟨ds, S, R, dv, so, h, k⟩ := h
  refine call_repL hg hu pins s σ H vs us Q I rv ?_
  unfold dRepr at h
  split at h
  · rename_i a
    obtain ⟨v, rfl, r⟩ := dvs1 dv
    cases (show v = V.ref a from r)
    obtain ⟨is, e, h1, h2, h3, h4⟩ := h
    obtain ⟨ws, e2, r2⟩ := so a _ e
    cases r2.ints
    exact ⟨a, is, rfl, SqL.of e2, h1, h2, h3, k (.str (repL g a is)) S _ H (Go.refl so) rfl h4⟩
  · exact h.elim
/-- sum of a list or a tuple of ints -/
theorem sum_tup {prog : Program} {w : World} {A : Around} {E : Value → Shared → Prop} {s : Shared} {l : Addr} {its : List Value} {ns : List Int} {Q : Value → Shared → Prop} (hh : A.handled = none) (hl : s.heap.IsTuple l its.toArray) (hi : IntsAre its ns)
    (h : ∀ h' tk t', (∀ b o, s.heap.get? b = some o → h'.get? b = some o) → Q (.int ns.sum t') { s with heap := h', toks := tk }) : wpAny (model prog w) A (call (.builtin "sum") [.ref l]) Q E s := by
  obtain ⟨xs, e⟩ := hi.allInts.items
  have hn : numsOf (intItems xs).toList = ns := by rw [← e]; exact hi.numsOf
  rw [nums_intItems] at hn
  rw [e] at hl
  refine PySem.W.ktm_sumG hh hl fun h' tk t' hk => ?_
  have := h h' tk t' hk
  rw [preSum_eq, List.take_of_length_le (by simp), hn]; exact this
def dSumA : RCall := fun ds S Q => match ds with
  | [.tup xs] => ∃ ns : List Int, xs = ns.map D.int ∧ Q (.int ns.sum) S
  | [d] => ∃ ns : List Int, RdL S d (ns.map D.int) ∧ Q (.int ns.sum) S
  | _ => False
theorem cd_sumA (hc : X.calm = true) : CallR X (.builtin "sum") (lcl X.K dSumA) := by
  intro pins s σ H vs us Q I rv h
  obtain ⟨ds, S, R, dv, so, h, k⟩ := h
  unfold dSumA at h
  split at h
  · rename_i xs
    obtain ⟨v, rfl, a, ws, rfl, q, r⟩ := dvs1 dv
    obtain ⟨ns, rfl, h⟩ := h
    cases r.ints
    obtain ⟨its, rr, ht, hz⟩ := I.tuple q.sq
    obtain ⟨o, ho, hcl, n, hd⟩ := ht
    rw [Vals.ref1 rv]
    exact sum_tup (I.ok.hd hc) ⟨o, ho, hcl, n, hd⟩ rr.ints fun h' tk t' hk => ⟨.int _, H, I.kept hk, ⟨_, rfl⟩, k (.int ns.sum) S _ H (Go.refl so) rfl h⟩
  · rename_i d _
    obtain ⟨v, rfl, r⟩ := dvs1 dv
    obtain ⟨ns, hx, h⟩ := h
    obtain ⟨a, ws, rfl, q, r⟩ := hx.sq so r
    cases r.ints
    exact cr_sum hc pins s σ H _ us Q I rv ⟨a, ns, rfl, q, k (.int ns.sum) S _ H (Go.refl so) rfl h⟩
  · exact h.elim
end
end DL
set_option Elab.async false
set_option linter.all false
set_option maxRecDepth 100000
set_option maxHeartbeats 4000000
/-! DT: sorted of a list of ints. -/
namespace DL
open PySem PySem.Spec PyProof.Rows L2
section
variable {X : Cx}
def dSorted : RCall := fun ds S Q => match ds with
  | [d] => ∃ ns : List Int, RdL S d (ns.map D.int) ∧ ∀ (ms : List Int) (p : Addr), ms.Perm ns → ms.Pairwise (· ≤ ·) → S p = none → Q (.ref p) (sup S p (.lst (ms.map D.int)))
  | _ => False
theorem cd_sorted : CallR X (.builtin "sorted") (lcl X.K dSorted) := by
  intro pins s σ H vs us Q I rv h
  obtain ⟨ds, S, R, dv, so, h, k⟩ := h
  unfold dSorted at h
  split at h
  · rename_i d
    obtain ⟨v, rfl, r⟩ := dvs1 dv
    obtain ⟨ns, hx, h⟩ := h
    obtain ⟨a, ws, rfl, q, r⟩ := hx.sq so r
    cases r.ints
    exact cr_sortedI pins s σ H _ us Q I rv ⟨a, ns, rfl, q, fun ms p hm hp hn => k (.ref p) _ _ _ (Go.newLst so hn (DVs.of_ints (ns := ms))) rfl (h ms p hm hp (so.free hn))⟩
  · exact h.elim
end
end DL
set_option Elab.async false
set_option linter.all false
set_option maxRecDepth 100000
set_option maxHeartbeats 4000000
namespace K25
open PySem PySem.Spec PyProof.Rows L2 DL
local macro_rules | `(tactic| walk_at "w") => `(tactic| conv => whnf)
local macro_rules | `(tactic| walk_at "g") => `(tactic| ((conv => whnf); repeat' (first | (refine IFB.t ?_ ?_; rfl; conv => whnf) | (refine IFB.f ?_ ?_; rfl; conv => whnf))))
def topS (i : Nat) : Stmt := PySem.Challenge.pw_wholeplays_k25_whole_bounded_by_dice.main.body.getD i (.Pass ⟨0, 0, 0, 0⟩)
abbrev s_is_integer : Stmt := topS 8
theorem sc_is_integer : FnScope ["value"] ["value"] (defScope s_is_integer) := ⟨rfl, rfl, rfl, by decide +kernel, rfl, by decide +kernel, by decide +kernel⟩
abbrev s_is_pair : Stmt := topS 9
theorem sc_is_pair : FnScope ["value"] ["value"] (defScope s_is_pair) := ⟨rfl, rfl, rfl, by decide +kernel, rfl, by decide +kernel, by decide +kernel⟩
abbrev s_lowest : Stmt := topS 10
theorem sc_lowest : FnScope ["top", "bottom", "common"] ["top", "bottom"] (defScope s_lowest) := ⟨rfl, rfl, rfl, by decide +kernel, rfl, by decide +kernel, by decide +kernel⟩
abbrev s_is_number_of : Stmt := topS 11
theorem sc_is_number_of : FnScope ["told"] ["told"] (defScope s_is_number_of) := ⟨rfl, rfl, rfl, by decide +kernel, rfl, by decide +kernel, by decide +kernel⟩
abbrev s_sum_of_two : Stmt := topS 12
theorem sc_sum_of_two : FnScope ["a", "b"] ["a", "b"] (defScope s_sum_of_two) := ⟨rfl, rfl, rfl, by decide +kernel, rfl, by decide +kernel, by decide +kernel⟩
abbrev s_sum_of_all : Stmt := topS 13
theorem sc_sum_of_all : FnScope ["numbers", "total", "a"] ["numbers"] (defScope s_sum_of_all) := ⟨rfl, rfl, rfl, by decide +kernel, rfl, by decide +kernel, by decide +kernel⟩
abbrev s_is_shares_of : Stmt := topS 15
theorem sc_is_shares_of : FnScope ["told", "share"] ["told"] (defScope s_is_shares_of) := ⟨rfl, rfl, rfl, by decide +kernel, rfl, by decide +kernel, by decide +kernel⟩
abbrev s_check_shares : Stmt := topS 16
theorem sc_check_shares : FnScope ["shares"] ["shares"] (defScope s_check_shares) := ⟨rfl, rfl, rfl, by decide +kernel, rfl, by decide +kernel, by decide +kernel⟩
abbrev s_is_dice_told : Stmt := topS 18
theorem sc_is_dice_told : FnScope ["told", "one", "other", "sides"] ["told"] (defScope s_is_dice_told) := ⟨rfl, rfl, rfl, by decide +kernel, rfl, by decide +kernel, by decide +kernel⟩
abbrev s_check_dice : Stmt := topS 19
theorem sc_check_dice : FnScope ["dice"] ["dice"] (defScope s_check_dice) := ⟨rfl, rfl, rfl, by decide +kernel, rfl, by decide +kernel, by decide +kernel⟩
abbrev s_common_part : Stmt := topS 20
theorem sc_common_part : FnScope ["a", "b"] ["a", "b"] (defScope s_common_part) := ⟨rfl, rfl, rfl, by decide +kernel, rfl, by decide +kernel, by decide +kernel⟩
abbrev s_joint_bottom : Stmt := topS 21
theorem sc_joint_bottom : FnScope ["shares", "found", "top", "bottom"] ["shares"] (defScope s_joint_bottom) := ⟨rfl, rfl, rfl, by decide +kernel, rfl, by decide +kernel, by decide +kernel⟩
abbrev s_left_of : Stmt := topS 22
theorem sc_left_of : FnScope ["number", "sides", "common"] ["number", "sides"] (defScope s_left_of) := ⟨rfl, rfl, rfl, by decide +kernel, rfl, by decide +kernel, by decide +kernel⟩
abbrev s_are_bounded : Stmt := topS 23
theorem sc_are_bounded : FnScope ["shares", "dice", "bottom", "sides"] ["shares", "dice"] (defScope s_are_bounded) := ⟨rfl, rfl, rfl, by decide +kernel, rfl, by decide +kernel, by decide +kernel⟩
abbrev s_shortest_row : Stmt := topS 24
theorem sc_shortest_row : FnScope ["bottom", "dice", "rows", "row", "left", "longer", "sides"] ["bottom", "dice"] (defScope s_shortest_row) := ⟨rfl, rfl, rfl, by decide +kernel, rfl, by decide +kernel, by decide +kernel⟩
abbrev s_is_dice : Stmt := topS 25
theorem sc_is_dice : FnScope ["told"] ["told"] (defScope s_is_dice) := ⟨rfl, rfl, rfl, by decide +kernel, rfl, by decide +kernel, by decide +kernel⟩
abbrev s_is_bounded : Stmt := topS 26
theorem sc_is_bounded : FnScope ["shares", "dice"] ["shares", "dice"] (defScope s_is_bounded) := ⟨rfl, rfl, rfl, by decide +kernel, rfl, by decide +kernel, by decide +kernel⟩
abbrev s_fewest_dice : Stmt := topS 27
theorem sc_fewest_dice : FnScope ["shares", "dice"] ["shares", "dice"] (defScope s_fewest_dice) := ⟨rfl, rfl, rfl, by decide +kernel, rfl, by decide +kernel, by decide +kernel⟩
abbrev s_law_stock : Stmt := topS 29
theorem sc_law_stock : FnScope ["script", "spot", "cell", "figures"] ["script", "spot"] (defScope s_law_stock) := ⟨rfl, rfl, rfl, by decide +kernel, rfl, by decide +kernel, by decide +kernel⟩
abbrev s_law_pick : Stmt := topS 30
theorem sc_law_pick : FnScope ["stock", "many", "figure", "mixed"] ["stock", "many"] (defScope s_law_pick) := ⟨rfl, rfl, rfl, by decide +kernel, rfl, by decide +kernel, by decide +kernel⟩
abbrev s_law_alike : Stmt := topS 31
theorem sc_law_alike : FnScope ["thing", "due", "one", "other"] ["thing", "due"] (defScope s_law_alike) := ⟨rfl, rfl, rfl, by decide +kernel, rfl, by decide +kernel, by decide +kernel⟩
abbrev s_law_low : Stmt := topS 32
theorem sc_law_low : FnScope ["top", "bottom", "here", "there"] ["top", "bottom"] (defScope s_law_low) := ⟨rfl, rfl, rfl, by decide +kernel, rfl, by decide +kernel, by decide +kernel⟩
abbrev s_law_plus : Stmt := topS 33
theorem sc_law_plus : FnScope ["one", "other"] ["one", "other"] (defScope s_law_plus) := ⟨rfl, rfl, rfl, by decide +kernel, rfl, by decide +kernel, by decide +kernel⟩
abbrev s_law_times : Stmt := topS 34
theorem sc_law_times : FnScope ["one", "other"] ["one", "other"] (defScope s_law_times) := ⟨rfl, rfl, rfl, by decide +kernel, rfl, by decide +kernel, by decide +kernel⟩
abbrev s_law_shares : Stmt := topS 35
theorem sc_law_shares : FnScope ["stock", "most", "found", "turn", "at", "whole", "part", "rest"] ["stock", "most"] (defScope s_law_shares) := ⟨rfl, rfl, rfl, by decide +kernel, rfl, by decide +kernel, by decide +kernel⟩
abbrev s_law_bottom : Stmt := topS 36
theorem sc_law_bottom : FnScope ["shares", "found", "top", "bottom"] ["shares"] (defScope s_law_bottom) := ⟨rfl, rfl, rfl, by decide +kernel, rfl, by decide +kernel, by decide +kernel⟩
abbrev s_law_dice : Stmt := topS 37
theorem sc_law_dice : FnScope ["stock", "found", "turn", "sides"] ["stock"] (defScope s_law_dice) := ⟨rfl, rfl, rfl, by decide +kernel, rfl, by decide +kernel, by decide +kernel⟩
abbrev s_law_product : Stmt := topS 38
theorem sc_law_product : FnScope ["row", "found", "sides"] ["row"] (defScope s_law_product) := ⟨rfl, rfl, rfl, by decide +kernel, rfl, by decide +kernel, by decide +kernel⟩
abbrev s_law_is_bounded : Stmt := topS 39
theorem sc_law_is_bounded : FnScope ["shares", "dice", "bottom", "prime", "part", "sides"] ["shares", "dice"] (defScope s_law_is_bounded) := ⟨rfl, rfl, rfl, by decide +kernel, rfl, by decide +kernel, by decide +kernel⟩
abbrev s_law_fewest : Stmt := topS 40
theorem sc_law_fewest : FnScope ["shares", "dice", "bottom", "rows", "turn", "row", "further", "sides"] ["shares", "dice"] (defScope s_law_fewest) := ⟨rfl, rfl, rfl, by decide +kernel, rfl, by decide +kernel, by decide +kernel⟩
abbrev s_law_is_dice : Stmt := topS 41
theorem sc_law_is_dice : FnScope ["thing", "sides", "at"] ["thing"] (defScope s_law_is_dice) := ⟨rfl, rfl, rfl, by decide +kernel, rfl, by decide +kernel, by decide +kernel⟩
abbrev s_law_other : Stmt := topS 42
theorem sc_law_other : FnScope ["stock"] ["stock"] (defScope s_law_other) := ⟨rfl, rfl, rfl, by decide +kernel, rfl, by decide +kernel, by decide +kernel⟩
abbrev s_law_near : Stmt := topS 43
theorem sc_law_near : FnScope ["stock", "dice", "at", "odd", "some"] ["stock", "dice"] (defScope s_law_near) := ⟨rfl, rfl, rfl, by decide +kernel, rfl, by decide +kernel, by decide +kernel⟩
abbrev s_law_right : Stmt := topS 44
theorem sc_law_right : FnScope ["shares", "dice", "named", "due", "row", "told"] ["shares", "dice", "named"] (defScope s_law_right) := ⟨rfl, rfl, rfl, by decide +kernel, rfl, by decide +kernel, by decide +kernel⟩
abbrev s_law : Stmt := topS 45
theorem sc_law : FnScope ["script", "first", "spot", "stock", "turn", "shares", "dice", "draw", "near", "great"] ["script"] (defScope s_law) := ⟨rfl, rfl, rfl, by decide +kernel, rfl, by decide +kernel, by decide +kernel⟩
structure Txt (K : PySem.W.Frag) (mg : Str → Option Value) where
  a_is_integer : Addr
  fd_is_integer : FuncData
  m_is_integer : mg "is_integer" = some (.ref a_is_integer)
  F_is_integer : Fun K "is_integer" "is_integer" s_is_integer a_is_integer fd_is_integer
  d_is_integer : Binds K fd_is_integer ["value"] []
  a_is_pair : Addr
  fd_is_pair : FuncData
  m_is_pair : mg "is_pair" = some (.ref a_is_pair)
  F_is_pair : Fun K "is_pair" "is_pair" s_is_pair a_is_pair fd_is_pair
  d_is_pair : Binds K fd_is_pair ["value"] []
  a_lowest : Addr
  fd_lowest : FuncData
  m_lowest : mg "lowest" = some (.ref a_lowest)
  F_lowest : Fun K "lowest" "lowest" s_lowest a_lowest fd_lowest
  d_lowest : Binds K fd_lowest ["top", "bottom"] []
  a_is_number_of : Addr
  fd_is_number_of : FuncData
  m_is_number_of : mg "is_number_of" = some (.ref a_is_number_of)
  F_is_number_of : Fun K "is_number_of" "is_number_of" s_is_number_of a_is_number_of fd_is_number_of
  d_is_number_of : Binds K fd_is_number_of ["told"] []
  a_sum_of_two : Addr
  fd_sum_of_two : FuncData
  m_sum_of_two : mg "sum_of_two" = some (.ref a_sum_of_two)
  F_sum_of_two : Fun K "sum_of_two" "sum_of_two" s_sum_of_two a_sum_of_two fd_sum_of_two
  d_sum_of_two : Binds K fd_sum_of_two ["a", "b"] []
  a_sum_of_all : Addr
  fd_sum_of_all : FuncData
  m_sum_of_all : mg "sum_of_all" = some (.ref a_sum_of_all)
  F_sum_of_all : Fun K "sum_of_all" "sum_of_all" s_sum_of_all a_sum_of_all fd_sum_of_all
  d_sum_of_all : Binds K fd_sum_of_all ["numbers"] []
  a_is_shares_of : Addr
  fd_is_shares_of : FuncData
  m_is_shares_of : mg "is_shares_of" = some (.ref a_is_shares_of)
  F_is_shares_of : Fun K "is_shares_of" "is_shares_of" s_is_shares_of a_is_shares_of fd_is_shares_of
  d_is_shares_of : Binds K fd_is_shares_of ["told"] []
  a_check_shares : Addr
  fd_check_shares : FuncData
  m_check_shares : mg "check_shares" = some (.ref a_check_shares)
  F_check_shares : Fun K "check_shares" "check_shares" s_check_shares a_check_shares fd_check_shares
  d_check_shares : Binds K fd_check_shares ["shares"] []
  a_is_dice_told : Addr
  fd_is_dice_told : FuncData
  m_is_dice_told : mg "is_dice_told" = some (.ref a_is_dice_told)
  F_is_dice_told : Fun K "is_dice_told" "is_dice_told" s_is_dice_told a_is_dice_told fd_is_dice_told
  d_is_dice_told : Binds K fd_is_dice_told ["told"] []
  a_check_dice : Addr
  fd_check_dice : FuncData
  m_check_dice : mg "check_dice" = some (.ref a_check_dice)
  F_check_dice : Fun K "check_dice" "check_dice" s_check_dice a_check_dice fd_check_dice
  d_check_dice : Binds K fd_check_dice ["dice"] []
  a_common_part : Addr
  fd_common_part : FuncData
  m_common_part : mg "common_part" = some (.ref a_common_part)
  F_common_part : Fun K "common_part" "common_part" s_common_part a_common_part fd_common_part
  d_common_part : Binds K fd_common_part ["a", "b"] []
  a_joint_bottom : Addr
  fd_joint_bottom : FuncData
  m_joint_bottom : mg "joint_bottom" = some (.ref a_joint_bottom)
  F_joint_bottom : Fun K "joint_bottom" "joint_bottom" s_joint_bottom a_joint_bottom fd_joint_bottom
  d_joint_bottom : Binds K fd_joint_bottom ["shares"] []
  a_left_of : Addr
  fd_left_of : FuncData
  m_left_of : mg "left_of" = some (.ref a_left_of)
  F_left_of : Fun K "left_of" "left_of" s_left_of a_left_of fd_left_of
  d_left_of : Binds K fd_left_of ["number", "sides"] []
  a_are_bounded : Addr
  fd_are_bounded : FuncData
  m_are_bounded : mg "are_bounded" = some (.ref a_are_bounded)
  F_are_bounded : Fun K "are_bounded" "are_bounded" s_are_bounded a_are_bounded fd_are_bounded
  d_are_bounded : Binds K fd_are_bounded ["shares", "dice"] []
  a_shortest_row : Addr
  fd_shortest_row : FuncData
  m_shortest_row : mg "shortest_row" = some (.ref a_shortest_row)
  F_shortest_row : Fun K "shortest_row" "shortest_row" s_shortest_row a_shortest_row fd_shortest_row
  d_shortest_row : Binds K fd_shortest_row ["bottom", "dice"] []
  a_is_dice : Addr
  fd_is_dice : FuncData
  m_is_dice : mg "is_dice" = some (.ref a_is_dice)
  F_is_dice : Fun K "is_dice" "is_dice" s_is_dice a_is_dice fd_is_dice
  d_is_dice : Binds K fd_is_dice ["told"] []
  a_is_bounded : Addr
  fd_is_bounded : FuncData
  m_is_bounded : mg "is_bounded" = some (.ref a_is_bounded)
  F_is_bounded : Fun K "is_bounded" "is_bounded" s_is_bounded a_is_bounded fd_is_bounded
  d_is_bounded : Binds K fd_is_bounded ["shares", "dice"] []
  a_fewest_dice : Addr
  fd_fewest_dice : FuncData
  m_fewest_dice : mg "fewest_dice" = some (.ref a_fewest_dice)
  F_fewest_dice : Fun K "fewest_dice" "fewest_dice" s_fewest_dice a_fewest_dice fd_fewest_dice
  d_fewest_dice : Binds K fd_fewest_dice ["shares", "dice"] []
  a_law_stock : Addr
  fd_law_stock : FuncData
  m_law_stock : mg "_law_stock" = some (.ref a_law_stock)
  F_law_stock : Fun K "_law_stock" "_law_stock" s_law_stock a_law_stock fd_law_stock
  d_law_stock : Binds K fd_law_stock ["script", "spot"] []
  a_law_pick : Addr
  fd_law_pick : FuncData
  m_law_pick : mg "_law_pick" = some (.ref a_law_pick)
  F_law_pick : Fun K "_law_pick" "_law_pick" s_law_pick a_law_pick fd_law_pick
  d_law_pick : Binds K fd_law_pick ["stock", "many"] []
  a_law_alike : Addr
  fd_law_alike : FuncData
  m_law_alike : mg "_law_alike" = some (.ref a_law_alike)
  F_law_alike : Fun K "_law_alike" "_law_alike" s_law_alike a_law_alike fd_law_alike
  d_law_alike : Binds K fd_law_alike ["thing", "due"] []
  a_law_low : Addr
  fd_law_low : FuncData
  m_law_low : mg "_law_low" = some (.ref a_law_low)
  F_law_low : Fun K "_law_low" "_law_low" s_law_low a_law_low fd_law_low
  d_law_low : Binds K fd_law_low ["top", "bottom"] []
  a_law_plus : Addr
  fd_law_plus : FuncData
  m_law_plus : mg "_law_plus" = some (.ref a_law_plus)
  F_law_plus : Fun K "_law_plus" "_law_plus" s_law_plus a_law_plus fd_law_plus
  d_law_plus : Binds K fd_law_plus ["one", "other"] []
  a_law_times : Addr
  fd_law_times : FuncData
  m_law_times : mg "_law_times" = some (.ref a_law_times)
  F_law_times : Fun K "_law_times" "_law_times" s_law_times a_law_times fd_law_times
  d_law_times : Binds K fd_law_times ["one", "other"] []
  a_law_shares : Addr
  fd_law_shares : FuncData
  m_law_shares : mg "_law_shares" = some (.ref a_law_shares)
  F_law_shares : Fun K "_law_shares" "_law_shares" s_law_shares a_law_shares fd_law_shares
  d_law_shares : Binds K fd_law_shares ["stock", "most"] []
  a_law_bottom : Addr
  fd_law_bottom : FuncData
  m_law_bottom : mg "_law_bottom" = some (.ref a_law_bottom)
  F_law_bottom : Fun K "_law_bottom" "_law_bottom" s_law_bottom a_law_bottom fd_law_bottom
  d_law_bottom : Binds K fd_law_bottom ["shares"] []
  a_law_dice : Addr
  fd_law_dice : FuncData
  m_law_dice : mg "_law_dice" = some (.ref a_law_dice)
  F_law_dice : Fun K "_law_dice" "_law_dice" s_law_dice a_law_dice fd_law_dice
  d_law_dice : Binds K fd_law_dice ["stock"] []
  a_law_product : Addr
  fd_law_product : FuncData
  m_law_product : mg "_law_product" = some (.ref a_law_product)
  F_law_product : Fun K "_law_product" "_law_product" s_law_product a_law_product fd_law_product
  d_law_product : Binds K fd_law_product ["row"] []
  a_law_is_bounded : Addr
  fd_law_is_bounded : FuncData
  m_law_is_bounded : mg "_law_is_bounded" = some (.ref a_law_is_bounded)
  F_law_is_bounded : Fun K "_law_is_bounded" "_law_is_bounded" s_law_is_bounded a_law_is_bounded fd_law_is_bounded
  d_law_is_bounded : Binds K fd_law_is_bounded ["shares", "dice"] []
  a_law_fewest : Addr
  fd_law_fewest : FuncData
  m_law_fewest : mg "_law_fewest" = some (.ref a_law_fewest)
  F_law_fewest : Fun K "_law_fewest" "_law_fewest" s_law_fewest a_law_fewest fd_law_fewest
  d_law_fewest : Binds K fd_law_fewest ["shares", "dice"] []
  a_law_is_dice : Addr
  fd_law_is_dice : FuncData
  m_law_is_dice : mg "_law_is_dice" = some (.ref a_law_is_dice)
  F_law_is_dice : Fun K "_law_is_dice" "_law_is_dice" s_law_is_dice a_law_is_dice fd_law_is_dice
  d_law_is_dice : Binds K fd_law_is_dice ["thing"] []
  a_law_other : Addr
  fd_law_other : FuncData
  m_law_other : mg "_law_other" = some (.ref a_law_other)
  F_law_other : Fun K "_law_other" "_law_other" s_law_other a_law_other fd_law_other
  d_law_other : Binds K fd_law_other ["stock"] []
  a_law_near : Addr
  fd_law_near : FuncData
  m_law_near : mg "_law_near" = some (.ref a_law_near)
  F_law_near : Fun K "_law_near" "_law_near" s_law_near a_law_near fd_law_near
  d_law_near : Binds K fd_law_near ["stock", "dice"] []
  a_law_right : Addr
  fd_law_right : FuncData
  m_law_right : mg "_law_right" = some (.ref a_law_right)
  F_law_right : Fun K "_law_right" "_law_right" s_law_right a_law_right fd_law_right
  d_law_right : Binds K fd_law_right ["shares", "dice", "named"] []
  a_law : Addr
  fd_law : FuncData
  m_law : mg "law" = some (.ref a_law)
  F_law : Fun K "law" "law" s_law a_law fd_law
  d_law : Binds K fd_law ["script"] []
  b_abs : mg "abs" = none
  b_all : mg "all" = none
  b_bool : mg "bool" = none
  b_int : mg "int" = none
  b_isinstance : mg "isinstance" = none
  b_len : mg "len" = none
  b_list : mg "list" = none
  b_max : mg "max" = none
  b_min : mg "min" = none
  b_range : mg "range" = none
  b_sorted : mg "sorted" = none
  b_str : mg "str" = none
  b_tuple : mg "tuple" = none
  b_zip : mg "zip" = none
  z_ONE : Addr
  m_ONE : mg "ONE" = some (.ref z_ONE)
  v_ONE : ∀ H, DV K H (.tup [.int 1, .int 1]) (.ref z_ONE)
  z_ZERO : Addr
  m_ZERO : mg "ZERO" = some (.ref z_ZERO)
  v_ZERO : ∀ H, DV K H (.tup [.int 0, .int 1]) (.ref z_ZERO)
  i_gcd : mg "gcd" = some (.builtin "math.gcd")
theorem kb_fewest_dice_0_dice_shares {K : PySem.W.Frag} {mg : Str → Option Value} (T : Txt K mg) : KBD K T.fd_fewest_dice ["shares", "dice"] ["dice", "shares"] (gk 0 2 [1, 0]) (gk 0 2 [1, 0]) := KBD.of 0 2 [1, 0] T.F_fewest_dice (by decide) fun _ _ _ _ _ _ us ws h1 h2 => match us, ws, h1, h2 with | [], [_, _], _, _ => rfl
theorem kb_is_bounded_0_dice_shares {K : PySem.W.Frag} {mg : Str → Option Value} (T : Txt K mg) : KBD K T.fd_is_bounded ["shares", "dice"] ["dice", "shares"] (gk 0 2 [1, 0]) (gk 0 2 [1, 0]) := KBD.of 0 2 [1, 0] T.F_is_bounded (by decide) fun _ _ _ _ _ _ us ws h1 h2 => match us, ws, h1, h2 with | [], [_, _], _, _ => rfl
theorem kb_is_dice_0_told {K : PySem.W.Frag} {mg : Str → Option Value} (T : Txt K mg) : KBD K T.fd_is_dice ["told"] ["told"] (gk 0 1 [0]) (gk 0 1 [0]) := KBD.of 0 1 [0] T.F_is_dice (by decide) fun _ _ _ _ _ _ us ws h1 h2 => match us, ws, h1, h2 with | [], [_], _, _ => rfl
end K25
set_option Elab.async false
set_option linter.all false
set_option maxRecDepth 100000
set_option maxHeartbeats 4000000
namespace K25
/-! ### the plain law -/
def prodN : List Nat → Nat
  | [] => 1
  | a :: l => a * prodN l
theorem prodN_app : ∀ (l m : List Nat), prodN (l ++ m) = prodN l * prodN m
  | [], m => by simp [prodN]
  | a :: l, m => by
    show a * prodN (l ++ m) = a * prodN l * prodN m
    rw [prodN_app l m, Nat.mul_assoc]
def leftR (n : Nat) (r : List Nat) : Nat := r.foldl (fun l s => l / Nat.gcd l s) n
theorem leftR_app (n : Nat) (r : List Nat) (s : Nat) : leftR n (r ++ [s]) = leftR n r / Nat.gcd (leftR n r) s := by
  unfold leftR
  rw [List.foldl_append]
  rfl
theorem dvd_step {n s m : Nat} (h : 0 < n) : n / Nat.gcd n s ∣ m ↔ n ∣ s * m := by
  have hg : 0 < Nat.gcd n s := Nat.gcd_pos_of_pos_left s h
  obtain ⟨n', hn⟩ := Nat.gcd_dvd_left n s
  obtain ⟨s', hs⟩ := Nat.gcd_dvd_right n s
  have e1 : n / Nat.gcd n s = n' := by
    conv => lhs; lhs; rw [hn]
    exact Nat.mul_div_cancel_left _ hg
  have e2 : s / Nat.gcd n s = s' := by
    conv => lhs; lhs; rw [hs]
    exact Nat.mul_div_cancel_left _ hg
  have hc : Nat.Coprime n' s' := by
    have := Nat.coprime_div_gcd_div_gcd (m := n) (n := s) hg
    rw [e1, e2] at this
    exact this
  rw [e1]
  constructor
  · intro hd
    have h1 := Nat.mul_dvd_mul (Nat.dvd_refl (Nat.gcd n s)) (Nat.dvd_trans hd (Nat.dvd_mul_left m s'))
    rw [← hn, ← Nat.mul_assoc, ← hs] at h1
    exact h1
  · intro hd
    rw [show s * m = Nat.gcd n s * (s' * m) by rw [← Nat.mul_assoc, ← hs]] at hd
    have h1 : Nat.gcd n s * n' ∣ Nat.gcd n s * (s' * m) := by rw [← hn]; exact hd
    exact hc.dvd_of_dvd_mul_left (Nat.dvd_of_mul_dvd_mul_left hg h1)
theorem step_pos {n s : Nat} (h : 0 < n) : 0 < n / Nat.gcd n s :=
  Nat.div_pos (Nat.le_of_dvd h (Nat.gcd_dvd_left n s)) (Nat.gcd_pos_of_pos_left s h)
theorem leftR_pos : ∀ (r : List Nat) {n : Nat}, 0 < n → 0 < leftR n r
  | [], _, h => h
  | s :: r, n, h => leftR_pos r (step_pos (s := s) h)
theorem leftR_one : ∀ (r : List Nat) {n : Nat}, 0 < n → (leftR n r = 1 ↔ n ∣ prodN r)
  | [], n, h => by
    show n = 1 ↔ n ∣ 1
    exact (Nat.dvd_one).symm
  | s :: r, n, h => by
    show leftR (n / Nat.gcd n s) r = 1 ↔ n ∣ s * prodN r
    rw [leftR_one r (step_pos (s := s) h), dvd_step h]
theorem leftR_le : ∀ (r : List Nat) (n : Nat), leftR n r ≤ n
  | [], n => Nat.le_refl n
  | s :: r, n => Nat.le_trans (leftR_le r _) (Nat.div_le_self _ _)
def Bounded (n : Nat) (ss : List Nat) : Prop := ∃ k, n ∣ prodN ss ^ k
theorem cop_prod {n : Nat} : ∀ {ss : List Nat}, (∀ s ∈ ss, Nat.Coprime n s) → Nat.Coprime n (prodN ss)
  | [], _ => Nat.coprime_one_right n
  | s :: ss, h => Nat.Coprime.mul_right (h s (by simp)) (cop_prod fun x hx => h x (List.mem_cons_of_mem _ hx))
def ins (s : Nat) : List Nat → List Nat
  | [] => [s]
  | a :: l => if s ≤ a then s :: a :: l else a :: ins s l
theorem ins_prod (s : Nat) : ∀ l, prodN (ins s l) = s * prodN l
  | [] => rfl
  | a :: l => by
    unfold ins
    split
    · rfl
    · show a * prodN (ins s l) = s * (a * prodN l)
      rw [ins_prod s l, Nat.mul_left_comm]
theorem ins_mem (s : Nat) : ∀ l x, x ∈ ins s l ↔ x = s ∨ x ∈ l
  | [], x => by simp [ins]
  | a :: l, x => by
    unfold ins
    split
    · simp
    · rw [List.mem_cons, ins_mem s l x, List.mem_cons]
      constructor
      · rintro (h | h | h)
        · exact .inr (.inl h)
        · exact .inl h
        · exact .inr (.inr h)
      · rintro (h | h | h)
        · exact .inr (.inl h)
        · exact .inl h
        · exact .inr (.inr h)
theorem ins_len (s : Nat) : ∀ l, (ins s l).length = l.length + 1
  | [] => rfl
  | a :: l => by
    unfold ins
    split
    · rfl
    · show (ins s l).length + 1 = _
      rw [ins_len s l]
      rfl
theorem ins_sorted (s : Nat) : ∀ {l : List Nat}, l.Pairwise (· ≤ ·) → (ins s l).Pairwise (· ≤ ·)
  | [], _ => by simp [ins]
  | a :: l, h => by
    have h1 := List.pairwise_cons.mp h
    unfold ins
    split
    · rename_i hs
      refine List.pairwise_cons.mpr ⟨fun x hx => ?_, h⟩
      rcases List.mem_cons.mp hx with rfl | hx
      · exact hs
      · exact Nat.le_trans hs (h1.1 x hx)
    · rename_i hs
      refine List.pairwise_cons.mpr ⟨fun x hx => ?_, ins_sorted s h1.2⟩
      rcases (ins_mem s l x).mp hx with rfl | hx
      · omega
      · exact h1.1 x hx
theorem bounded_row {ss : List Nat} : ∀ (n : Nat), 0 < n → Bounded n ss → ∃ r : List Nat, n ∣ prodN r ∧ (∀ s ∈ r, s ∈ ss) ∧ 2 ^ r.length ≤ n ∧ r.Pairwise (· ≤ ·) := by
  intro n
  induction n using Nat.strongRecOn with
  | ind n ih =>
    intro h0 ⟨k, hk⟩
    by_cases h1 : n = 1
    · subst h1
      exact ⟨[], Nat.dvd_refl 1, (fun _ z => by cases z), Nat.le_refl _, .nil⟩
    · by_cases hs : ∃ s ∈ ss, Nat.gcd n s ≠ 1
      · obtain ⟨s, hm, hg⟩ := hs
        have hg0 : 0 < Nat.gcd n s := Nat.gcd_pos_of_pos_left s h0
        obtain ⟨m, hm2⟩ := Nat.gcd_dvd_left n s
        have e1 : n / Nat.gcd n s = m := by
          conv => lhs; lhs; rw [hm2]
          exact Nat.mul_div_cancel_left _ hg0
        have m0 : 0 < m := by rw [← e1]; exact step_pos h0
        have h2 : 2 * m ≤ n := by
          conv => rhs; rw [hm2]
          exact Nat.mul_le_mul_right _ (by omega)
        obtain ⟨r, r1, r2, r3, r4⟩ := ih m (by omega) m0 ⟨k, Nat.dvd_trans ⟨Nat.gcd n s, by rw [Nat.mul_comm]; exact hm2⟩ hk⟩
        refine ⟨ins s r, ?_, fun x hx => ?_, ?_, ins_sorted s r4⟩
        · rw [ins_prod]
          rw [← e1] at r1
          exact (dvd_step h0).mp r1
        · rcases (ins_mem s r x).mp hx with rfl | hx
          · exact hm
          · exact r2 x hx
        · rw [ins_len, Nat.pow_succ]
          omega
      · have hc : Nat.Coprime n (prodN ss ^ k) := Nat.Coprime.pow_right k (cop_prod fun s hm => Decidable.byContradiction fun z => hs ⟨s, hm, z⟩)
        exact absurd (Nat.Coprime.eq_one_of_dvd hc hk) h1
/-! the rows, one die more each time -/
def lastN (r : List Nat) : Nat := r.getLast?.getD 0
theorem lastN_app (r : List Nat) (s : Nat) : lastN (r ++ [s]) = s := by
  unfold lastN
  rw [List.getLast?_append]
  rfl
def kids (ss : List Nat) (r : List Nat) : List (List Nat) := (ss.filter fun s => decide (lastN r ≤ s)).map fun s => r ++ [s]
def rowsN (ss : List Nat) : Nat → List (List Nat)
  | 0 => [[]]
  | k + 1 => (rowsN ss k).flatMap (kids ss)
theorem mem_rows {ss : List Nat} : ∀ (k : Nat) (r : List Nat), r.length = k → r.Pairwise (· ≤ ·) → (∀ s ∈ r, s ∈ ss) → r ∈ rowsN ss k
  | 0, r, h, _, _ => by
    rw [List.eq_nil_of_length_eq_zero h]
    exact List.mem_singleton.mpr rfl
  | k + 1, r, h, hp, hm => by
    rcases List.eq_nil_or_concat r with e | ⟨l, s, e⟩
    · subst e; cases h
    · rw [List.concat_eq_append] at e
      subst e
      have hl : l.length = k := by rw [List.length_append] at h; simpa using h
      have hp2 := List.pairwise_append.mp hp
      have ih := mem_rows k l hl hp2.1 fun x hx => hm x (List.mem_append_left _ hx)
      refine List.mem_flatMap.mpr ⟨l, ih, List.mem_map.mpr ⟨s, List.mem_filter.mpr ⟨hm s (by simp), decide_eq_true ?_⟩, rfl⟩⟩
      unfold lastN
      cases e : l.getLast? with
      | none => exact Nat.zero_le _
      | some x =>
        have hx := List.mem_of_getLast? e
        exact hp2.2.2 x hx s (by simp)
theorem rows_mem {ss : List Nat} : ∀ (k : Nat) (r : List Nat), r ∈ rowsN ss k → r.length = k ∧ ∀ s ∈ r, s ∈ ss
  | 0, r, h => by
    have := List.mem_singleton.mp h
    subst this
    exact ⟨rfl, fun _ z => by cases z⟩
  | k + 1, r, h => by
    obtain ⟨l, hl, hr⟩ := List.mem_flatMap.mp h
    obtain ⟨s, hs, rfl⟩ := List.mem_map.mp hr
    obtain ⟨h1, h2⟩ := rows_mem k l hl
    refine ⟨by rw [List.length_append, h1]; rfl, fun x hx => ?_⟩
    rcases List.mem_append.mp hx with hx | hx
    · exact h2 x hx
    · cases List.mem_singleton.mp hx
      exact (List.mem_filter.mp hs).1
theorem least_of {p : Nat → Prop} : ∀ (K : Nat), p K → ∃ k, k ≤ K ∧ p k ∧ ∀ j, j < k → ¬ p j
  | 0, h => ⟨0, Nat.le_refl _, h, fun j hj => by omega⟩
  | K + 1, h => by
    by_cases e : ∃ j, j ≤ K ∧ p j
    · obtain ⟨j, hj, pj⟩ := e
      obtain ⟨k, hk, pk, q⟩ := least_of j pj
      exact ⟨k, by omega, pk, q⟩
    · exact ⟨K + 1, Nat.le_refl _, h, fun j hj pj => e ⟨j, by omega, pj⟩⟩
  termination_by K => K
  decreasing_by omega
def hit (n : Nat) (r : List Nat) : Bool := decide (n ∣ prodN r)
theorem fewest_ex {n : Nat} {ss : List Nat} (h0 : 0 < n) (h36 : n < 2 ^ 36) (hb : Bounded n ss) : ∃ K r, K < 36 ∧ (rowsN ss K).find? (hit n) = some r ∧ ∀ k, k < K → (rowsN ss k).find? (hit n) = none := by
  obtain ⟨r, r1, r2, r3, r4⟩ := bounded_row n h0 hb
  have hm := mem_rows r.length r rfl r4 r2
  obtain ⟨K, hK, hp, hl⟩ := least_of (p := fun k => ((rowsN ss k).find? (hit n)).isSome = true) r.length (by
    cases e : (rowsN ss r.length).find? (hit n) with
    | some _ => rfl
    | none =>
      have := List.find?_eq_none.mp e r hm
      exact absurd (decide_eq_true r1) this)
  have hlen : r.length < 36 := by
    rcases Nat.lt_or_ge r.length 36 with z | z
    · exact z
    · have := Nat.pow_le_pow_right (n := 2) (by decide) z
      omega
  cases e : (rowsN ss K).find? (hit n) with
  | none => rw [e] at hp; cases hp
  | some x =>
    refine ⟨K, x, by omega, e, fun k hk => ?_⟩
    have := hl k hk
    cases e2 : (rowsN ss k).find? (hit n) with
    | none => rfl
    | some _ => rw [e2] at this; exact absurd rfl this
/-! how many rows there are -/
def up (g : Nat → Nat) : Nat → Nat
  | 0 => 0
  | t + 1 => up g t + g (t + 1)
def tN (ss r : List Nat) : Nat := (ss.filter fun s => decide (lastN r ≤ s)).length
theorem asc_sum (g : Nat → Nat) : ∀ {l : List Nat}, l.Pairwise (· < ·) → (l.map fun s => g ((l.filter fun x => decide (s ≤ x)).length)).sum = up g l.length
  | [], _ => rfl
  | a :: l, h => by
    obtain ⟨h1, h2⟩ := List.pairwise_cons.mp h
    have ih := asc_sum g h2
    rw [List.map_cons, List.sum_cons]
    have e1 : ((a :: l).filter fun x => decide (a ≤ x)) = a :: l := List.filter_eq_self.mpr fun x hx => by
      rcases List.mem_cons.mp hx with rfl | hx
      · exact decide_eq_true (Nat.le_refl _)
      · exact decide_eq_true (Nat.le_of_lt (h1 x hx))
    have e2 : (l.map fun s => g (((a :: l).filter fun x => decide (s ≤ x)).length)) = l.map fun s => g ((l.filter fun x => decide (s ≤ x)).length) := by
      apply List.map_congr_left
      intro s hs
      have := h1 s hs
      rw [List.filter_cons, if_neg (by simp; omega)]
    rw [e1, e2, ih]
    show g (l.length + 1) + up g l.length = up g l.length + g (l.length + 1)
    omega
theorem kids_sum {ss : List Nat} (h : ss.Pairwise (· < ·)) (g : Nat → Nat) (r : List Nat) : ((kids ss r).map fun c => g (tN ss c)).sum = up g (tN ss r) := by
  have hl := List.Pairwise.filter (fun s => decide (lastN r ≤ s)) h
  have := asc_sum g hl
  rw [show tN ss r = (ss.filter fun s => decide (lastN r ≤ s)).length from rfl, ← this]
  unfold kids
  rw [List.map_map]
  congr 1
  apply List.map_congr_left
  intro s hs
  have hs2 := of_decide_eq_true (List.mem_filter.mp hs).2
  show g ((ss.filter fun x => decide (lastN (r ++ [s]) ≤ x)).length) = _
  rw [lastN_app, List.filter_filter]
  congr 2
  apply List.filter_congr
  intro x _
  by_cases hx : s ≤ x
  · rw [decide_eq_true hx, decide_eq_true (show lastN r ≤ x by omega)]; rfl
  · rw [decide_eq_false hx]; rfl
theorem flat_sum {α : Type} (f : α → Nat) (k : α → List α) : ∀ l : List α, ((l.flatMap k).map f).sum = (l.map fun r => ((k r).map f).sum).sum
  | [] => rfl
  | a :: l => by
    rw [List.flatMap_cons, List.map_append, List.sum_append, flat_sum f k l, List.map_cons, List.sum_cons]
def upI : Nat → (Nat → Nat) → Nat → Nat
  | 0, g => g
  | k + 1, g => upI k (up g)
theorem rows_sum {ss : List Nat} (h : ss.Pairwise (· < ·)) : ∀ (k : Nat) (g : Nat → Nat), ((rowsN ss k).map fun r => g (tN ss r)).sum = upI k g ss.length
  | 0, g => by
    show [g (tN ss [])].sum = g ss.length
    have : tN ss [] = ss.length := by
      exact congrArg List.length (List.filter_eq_self.mpr fun x _ => decide_eq_true (Nat.zero_le x))
    rw [this]
    simp
  | k + 1, g => by
    show (((rowsN ss k).flatMap (kids ss)).map fun r => g (tN ss r)).sum = upI k (up g) ss.length
    rw [flat_sum, ← rows_sum h k (up g)]
    congr 1
    apply List.map_congr_left
    intro r _
    exact kids_sum h g r
theorem upI_comm : ∀ (k : Nat) (g : Nat → Nat), upI k (up g) = up (upI k g)
  | 0, _ => rfl
  | k + 1, g => upI_comm k (up g)
theorem upI_le : ∀ (m k : Nat), upI k (fun _ => 1) (m + 1) ≤ (k + 1) ^ m
  | 0, k => by
    induction k with
    | zero => exact Nat.le_refl _
    | succ k ih =>
      show upI k (up fun _ => 1) 1 ≤ _
      rw [upI_comm]
      show up (upI k fun _ => 1) 0 + upI k (fun _ => 1) 1 ≤ _
      have : up (upI k fun _ => 1) 0 = 0 := rfl
      rw [this]
      simpa using ih
  | m + 1, k => by
    induction k with
    | zero => show 1 ≤ _; simp
    | succ k ih =>
      show upI k (up fun _ => 1) (m + 1 + 1) ≤ _
      rw [upI_comm]
      show up (upI k fun _ => 1) (m + 1) + upI k (fun _ => 1) (m + 1 + 1) ≤ _
      have h1 : up (upI k fun _ => 1) (m + 1) = upI (k + 1) (fun _ => 1) (m + 1) := by
        show _ = upI k (up fun _ => 1) (m + 1)
        rw [upI_comm]
      rw [h1]
      have h2 := upI_le m (k + 1)
      have h3 : (k + 1) ^ (m + 1) ≤ (k + 1) * (k + 1 + 1) ^ m := by
        rw [Nat.pow_succ, Nat.mul_comm]
        exact Nat.mul_le_mul_left _ (Nat.pow_le_pow_left (by omega) m)
      have h4 : (k + 1 + 1) ^ (m + 1) = (k + 1) * (k + 1 + 1) ^ m + (k + 1 + 1) ^ m := by
        rw [Nat.pow_succ, Nat.mul_comm, Nat.succ_mul]
      omega
theorem rows_len {ss : List Nat} (h : ss.Pairwise (· < ·)) (h5 : ss.length ≤ 5) {k : Nat} (hk : k ≤ 40) : (rowsN ss k).length ≤ 3000000 := by
  have e := rows_sum h k fun _ => 1
  have e2 : ((rowsN ss k).map fun r => (fun _ => 1) (tN ss r)).sum = (rowsN ss k).length := by
    generalize rowsN ss k = l
    induction l with
    | nil => rfl
    | cons a l ih =>
      simp only [List.map_cons, List.sum_cons, List.length_cons] at ih ⊢
      rw [ih]
      omega
  rw [e2] at e
  rw [e]
  cases hm : ss.length with
  | zero =>
    have : ∀ k, upI k (fun _ => 1) 0 ≤ 1 := fun k => by
      cases k with
      | zero => exact Nat.le_refl _
      | succ k => show upI k (up fun _ => 1) 0 ≤ 1; rw [upI_comm]; exact Nat.zero_le _
    exact Nat.le_trans (this k) (by decide)
  | succ m =>
    refine Nat.le_trans (upI_le m k) ?_
    refine Nat.le_trans (Nat.pow_le_pow_left (show k + 1 ≤ 41 by omega) m) ?_
    exact Nat.le_trans (Nat.pow_le_pow_right (by decide) (show m ≤ 4 by omega)) (by decide)
/-! numbers without divisors -/
def primeB (p : Nat) : Prop := 2 ≤ p ∧ ∀ d, 2 ≤ d → d < p → ¬ d ∣ p
theorem prime_cop {p s : Nat} (hp : primeB p) (h : ¬ p ∣ s) : Nat.Coprime p s := by
  have h1 := Nat.gcd_dvd_left p s
  have h2 : Nat.gcd p s ≤ p := Nat.le_of_dvd (by have := hp.1; omega) h1
  have h0 : 0 < Nat.gcd p s := Nat.gcd_pos_of_pos_left s (by have := hp.1; omega)
  show Nat.gcd p s = 1
  rcases Nat.lt_or_ge (Nat.gcd p s) 2 with z | z
  · omega
  · rcases Nat.lt_or_ge (Nat.gcd p s) p with y | y
    · exact absurd h1 (hp.2 _ z y)
    · have e : Nat.gcd p s = p := by omega
      exact absurd (e ▸ Nat.gcd_dvd_right p s) h
theorem prime_ex : ∀ {n : Nat}, 1 < n → ∃ p, primeB p ∧ p ∣ n := fun {n} h => by
  obtain ⟨p, hp, ⟨h1, h2⟩, hl⟩ := least_of (p := fun d => 2 ≤ d ∧ d ∣ n) n ⟨h, Nat.dvd_refl n⟩
  exact ⟨p, ⟨h1, fun d hd hdp hdv => hl d hdp ⟨hd, Nat.dvd_trans hdv h2⟩⟩, h2⟩
theorem left_ex {s : Nat} : ∀ (n : Nat), 0 < n → ∃ r, r ∣ n ∧ Nat.Coprime r s ∧ ∃ k, n ∣ r * s ^ k := by
  intro n
  induction n using Nat.strongRecOn with
  | ind n ih =>
    intro h0
    by_cases hg : Nat.gcd n s = 1
    · exact ⟨n, Nat.dvd_refl n, hg, 0, by simp⟩
    · have hg0 : 0 < Nat.gcd n s := Nat.gcd_pos_of_pos_left s h0
      obtain ⟨m, hm⟩ := Nat.gcd_dvd_left n s
      have m0 : 0 < m := by
        rcases Nat.eq_zero_or_pos m with z | z
        · rw [z] at hm; simp at hm; omega
        · exact z
      have h2 : 2 * m ≤ n := by
        conv => rhs; rw [hm]
        exact Nat.mul_le_mul_right _ (by omega)
      obtain ⟨r, r1, r2, k, r3⟩ := ih m (by omega) m0
      refine ⟨r, Nat.dvd_trans r1 ⟨Nat.gcd n s, by rw [Nat.mul_comm]; exact hm⟩, r2, k + 1, ?_⟩
      have := Nat.mul_dvd_mul r3 (Nat.gcd_dvd_right n s)
      rw [Nat.mul_comm m, ← hm] at this
      rw [Nat.pow_succ, ← Nat.mul_assoc]
      exact this
/-- what is left of n by all of ss -/
def LeftAll (n : Nat) (ss : List Nat) (r : Nat) : Prop := r ∣ n ∧ (∀ s ∈ ss, Nat.Coprime r s) ∧ ∃ k, n ∣ r * prodN ss ^ k
theorem leftAll_one {n r : Nat} {ss : List Nat} (h : LeftAll n ss r) : r = 1 ↔ Bounded n ss := by
  obtain ⟨h1, h2, k, h3⟩ := h
  constructor
  · rintro rfl
    exact ⟨k, by simpa using h3⟩
  · rintro ⟨j, hj⟩
    exact Nat.Coprime.eq_one_of_dvd (Nat.Coprime.pow_right j (cop_prod h2)) (Nat.dvd_trans h1 hj)
theorem pow_join {r s P k j : Nat} : r * s ^ k * P ^ j ∣ r * (s * P) ^ (k + j) := by
  rw [Nat.mul_pow, Nat.mul_assoc]
  apply Nat.mul_dvd_mul (Nat.dvd_refl r)
  exact Nat.mul_dvd_mul (Nat.pow_dvd_pow s (by omega)) (Nat.pow_dvd_pow P (by omega))
theorem leftAll_step {n r r' s : Nat} {ss : List Nat} (h : LeftAll n ss r) (h1 : r' ∣ r) (h2 : Nat.Coprime r' s) (h3 : ∃ k, r ∣ r' * s ^ k) : LeftAll n (ss ++ [s]) r' := by
  obtain ⟨a1, a2, j, a3⟩ := h
  obtain ⟨k, h3⟩ := h3
  refine ⟨Nat.dvd_trans h1 a1, fun x hx => ?_, k + j, ?_⟩
  · rcases List.mem_append.mp hx with hx | hx
    · exact Nat.Coprime.coprime_dvd_left h1 (a2 x hx)
    · cases List.mem_singleton.mp hx; exact h2
  · have e : prodN (ss ++ [s]) = s * prodN ss := by rw [prodN_app, Nat.mul_comm]; show prodN [s] * _ = _; simp [prodN]
    rw [e]
    exact Nat.dvd_trans (Nat.dvd_trans a3 (Nat.mul_dvd_mul h3 (Nat.dvd_refl _))) pow_join
theorem leftAll_ex {n : Nat} (h0 : 0 < n) (ss : List Nat) : ∃ r, LeftAll n ss r := by
  have : ∀ (k : Nat), ∃ r, LeftAll n (ss.take k) r ∧ 0 < r := by
    intro k
    induction k with
    | zero => exact ⟨n, ⟨Nat.dvd_refl n, (fun _ z => by simp at z), 0, by simp⟩, h0⟩
    | succ k ih =>
      obtain ⟨r, hr, r0⟩ := ih
      by_cases hk : k < ss.length
      · rw [List.take_succ, List.getElem?_eq_getElem hk]
        obtain ⟨r', a1, a2, a3⟩ := left_ex (s := ss[k]) r r0
        exact ⟨r', leftAll_step hr a1 a2 a3, Nat.pos_of_dvd_of_pos a1 r0⟩
      · rw [List.take_of_length_le (by omega)]
        rw [List.take_of_length_le (by omega)] at hr
        exact ⟨r, hr, r0⟩
  obtain ⟨r, hr, _⟩ := this ss.length
  rw [List.take_length] at hr
  exact ⟨r, hr⟩
theorem bounded_iff {n : Nat} {ss : List Nat} (h0 : 0 < n) (h60 : ∀ p, primeB p → p ∣ n → p < 60) : Bounded n ss ↔ ∀ p, primeB p → p < 60 → p ∣ n → ∃ s ∈ ss, p ∣ s := by
  constructor
  · rintro ⟨k, hk⟩ p hp _ hd
    refine Decidable.byContradiction fun z => ?_
    have hc : Nat.Coprime p (prodN ss ^ k) := Nat.Coprime.pow_right k (cop_prod fun s hs => prime_cop hp fun y => z ⟨s, hs, y⟩)
    have := Nat.Coprime.eq_one_of_dvd hc (Nat.dvd_trans hd hk)
    have := hp.1
    omega
  · intro h
    obtain ⟨r, hr⟩ := leftAll_ex h0 ss
    refine (leftAll_one hr).mp ?_
    refine Decidable.byContradiction fun z => ?_
    have r0 : 0 < r := Nat.pos_of_dvd_of_pos hr.1 h0
    obtain ⟨p, hp, hd⟩ := prime_ex (show 1 < r by omega)
    have hn := Nat.dvd_trans hd hr.1
    obtain ⟨s, hs, hps⟩ := h p hp (h60 p hp hn) hn
    have := Nat.dvd_gcd hd hps
    rw [hr.2.1 s hs] at this
    have := Nat.dvd_one.mp this
    have := hp.1
    omega
/-! the bottoms together -/
def lcmN (ds : List Nat) : Nat := ds.foldl Nat.lcm 1
theorem lcm_eq {m n : Nat} (h : 0 < m) : m / Nat.gcd m n * n = Nat.lcm m n := by
  unfold Nat.lcm
  obtain ⟨m', hm⟩ := Nat.gcd_dvd_left m n
  have hg : 0 < Nat.gcd m n := Nat.gcd_pos_of_pos_left n h
  have e : m / Nat.gcd m n = m' := by
    conv => lhs; lhs; rw [hm]
    exact Nat.mul_div_cancel_left _ hg
  rw [e]
  have e2 : m * n = Nat.gcd m n * (m' * n) := by rw [← Nat.mul_assoc, ← hm]
  rw [e2, Nat.mul_div_cancel_left _ hg]
theorem lcm_eq2 {m n : Nat} (h : 0 < m) : m * (n / Nat.gcd m n) = Nat.lcm m n := by
  have hg : 0 < Nat.gcd m n := Nat.gcd_pos_of_pos_left n h
  unfold Nat.lcm
  exact (Nat.mul_div_assoc m (Nat.gcd_dvd_right m n)).symm
theorem prime_lcm {p : Nat} (hp : primeB p) : ∀ {ds : List Nat} {n : Nat}, p ∣ ds.foldl Nat.lcm n → p ∣ n ∨ ∃ d ∈ ds, p ∣ d
  | [], n, h => .inl h
  | d :: ds, n, h => by
    rcases prime_lcm hp (ds := ds) (n := Nat.lcm n d) h with h | ⟨x, hx, h⟩
    · have h2 : p ∣ n * d := Nat.dvd_trans h (Nat.lcm_dvd_mul n d)
      by_cases hn : p ∣ n
      · exact .inl hn
      · exact .inr ⟨d, by simp, (prime_cop hp hn).dvd_of_dvd_mul_left h2⟩
    · exact .inr ⟨x, List.mem_cons_of_mem _ hx, h⟩
theorem lcm60 {ds : List Nat} (h : ∀ d ∈ ds, 0 < d ∧ d ≤ 60) : ∀ p, primeB p → p ∣ lcmN ds → p < 60 := fun p hp hd => by
  rcases prime_lcm hp hd with h1 | ⟨d, hm, h1⟩
  · have := Nat.dvd_one.mp h1
    omega
  · have h2 := h d hm
    have h3 := Nat.le_of_dvd h2.1 h1
    rcases Nat.lt_or_ge p 60 with z | z
    · exact z
    · have e : p = 60 := by omega
      subst e
      exact absurd (by decide) (hp.2 2 (by decide) (by decide))
theorem fold_lcm_pos : ∀ {ds : List Nat} {n : Nat}, 0 < n → (∀ d ∈ ds, 0 < d) → 0 < ds.foldl Nat.lcm n
  | [], n, h, _ => h
  | d :: ds, n, h, hd => fold_lcm_pos (ds := ds) (Nat.lcm_pos h (hd d (by simp))) fun x hx => hd x (List.mem_cons_of_mem _ hx)
theorem fold_lcm_le : ∀ {ds : List Nat} {n : Nat}, 0 < n → (∀ d ∈ ds, 0 < d ∧ d ≤ 60) → ds.foldl Nat.lcm n ≤ n * 60 ^ ds.length
  | [], n, _, _ => by simp
  | d :: ds, n, h, hd => by
    have h1 := hd d (by simp)
    have h2 := fold_lcm_le (ds := ds) (Nat.lcm_pos h h1.1) fun x hx => hd x (List.mem_cons_of_mem _ hx)
    have h3 : Nat.lcm n d ≤ n * 60 := Nat.le_trans (Nat.le_of_dvd (Nat.mul_pos h h1.1) (Nat.lcm_dvd_mul n d)) (Nat.mul_le_mul_left n h1.2)
    show (ds.foldl Nat.lcm (Nat.lcm n d)) ≤ _
    rw [List.length_cons, Nat.pow_succ]
    refine Nat.le_trans h2 ?_
    have := Nat.mul_le_mul_right (60 ^ ds.length) h3
    rw [Nat.mul_comm (60 ^ ds.length) 60, ← Nat.mul_assoc]
    exact this
theorem lcmN_lt {ds : List Nat} (h : ∀ d ∈ ds, 0 < d ∧ d ≤ 60) (hl : ds.length ≤ 6) : 0 < lcmN ds ∧ lcmN ds < 2 ^ 36 := by
  refine ⟨fold_lcm_pos (by decide) fun d hd => (h d hd).1, ?_⟩
  have h1 := fold_lcm_le (n := 1) (by decide) h
  rw [Nat.one_mul] at h1
  exact Nat.lt_of_le_of_lt (Nat.le_trans h1 (Nat.pow_le_pow_right (by decide) hl)) (by decide)
end K25
set_option Elab.async false
set_option linter.all false
set_option maxRecDepth 100000
set_option maxHeartbeats 4000000
namespace K25
open PySem PySem.Spec PyProof.Rows L2 DL
local macro_rules | `(tactic| walk_at "w") => `(tactic| conv => whnf)
local macro_rules | `(tactic| walk_at "g") => `(tactic| ((conv => whnf); repeat' (first | (refine IFB.t ?_ ?_; rfl; conv => whnf) | (refine IFB.f ?_ ?_; rfl; conv => whnf))))

set_option exponentiation.threshold 4000
/-- a value whose kind is known -/
def Kn (S : Sto) : D → Prop
  | .ref a => (∃ xs, S a = some (.lst xs)) ∨ ∃ kvs, S a = some (.dK kvs)
  | .ty _ => False
  | .exc _ _ => False
  | _ => True
theorem Kn.ext {S S' : Sto} {d : D} (h : Kn S d) (x : Ext S S') : Kn S' d := by
  cases d with
  | ref a =>
    rcases h with ⟨xs, e⟩ | ⟨kvs, e⟩
    · exact .inl ⟨xs, x _ _ e⟩
    · exact .inr ⟨kvs, x _ _ e⟩
  | _ => exact h
def isInt : D → Bool
  | .int _ => true
  | _ => false

def OddD (S : Sto) (d : D) : Prop := Kn S d ∧ ∀ xs, d = .tup xs → (∀ x ∈ xs, Kn S x) ∧ xs.length ≤ 100000
theorem OddD.ext {S S' : Sto} {d : D} (h : OddD S d) (x : Ext S S') : OddD S' d := ⟨h.1.ext x, fun xs e => ⟨fun z hz => ((h.2 xs e).1 z hz).ext x, (h.2 xs e).2⟩⟩
def dieB : D → Bool
  | .int i => decide (1 < i)
  | _ => false
def intOf : D → Int
  | .int i => i
  | _ => 0
def ascI (is : List Int) : Bool := ((is.zip (is.drop 1)).map fun p => decide (p.1 < p.2)).all id
def isDice : D → Bool
  | .tup xs => (xs.map dieB).all id && ascI (xs.map intOf)
  | _ => false
theorem dies_int {xs : List D} (h : (xs.map dieB).all id = true) : xs = (xs.map intOf).map D.int ∧ ∀ i ∈ xs.map intOf, 1 < i := by
  rw [List.all_map, List.all_eq_true] at h
  constructor
  · rw [List.map_map]
    conv => lhs; rw [← List.map_id xs]
    apply List.map_congr_left
    intro x hx
    have := h x hx
    cases x <;> first | rfl | (cases this)
  · intro i hi
    obtain ⟨x, hx, rfl⟩ := List.mem_map.mp hi
    have := h x hx
    cases x <;> first | exact of_decide_eq_true this | (cases this)
theorem ascI_iff {is : List Int} : ascI is = true ↔ ∀ j a b, is[j]? = some a → is[j + 1]? = some b → a < b := by
  unfold ascI
  rw [List.all_map, List.all_eq_true]
  constructor
  · intro h j a b ha hb
    have hm : (is.zip (is.drop 1))[j]? = some (a, b) := List.getElem?_zip_eq_some.mpr ⟨ha, by rw [List.getElem?_drop, Nat.add_comm]; exact hb⟩
    exact of_decide_eq_true (h (a, b) (List.mem_of_getElem? hm))
  · intro h p hp
    obtain ⟨j, hj, e⟩ := List.mem_iff_getElem.mp hp
    have he : (is.zip (is.drop 1))[j]? = some p := by rw [List.getElem?_eq_getElem hj, e]
    obtain ⟨a, b⟩ := p
    obtain ⟨h1, h2⟩ := List.getElem?_zip_eq_some.mp he
    rw [List.getElem?_drop, Nat.add_comm] at h2
    exact decide_eq_true (h j a b h1 h2)
def ltD : D → D
  | .tup [.int a, .int b] => .bl (decide (a < b))
  | d => d
theorem cut1 (xs : List D) : cutD xs (some (1 : Int)) none = xs.drop 1 := by
  cases xs with
  | nil => rfl
  | cons a l => exact cut_from (r := 1) (by simp)
theorem zp_ints (is js : List Int) : zpD (is.map D.int) (js.map D.int) = (is.zip js).map fun p => D.tup [.int p.1, .int p.2] := by
  unfold zpD
  rw [List.zip_map, List.map_map]
  rfl
theorem lt_zp (is js : List Int) : (zpD (is.map D.int) (js.map D.int)).map ltD = ((is.zip js).map fun p => decide (p.1 < p.2)).map D.bl := by
  rw [zp_ints, List.map_map, List.map_map]
  rfl
def sp_is_integer : DSp := fun ds S Q _ => ∃ d, ds = [d] ∧ Kn S d ∧ Q (.bl (isInt d)) S
def sp_is_pair : DSp := fun ds S Q _ => ∃ q, ds = [fr q] ∧ Q (.bl true) S
def sp_lowest : DSp := fun ds S Q _ => ∃ t b : Int, ds = [.int t, .int b] ∧ 0 < b ∧ b.natAbs < 2 ^ 8000 ∧ Q (fr ((t : Rat) / (b : Rat))) S
def sp_is_number_of : DSp := fun ds S Q _ => ∃ q, ds = [fr q] ∧ RB 4000 q ∧ Q (.bl true) S
def sp_sum_of_two : DSp := fun ds S Q _ => ∃ a b, ds = [fr a, fr b] ∧ RB 3000 a ∧ RB 3000 b ∧ Q (fr (a + b)) S
def sp_sum_of_all : DSp := fun ds S Q _ => ∃ d qs N, ds = [d] ∧ (d = shD qs ∨ RdL S d (qs.map fr)) ∧ 0 < N ∧ N.natAbs < 2 ^ 1000 ∧ (∀ q ∈ qs, 0 ≤ q ∧ Ov N q) ∧ qs.sum ≤ 1 ∧ Q (fr qs.sum) S
def sp_is_shares_of : DSp := fun ds S Q _ => ∃ qs N, ds = [shD qs] ∧ Sh N qs ∧ N.natAbs < 2 ^ 1000 ∧ qs.length < 100000 ∧ Q (.bl true) S
def sp_check_shares : DSp := fun ds S Q _ => ∃ qs N, ds = [shD qs] ∧ Sh N qs ∧ N.natAbs < 2 ^ 1000 ∧ qs.length < 100000 ∧ Q .non S
def sp_is_dice_told : DSp := fun ds S Q _ => ∃ d, ds = [d] ∧ OddD S d ∧ Q (.bl (isDice d)) S
def sp_is_dice : DSp := sp_is_dice_told
def nats (ss : List Nat) : D := .tup (ss.map fun (s : Nat) => D.int (s : Int))
structure DiceOk (ss : List Nat) : Prop where
  asc : ss.Pairwise (· < ·)
  two : ∀ s ∈ ss, 2 ≤ s
  len : ss.length ≤ 5
  top : ∀ s ∈ ss, s ≤ 20
def sp_check_dice : DSp := fun ds S Q _ => ∃ ss, ds = [nats ss] ∧ DiceOk ss ∧ Q .non S
def sp_common_part : DSp := fun ds S Q _ => ∃ u v : Nat, ds = [.int (u : Int), .int (v : Int)] ∧ Q (.int ((Nat.gcd u v : Nat) : Int)) S
theorem nats_int (ss : List Nat) : nats ss = .tup ((ss.map fun (s : Nat) => (s : Int)).map D.int) := by
  unfold nats
  rw [List.map_map]
  rfl
theorem DiceOk.isDice {ss : List Nat} (h : DiceOk ss) : isDice (nats ss) = true := by
  rw [nats_int]
  show ((((ss.map fun (s : Nat) => (s : Int)).map D.int).map dieB).all id && ascI (((ss.map fun (s : Nat) => (s : Int)).map D.int).map intOf)) = true
  rw [Bool.and_eq_true]
  constructor
  · rw [List.all_map, List.all_map, List.all_map, List.all_eq_true]
    intro s hs
    have := h.two s hs
    exact decide_eq_true (show (1 : Int) < (s : Int) by omega)
  · rw [List.map_map, show (intOf ∘ D.int) = id from rfl, List.map_id]
    refine ascI_iff.mpr fun j a b ha hb => ?_
    rw [List.getElem?_map] at ha hb
    cases ea : ss[j]? with
    | none => rw [ea] at ha; cases ha
    | some x =>
      cases eb : ss[j + 1]? with
      | none => rw [eb] at hb; cases hb
      | some y =>
        rw [ea] at ha; rw [eb] at hb
        cases (Option.some.inj ha); cases (Option.some.inj hb)
        obtain ⟨h1, rfl⟩ := List.getElem?_eq_some_iff.mp ea
        obtain ⟨h2, rfl⟩ := List.getElem?_eq_some_iff.mp eb
        have := List.pairwise_iff_getElem.mp h.asc j (j + 1) h1 h2 (by omega)
        show ((ss[j] : Nat) : Int) < ((ss[j + 1] : Nat) : Int)
        omega
theorem DiceOk.odd {S : Sto} {ss : List Nat} (h : DiceOk ss) : OddD S (nats ss) := ⟨trivial, fun xs e => by
  unfold nats at e
  cases e
  refine ⟨fun x hx => ?_, by rw [List.length_map]; have := h.len; omega⟩
  obtain ⟨s, _, rfl⟩ := List.mem_map.mp hx
  trivial⟩
theorem ok_is_integer {P : Program} {w : World} {K : PySem.W.Frag} {mg : Str → Option Value} {base : Heap} (T : Txt K mg) : FnOk P w K mg base (L2.CX P w) 1 T.a_is_integer T.fd_is_integer ["value"] (toSp K sp_is_integer) := by
  refine fnD T.F_is_integer sc_is_integer (fun ds S Q E h => ?_) (fun cdv A outer s H E RX hr => ⟨_, (pds_one (pd_ret (pd_and (pd_isi1 .int (pd_var 0) T.b_isinstance T.b_int) (pd_one (pd_not (pd_isi1 .bool (pd_var 0) T.b_isinstance T.b_bool)))))), fun ds S Q h => ?_⟩)
  · obtain ⟨_, rfl, _⟩ := h
    rfl
  · obtain ⟨d, rfl, hk, h⟩ := h
    cases d with
    | ref a =>
      rcases hk with ⟨xs, e⟩ | ⟨kvs, e⟩
      · walk_at "g"
        refine .inl ⟨xs, e, ?_⟩
        walk_at "g"
        exact h
      · walk_at "g"
        refine .inr ⟨kvs, e, ?_⟩
        walk_at "g"
        exact h
    | ty _ => exact hk.elim
    | exc _ _ => exact hk.elim
    | _ => walk_at "g"; exact h

theorem ok_is_pair {P : Program} {w : World} {K : PySem.W.Frag} {mg : Str → Option Value} {base : Heap} (T : Txt K mg) : FnOk P w K mg base (L2.CX P w) 1 T.a_is_pair T.fd_is_pair ["value"] (toSp K sp_is_pair) := by
  refine fnD T.F_is_pair sc_is_pair (fun ds S Q E h => ?_) (fun cdv A outer s H E RX hr => ⟨_, (pds_one (pd_ret (pd_and (pd_isi1 .tup (pd_var 0) T.b_isinstance T.b_tuple) (pd_one (pd_cmp (od_eq hr.units) (pd_blt cd_len T.b_len (by decide +kernel) (pda_cons (pd_var 0) pda_nil)) pd_int))))), fun ds S Q h => ?_⟩)
  · obtain ⟨_, rfl, _⟩ := h
    rfl
  · obtain ⟨q, rfl, h⟩ := h
    walk_at "g"
    exact h

theorem ok_lowest {P : Program} {w : World} {K : PySem.W.Frag} {mg : Str → Option Value} {base : Heap} (T : Txt K mg) : FnOk P w K mg base (L2.CX P w) 1 T.a_lowest T.fd_lowest ["top", "bottom"] (toSp K sp_lowest) := by
  refine fnD T.F_lowest sc_lowest (fun ds S Q E h => ?_) (fun cdv A outer s H E RX hr => ⟨_, (pds_cons (pd_set 2 sc_lowest.nd (pd_bltFun cd_gcd T.i_gcd (pda_cons (pd_var 0) (pda_cons (pd_var 1) pda_nil))))
    (pds_cons (pd_ifS (pdt_cmp od_lt (pd_var 1) pd_int) (pds_one (pd_set 2 sc_lowest.nd (pd_neg (pd_var 2)))) pds_nil)
    (pds_one (pd_ret (pd_tup (pda_cons (pd_bin od_fdiv (pd_var 0) (pd_var 2)) (pda_cons (pd_bin od_fdiv (pd_var 1) (pd_var 2)) pda_nil))))))), fun ds S Q h => ?_⟩)
  · obtain ⟨_, _, rfl, _⟩ := h
    rfl
  · obtain ⟨t, b, rfl, h0, hb, h⟩ := h
    walk_at "w"
    refine IFB.f (decide_eq_false (by omega)) ?_
    walk_at "w"
    refine ⟨gcd_w h0 hb (by decide) (by decide) _, ?_⟩
    walk_at "w"
    refine ⟨gcd_w h0 hb (by decide) (by decide) _, ?_⟩
    walk_at "w"
    rw [low_fr h0]
    exact h

theorem ok_is_number_of {P : Program} {w : World} {K : PySem.W.Frag} {mg : Str → Option Value} {base : Heap} (T : Txt K mg) : FnOk P w K mg base (L2.CX P w) 2 T.a_is_number_of T.fd_is_number_of ["told"] (toSp K sp_is_number_of) := by
  refine fnD T.F_is_number_of sc_is_number_of (fun ds S Q E h => ?_) (fun cdv A outer s H E RX hr => ⟨_, (pds_cons (pd_ifS (PDW.pt (pdw_or (pdt_not (pdt_tru (pd_call (takes_of rfl rfl rfl rfl) (ok_is_pair T) (hr.mono (by decide)) T.m_is_pair T.F_is_pair.kp T.d_is_pair (pda_cons (pd_var 0) pda_nil)))) (pdw_or (pdt_not (pdt_tru (pd_call (takes_of rfl rfl rfl rfl) (ok_is_integer T) (hr.mono (by decide)) T.m_is_integer T.F_is_integer.kp T.d_is_integer (pda_cons (pd_ix (pd_var 0) pd_int) pda_nil)))) (pdw_or1 (pdt_not (pdt_tru (pd_call (takes_of rfl rfl rfl rfl) (ok_is_integer T) (hr.mono (by decide)) T.m_is_integer T.F_is_integer.kp T.d_is_integer (pda_cons (pd_ix (pd_var 0) pd_int) pda_nil)))))))) (pds_one (pd_ret pd_bl)) pds_nil)
    (pds_one (pd_ret (pd_and (pd_cmp od_gt (pd_ix (pd_var 0) pd_int) pd_int) (pd_one (pd_cmp (od_eq hr.units) (pd_call (takes_of rfl rfl rfl rfl) (ok_lowest T) (hr.mono (by decide)) T.m_lowest T.F_lowest.kp T.d_lowest (pda_cons (pd_ix (pd_var 0) pd_int) (pda_cons (pd_ix (pd_var 0) pd_int) pda_nil))) (pd_var 0))))))), fun ds S Q h => ?_⟩)
  · obtain ⟨_, rfl, _⟩ := h
    rfl
  · obtain ⟨q, rfl, hb, h⟩ := h
    walk_at "g"
    refine ⟨q, rfl, ?_⟩
    walk_at "g"
    refine ⟨.int q.num, rfl, ?_⟩
    walk_at "g"
    refine ⟨.int q.num, rfl, trivial, ?_⟩
    walk_at "g"
    refine ⟨.int (q.den : Int), rfl, ?_⟩
    walk_at "g"
    refine ⟨.int (q.den : Int), rfl, trivial, ?_⟩
    walk_at "g"
    refine ⟨.int (q.den : Int), rfl, ?_⟩
    walk_at "g"
    refine IFB.t (decide_eq_true (den_pos' q)) ?_
    walk_at "g"
    refine ⟨.int q.num, rfl, ?_⟩
    walk_at "g"
    refine ⟨.int (q.den : Int), rfl, ?_⟩
    walk_at "g"
    refine ⟨q.num, (q.den : Int), rfl, den_pos' q, lt_up (b := 8000) (by rw [Int.natAbs_natCast]; exact hb.2) (by decide), ?_⟩
    rw [num_div_den']
    refine eq_fr q ?_
    exact h

theorem ok_sum_of_two {P : Program} {w : World} {K : PySem.W.Frag} {mg : Str → Option Value} {base : Heap} (T : Txt K mg) : FnOk P w K mg base (L2.CX P w) 2 T.a_sum_of_two T.fd_sum_of_two ["a", "b"] (toSp K sp_sum_of_two) := by
  refine fnD T.F_sum_of_two sc_sum_of_two (fun ds S Q E h => ?_) (fun cdv A outer s H E RX hr => ⟨_, (pds_one (pd_ret (pd_call (takes_of rfl rfl rfl rfl) (ok_lowest T) (hr.mono (by decide)) T.m_lowest T.F_lowest.kp T.d_lowest (pda_cons (pd_bin od_add (pd_bin od_mul (pd_ix (pd_var 0) pd_int) (pd_ix (pd_var 1) pd_int)) (pd_bin od_mul (pd_ix (pd_var 1) pd_int) (pd_ix (pd_var 0) pd_int))) (pda_cons (pd_bin od_mul (pd_ix (pd_var 0) pd_int) (pd_ix (pd_var 1) pd_int)) pda_nil))))), fun ds S Q h => ?_⟩)
  · obtain ⟨_, _, rfl, _⟩ := h
    rfl
  · obtain ⟨a, b, rfl, ha, hb, h⟩ := h
    have b1 : ((b.den : Int)).natAbs < 2 ^ 3000 := by rw [Int.natAbs_natCast]; exact hb.2
    have a1 : ((a.den : Int)).natAbs < 2 ^ 3000 := by rw [Int.natAbs_natCast]; exact ha.2
    walk_at "w"
    refine ⟨.int a.num, rfl, ?_⟩
    walk_at "w"
    refine ⟨.int (b.den : Int), rfl, ?_⟩
    walk_at "w"
    refine ⟨.inl (wide_mul ha.1 b1 (by decide) (by decide) (by decide)), ?_⟩
    walk_at "w"
    refine ⟨.int b.num, rfl, ?_⟩
    walk_at "w"
    refine ⟨.int (a.den : Int), rfl, ?_⟩
    walk_at "w"
    refine ⟨.inl (wide_mul hb.1 a1 (by decide) (by decide) (by decide)), ?_⟩
    walk_at "w"
    refine ⟨.int (a.den : Int), rfl, ?_⟩
    walk_at "w"
    refine ⟨.int (b.den : Int), rfl, ?_⟩
    walk_at "w"
    refine ⟨.inl (wide_mul a1 b1 (by decide) (by decide) (by decide)), ?_⟩
    walk_at "w"
    refine ⟨_, _, rfl, Int.mul_pos (den_pos' a) (den_pos' b), lt_up (wide_lt a1 b1) (by decide), ?_⟩
    rw [add_fr]
    exact h

theorem ok_sum_of_all {P : Program} {w : World} {K : PySem.W.Frag} {mg : Str → Option Value} {base : Heap} (T : Txt K mg) : FnOk P w K mg base (L2.CX P w) 3 T.a_sum_of_all T.fd_sum_of_all ["numbers"] (toSp K sp_sum_of_all) := by
  refine fnD T.F_sum_of_all sc_sum_of_all (fun ds S Q E h => ?_) (fun cdv A outer s H E RX hr => ⟨_, (pds_cons (pd_set 1 sc_sum_of_all.nd (pd_glob (v := .ref T.z_ZERO) (d := (.tup [.int 0, .int 1])) T.m_ZERO rfl T.v_ZERO))
    (pds_cons (pd_for (passes_of rfl) rfl (pdi_it (pd_var 0)) (pdg_name 2 sc_sum_of_all.nd) (pds_one (pd_set 1 sc_sum_of_all.nd (pd_call (takes_of rfl rfl rfl rfl) (ok_sum_of_two T) (hr.mono (by decide)) T.m_sum_of_two T.F_sum_of_two.kp T.d_sum_of_two (pda_cons (pd_var 1) (pda_cons (pd_var 2) pda_nil))))))
    (pds_one (pd_ret (pd_var 1))))), fun ds S Q h => ?_⟩)
  · obtain ⟨_, _, _, rfl, _⟩ := h
    rfl
  · obtain ⟨d, qs, N, rfl, hd, h0, hb, hs, h1, h⟩ := h
    rcases hd with rfl | hd
    · walk_at "w"
      refine for_xs (fun i ρ' S' => S' = S ∧ ∃ o, ρ' = [some (shD qs), some (fr (qs.take i).sum), o]) ⟨rfl, _, by rw [List.take_zero, List.sum_nil]; rfl⟩ (fun _ _ _ h => trivial) ?_ ?_
      · rintro i x _ _ hi ⟨rfl, o, rfl⟩
        obtain ⟨q, hq, rfl⟩ := fr_at hi
        have hp := Rat.le_trans (take_le_sum (fun q hq => (hs q hq).1) i) h1
        have hq' := hs q (List.mem_of_getElem? hq)
        walk_at "w"
        refine ⟨_, q, rfl, (ov_rb h0 hb (ov_sum h0 fun q hq => (hs q (List.mem_of_mem_take hq)).2) (sum_nonneg fun q hq => (hs q (List.mem_of_mem_take hq)).1) hp).mono (by decide), (ov_rb h0 hb hq'.2 hq'.1 (Rat.le_trans (mem_le_sum (fun q hq => (hs q hq).1) q (List.mem_of_getElem? hq)) h1)).mono (by decide), ?_⟩
        walk_at "w"
        exact ⟨rfl, _, by rw [take_succ_sum hq]; rfl⟩
      · rintro _ _ ⟨rfl, o, rfl⟩
        rw [List.length_map, List.take_length]
        walk_at "w"
        exact h
    · rcases hd with ⟨a, rfl, ea⟩ | rfl
      · walk_at "w"
        refine ⟨_, .inl ⟨a, rfl, ea⟩, ?_⟩
        refine for_xs (fun i ρ' S' => S' = S ∧ ∃ o, ρ' = [some (.ref a), some (fr (qs.take i).sum), o]) ⟨rfl, _, by rw [List.take_zero, List.sum_nil]; rfl⟩ (fun _ _ _ h => by rw [h.1]; exact .inl ⟨a, rfl, ea⟩) ?_ ?_
        · rintro i x _ _ hi ⟨rfl, o, rfl⟩
          obtain ⟨q, hq, rfl⟩ := fr_at hi
          have hp := Rat.le_trans (take_le_sum (fun q hq => (hs q hq).1) i) h1
          have hq' := hs q (List.mem_of_getElem? hq)
          walk_at "w"
          refine ⟨_, q, rfl, (ov_rb h0 hb (ov_sum h0 fun q hq => (hs q (List.mem_of_mem_take hq)).2) (sum_nonneg fun q hq => (hs q (List.mem_of_mem_take hq)).1) hp).mono (by decide), (ov_rb h0 hb hq'.2 hq'.1 (Rat.le_trans (mem_le_sum (fun q hq => (hs q hq).1) q (List.mem_of_getElem? hq)) h1)).mono (by decide), ?_⟩
          walk_at "w"
          exact ⟨rfl, _, by rw [take_succ_sum hq]; rfl⟩
        · rintro _ _ ⟨rfl, o, rfl⟩
          rw [List.length_map, List.take_length]
          walk_at "w"
          exact h
      · walk_at "w"
        refine ⟨_, .inr rfl, ?_⟩
        refine for_xs (fun i ρ' S' => S' = S ∧ ∃ o, ρ' = [some (.fro (qs.map fr)), some (fr (qs.take i).sum), o]) ⟨rfl, _, by rw [List.take_zero, List.sum_nil]; rfl⟩ (fun _ _ _ h => .inr rfl) ?_ ?_
        · rintro i x _ _ hi ⟨rfl, o, rfl⟩
          obtain ⟨q, hq, rfl⟩ := fr_at hi
          have hp := Rat.le_trans (take_le_sum (fun q hq => (hs q hq).1) i) h1
          have hq' := hs q (List.mem_of_getElem? hq)
          walk_at "w"
          refine ⟨_, q, rfl, (ov_rb h0 hb (ov_sum h0 fun q hq => (hs q (List.mem_of_mem_take hq)).2) (sum_nonneg fun q hq => (hs q (List.mem_of_mem_take hq)).1) hp).mono (by decide), (ov_rb h0 hb hq'.2 hq'.1 (Rat.le_trans (mem_le_sum (fun q hq => (hs q hq).1) q (List.mem_of_getElem? hq)) h1)).mono (by decide), ?_⟩
          walk_at "w"
          exact ⟨rfl, _, by rw [take_succ_sum hq]; rfl⟩
        · rintro _ _ ⟨rfl, o, rfl⟩
          rw [List.length_map, List.take_length]
          walk_at "w"
          exact h

theorem ok_is_shares_of {P : Program} {w : World} {K : PySem.W.Frag} {mg : Str → Option Value} {base : Heap} (T : Txt K mg) : FnOk P w K mg base (L2.CX P w) 4 T.a_is_shares_of T.fd_is_shares_of ["told"] (toSp K sp_is_shares_of) := by
  refine fnE T.F_is_shares_of sc_is_shares_of (fun ds S Q E h => ?_) (fun cdv A outer s H E RX hr => ⟨_, (pds_cons (pd_ifS (PDW.pt (pdw_or (pdt_not (pdt_tru (pd_isi1 .tup (pd_var 0) T.b_isinstance T.b_tuple))) (pdw_or (pdt_cmp (od_eq hr.units) (pd_blt cd_len T.b_len (by decide +kernel) (pda_cons (pd_var 0) pda_nil)) pd_int) (pdw_or1 (pdt_not (pdt_tru (pd_blt (cd_all rfl) T.b_all (by decide +kernel) (pda_cons (pd_lc (own := [("share", 1)]) (p := .n 1) rfl sc_is_shares_of.nd (pdi_it (pd_var 0)) (blkOk_by (N := ["told", "share"]) (sc := defScope s_is_shares_of) (own := [("share", 1)]) (by decide +kernel)) (fun _ _ _ _ _ => (pg_name (i := 1) sc_is_shares_of.nd rfl (by first | exact Or.inl rfl | exact Or.inr rfl))) (fun _ _ _ _ _ => pdts_nil) (fun _ _ _ _ _ => (pd_call takes0 (ok_is_number_of T) (hr.mono (by decide)) T.m_is_number_of T.F_is_number_of.kp T.d_is_number_of (pda_cons (pd_var 1) pda_nil)))) pda_nil)))))))) (pds_one (pd_ret pd_bl)) pds_nil)
    (pds_one (pd_ret (pd_and (pd_blt (cd_all rfl) T.b_all (by decide +kernel) (pda_cons (pd_lc (own := [("share", 1)]) (p := .n 1) rfl sc_is_shares_of.nd (pdi_it (pd_var 0)) (blkOk_by (N := ["told", "share"]) (sc := defScope s_is_shares_of) (own := [("share", 1)]) (by decide +kernel)) (fun _ _ _ _ _ => (pg_name (i := 1) sc_is_shares_of.nd rfl (by first | exact Or.inl rfl | exact Or.inr rfl))) (fun _ _ _ _ _ => pdts_nil) (fun _ _ _ _ _ => (pd_cmp od_gt (pd_ix (pd_var 1) pd_int) pd_int))) pda_nil)) (pd_one (pd_cmp (od_eq hr.units) (pd_call (takes_of rfl rfl rfl rfl) (ok_sum_of_all T) (hr.mono (by decide)) T.m_sum_of_all T.F_sum_of_all.kp T.d_sum_of_all (pda_cons (pd_var 0) pda_nil)) (pd_glob (v := .ref T.z_ONE) (d := (.tup [.int 1, .int 1])) T.m_ONE rfl T.v_ONE))))))), fun ds S Q h => ?_⟩)
  · obtain ⟨_, _, rfl, _⟩ := h
    rfl
  · obtain ⟨qs, N, rfl, hs, hN, hl, h⟩ := h
    have hl2 : (qs.map fr).length = qs.length := List.length_map _
    have h0 : 0 < qs.length := List.length_pos_iff.mpr hs.ne
    walk_at "g"
    refine IFB.f (decide_eq_false (by rw [hl2]; omega)) ?_
    walk_at "w"
    refine lc_xsm (fun _ => D.bl true) (fun _ _ => trivial) ?_ ?_
    · rintro i x acc S2 hi w2
      obtain ⟨q, hq, rfl⟩ := fr_at hi
      walk_at "w"
      refine IFB.t rfl ?_
      walk_at "w"
      refine ⟨q, rfl, (hs.rb hN (List.mem_of_getElem? hq)).mono (by decide), ?_⟩
      exact lc_leafL hi w2 (by rw [hl2]; show _ ≤ 16777216; omega) rfl (Ext.refl _)
    · rintro S2 v ex hv
      walk_at "w"
      refine ⟨(qs.map fr).map fun _ => true, .inl ⟨_, rfl, by rw [sup_same, trues]⟩, ?_⟩
      rw [show ((qs.map fr).map fun _ => true).all id = true by simp]
      walk_at "g"
      refine lc_xsm (fun _ => D.bl true) (fun _ _ => trivial) ?_ ?_
      · rintro i x acc S3 hi w2
        obtain ⟨q, hq, rfl⟩ := fr_at hi
        walk_at "w"
        refine IFB.t rfl ?_
        walk_at "w"
        refine ⟨.int q.num, rfl, ?_⟩
        walk_at "w"
        exact lc_leafL hi w2 (by rw [hl2]; show _ ≤ 16777216; omega) (by rw [decide_eq_true (show 0 < q.num from num_pos' (hs.all q (List.mem_of_getElem? hq)).1)]) (Ext.refl _)
      · rintro S4 u ex4 hu
        walk_at "w"
        refine ⟨(qs.map fr).map fun _ => true, .inl ⟨_, rfl, by rw [sup_same, trues]⟩, ?_⟩
        rw [show ((qs.map fr).map fun _ => true).all id = true by simp]
        walk_at "g"
        refine ⟨_, qs, N, rfl, .inl rfl, hs.pos, hN, fun q hq => ⟨Rat.le_of_lt (hs.all q hq).1, (hs.all q hq).2⟩, by rw [hs.sum]; exact Rat.le_refl, ?_⟩
        rw [hs.sum]
        refine eq_fr 1 ?_
        exact ⟨S, ((ex.trans (Ext.new hv _)).trans ex4).trans (Ext.new hu _), h⟩

theorem ok_check_shares {P : Program} {w : World} {K : PySem.W.Frag} {mg : Str → Option Value} {base : Heap} (T : Txt K mg) : FnOk P w K mg base (L2.CX P w) 5 T.a_check_shares T.fd_check_shares ["shares"] (toSp K sp_check_shares) := by
  refine fnD T.F_check_shares sc_check_shares (fun ds S Q E h => ?_) (fun cdv A outer s H E RX hr => ⟨_, (pds_one (pd_ifS (pdt_not (pdt_tru (pd_call (takes_of rfl rfl rfl rfl) (ok_is_shares_of T) (hr.mono (by decide)) T.m_is_shares_of T.F_is_shares_of.kp T.d_is_shares_of (pda_cons (pd_var 0) pda_nil)))) (pds_one pd_never) pds_nil)), fun ds S Q h => ?_⟩)
  · obtain ⟨_, _, rfl, _⟩ := h
    rfl
  · obtain ⟨qs, N, rfl, hs, hN, hl, h⟩ := h
    walk_at "w"
    refine ⟨qs, N, rfl, hs, hN, hl, ?_⟩
    walk_at "g"
    exact h

theorem ok_is_dice_told {P : Program} {w : World} {K : PySem.W.Frag} {mg : Str → Option Value} {base : Heap} (T : Txt K mg) : FnOk P w K mg base (L2.CX P w) 2 T.a_is_dice_told T.fd_is_dice_told ["told"] (toSp K sp_is_dice_told) := by
  refine fnE T.F_is_dice_told sc_is_dice_told (fun ds S Q E h => ?_) (fun cdv A outer s H E RX hr => ⟨_, (pds_cons (pd_ifS (PDW.pt (pdw_or (pdt_not (pdt_tru (pd_isi1 .tup (pd_var 0) T.b_isinstance T.b_tuple))) (pdw_or1 (pdt_not (pdt_tru (pd_blt (cd_all rfl) T.b_all (by decide +kernel) (pda_cons (pd_lc (own := [("sides", 3)]) (p := .n 3) rfl sc_is_dice_told.nd (pdi_it (pd_var 0)) (blkOk_by (N := ["told", "one", "other", "sides"]) (sc := defScope s_is_dice_told) (own := [("sides", 3)]) (by decide +kernel)) (fun _ _ _ _ _ => (pg_name (i := 3) sc_is_dice_told.nd rfl (by first | exact Or.inl rfl | exact Or.inr rfl))) (fun _ _ _ _ _ => pdts_nil) (fun _ _ _ _ _ => (pd_and (pd_call takes0 (ok_is_integer T) (hr.mono (by decide)) T.m_is_integer T.F_is_integer.kp T.d_is_integer (pda_cons (pd_var 3) pda_nil)) (pd_one (pd_cmp od_gt (pd_var 3) pd_int))))) pda_nil))))))) (pds_one (pd_ret pd_bl)) pds_nil)
    (pds_one (pd_ret (pd_blt (cd_all rfl) T.b_all (by decide +kernel) (pda_cons (pd_lc (own := [("one", 1), ("other", 2)]) (p := .t [.n 1, .n 2]) rfl sc_is_dice_told.nd (pdi_zipA T.b_zip (pda_cons (pd_var 0) (pda_cons (pd_slice (pd_var 0) (pdo_some pd_int) pdo_none) pda_nil))) (blkOk_by (N := ["told", "one", "other", "sides"]) (sc := defScope s_is_dice_told) (own := [("one", 1), ("other", 2)]) (by decide +kernel)) (fun _ _ _ _ _ => (pg_tup rfl (pgs_cons (pg_name (i := 1) sc_is_dice_told.nd rfl (by first | exact Or.inl rfl | exact Or.inr rfl)) (pgs_cons (pg_name (i := 2) sc_is_dice_told.nd rfl (by first | exact Or.inl rfl | exact Or.inr rfl)) pgs_nil)))) (fun _ _ _ _ _ => pdts_nil) (fun _ _ _ _ _ => (pd_cmp od_lt (pd_var 1) (pd_var 2)))) pda_nil))))), fun ds S Q h => ?_⟩)
  · obtain ⟨_, rfl, _⟩ := h
    rfl
  · obtain ⟨d, rfl, hk, h⟩ := h
    cases d with
    | tup xs =>
      obtain ⟨hx, hl⟩ := hk.2 xs rfl
      have eD : isDice (.tup xs) = ((xs.map dieB).all id && ascI (xs.map intOf)) := rfl
      rw [eD] at h
      walk_at "g"
      refine lc_xsm (fun x => .bl (dieB x)) (fun _ _ => trivial) ?_ ?_
      · rintro i x acc S2 hi w2
        have hz := (hx x (List.mem_of_getElem? hi)).ext w2.2.2
        walk_at "w"
        refine IFB.t rfl ?_
        walk_at "w"
        refine ⟨x, rfl, hz, ?_⟩
        cases hi2 : isInt x with
        | false =>
          walk_at "g"
          exact lc_leafL hi w2 (by show _ ≤ 16777216; omega) (by cases x <;> first | rfl | (cases hi2)) (Ext.refl _)
        | true =>
          obtain ⟨n, rfl⟩ : ∃ n, x = .int n := by cases x <;> first | exact ⟨_, rfl⟩ | (cases hi2)
          walk_at "g"
          exact lc_leafL hi w2 (by show _ ≤ 16777216; omega) rfl (Ext.refl _)
      · rintro S2 v ex hv
        have x2 := ex.trans (Ext.new hv (.lst (xs.map fun x => .bl (dieB x))))
        walk_at "w"
        refine ⟨xs.map dieB, .inl ⟨v, rfl, by rw [sup_same, List.map_map]; rfl⟩, ?_⟩
        cases ha : (xs.map dieB).all id with
        | false =>
          rw [ha] at h
          walk_at "g"
          exact ⟨S, x2, h⟩
        | true =>
          rw [ha] at h
          obtain ⟨e1, -⟩ := dies_int ha
          have hl2 : (xs.map intOf).length ≤ 100000 := by rw [List.length_map]; exact hl
          generalize xs.map intOf = is at *
          subst e1
          generalize DL.sup S2 v _ = S3 at *
          walk_at "g"
          rw [cut1, ← List.map_drop]
          refine lc_xsm ltD (fun _ _ => trivial) ?_ ?_
          · rintro i x acc S4 hi w4
            have hlz : (zpD (is.map D.int) ((is.drop 1).map D.int)).length ≤ 16777216 := by
              rw [zp_ints, List.length_map, List.length_zip]
              omega
            have hi' := hi
            rw [zp_ints, List.getElem?_map] at hi'
            cases e : (is.zip (is.drop 1))[i]? with
            | none => rw [e] at hi'; cases hi'
            | some p =>
              obtain ⟨a, b⟩ := p
              rw [e] at hi'
              cases (Option.some.inj hi')
              walk_at "w"
              refine IFB.t rfl ?_
              walk_at "w"
              exact lc_leafL hi w4 hlz rfl (Ext.refl _)
          · rintro S4 v4 ex4 hv4
            have x4 := (x2.trans ex4).trans (Ext.new hv4 (.lst ((zpD (is.map D.int) ((is.drop 1).map D.int)).map ltD)))
            walk_at "w"
            refine ⟨(is.zip (is.drop 1)).map fun p => decide (p.1 < p.2), .inl ⟨v4, rfl, by rw [sup_same, lt_zp]⟩, ?_⟩
            exact ⟨S, x4, h⟩
    | ref a =>
      rcases hk.1 with ⟨xs, e⟩ | ⟨kvs, e⟩
      · walk_at "g"
        refine .inl ⟨xs, e, ?_⟩
        walk_at "g"
        exact ⟨S, Ext.refl _, h⟩
      · walk_at "g"
        refine .inr ⟨kvs, e, ?_⟩
        walk_at "g"
        exact ⟨S, Ext.refl _, h⟩
    | ty _ => exact hk.1.elim
    | exc _ _ => exact hk.1.elim
    | _ => walk_at "g"; exact ⟨S, Ext.refl _, h⟩

theorem ok_is_dice {P : Program} {w : World} {K : PySem.W.Frag} {mg : Str → Option Value} {base : Heap} (T : Txt K mg) : FnOk P w K mg base (L2.CX P w) 3 T.a_is_dice T.fd_is_dice ["told"] (toSp K sp_is_dice) := by
  refine fnD T.F_is_dice sc_is_dice (fun ds S Q E h => ?_) (fun cdv A outer s H E RX hr => ⟨_, (pds_one (pd_ret (pd_call (takes_of rfl rfl rfl rfl) (ok_is_dice_told T) (hr.mono (by decide)) T.m_is_dice_told T.F_is_dice_told.kp T.d_is_dice_told (pda_cons (pd_var 0) pda_nil)))), fun ds S Q h => ?_⟩)
  · obtain ⟨_, rfl, _⟩ := h
    rfl
  · obtain ⟨d, rfl, hk, h⟩ := h
    walk_at "w"
    exact ⟨d, rfl, hk, h⟩

theorem ok_check_dice {P : Program} {w : World} {K : PySem.W.Frag} {mg : Str → Option Value} {base : Heap} (T : Txt K mg) : FnOk P w K mg base (L2.CX P w) 3 T.a_check_dice T.fd_check_dice ["dice"] (toSp K sp_check_dice) := by
  refine fnD T.F_check_dice sc_check_dice (fun ds S Q E h => ?_) (fun cdv A outer s H E RX hr => ⟨_, (pds_one (pd_ifS (pdt_not (pdt_tru (pd_call (takes_of rfl rfl rfl rfl) (ok_is_dice_told T) (hr.mono (by decide)) T.m_is_dice_told T.F_is_dice_told.kp T.d_is_dice_told (pda_cons (pd_var 0) pda_nil)))) (pds_one pd_never) pds_nil)), fun ds S Q h => ?_⟩)
  · obtain ⟨_, rfl, _⟩ := h
    rfl
  · obtain ⟨ss, rfl, hd, h⟩ := h
    walk_at "w"
    refine ⟨_, rfl, hd.odd, ?_⟩
    rw [hd.isDice]
    walk_at "g"
    exact h

theorem ok_common_part {P : Program} {w : World} {K : PySem.W.Frag} {mg : Str → Option Value} {base : Heap} (T : Txt K mg) : FnOk P w K mg base (L2.CX P w) 1 T.a_common_part T.fd_common_part ["a", "b"] (toSp K sp_common_part) := by
  refine fnD T.F_common_part sc_common_part (fun ds S Q E h => ?_) (fun cdv A outer s H E RX hr => ⟨_, (pds_cons (pd_while (passes_of rfl) (pdt_cmp (od_ne hr.units) (pd_var 1) pd_int) (pds_one (pd_par 0 1 rfl sc_common_part.nd (pda_cons (pd_var 1) (pda_cons (pd_bin od_mod (pd_var 0) (pd_var 1)) pda_nil)) rfl)))
    (pds_one (pd_ret (pd_var 0)))), fun ds S Q h => ?_⟩)
  · obtain ⟨_, _, rfl, _⟩ := h
    rfl
  · obtain ⟨u, v, rfl, h⟩ := h
    walk_at "w"
    refine ⟨fun m ρ' S' => S' = S ∧ ∃ x : Nat, ρ' = [some (.int (x : Int)), some (.int (m : Int))] ∧ Nat.gcd x m = Nat.gcd u v, ⟨v, rfl, u, rfl, rfl⟩, ?_⟩
    rintro m _ _ ⟨rfl, x, rfl, hg⟩
    walk_at "w"
    refine IFB.np (fun c1 => ?_) (fun c1 => ?_)
    · walk_at "w"
      refine ⟨by omega, ?_⟩
      walk_at "w"
      exact ⟨x % m, Nat.mod_lt _ (by omega), rfl, m, rfl, by rw [Nat.gcd_comm, ← Nat.gcd_rec, Nat.gcd_comm]; exact hg⟩
    · have e : m = 0 := by omega
      subst e
      rw [Nat.gcd_zero_right] at hg
      subst hg
      walk_at "w"
      exact h
end K25
set_option Elab.async false
set_option linter.all false
set_option maxRecDepth 100000
set_option maxHeartbeats 4000000
namespace K25
open PySem PySem.Spec PyProof.Rows L2 DL
local macro_rules | `(tactic| walk_at "w") => `(tactic| conv => whnf)
local macro_rules | `(tactic| walk_at "g") => `(tactic| ((conv => whnf); repeat' (first | (refine IFB.t ?_ ?_; rfl; conv => whnf) | (refine IFB.f ?_ ?_; rfl; conv => whnf))))
/-- beside a, what was there stays -/
def ExtB (a : Addr) (S S' : Sto) : Prop := ∀ b c, b ≠ a → S b = some c → S' b = some c
theorem ExtB.refl (a : Addr) (S : Sto) : ExtB a S S := fun _ _ _ h => h
theorem ExtB.trans {a : Addr} {S S1 S2 : Sto} (x : ExtB a S S1) (y : ExtB a S1 S2) : ExtB a S S2 := fun b c n h => y b c n (x b c n h)
theorem ExtB.of {a : Addr} {S S' : Sto} (h : ∀ b, b ≠ a → S' b = S b) : ExtB a S S' := fun b c n e => by rw [h b n]; exact e
theorem ExtB.ext {a : Addr} {S S' : Sto} (h : Ext S S') : ExtB a S S' := fun b c _ e => h b c e
theorem ExtB.free {a : Addr} {S S' : Sto} (x : ExtB a S S') {p : Addr} (hn : p ≠ a) (h : S' p = none) : S p = none := by
  cases q : S p with
  | none => rfl
  | some o => rw [x p o hn q] at h; cases h
theorem ExtB.wr {a : Addr} {S S' : Sto} {p : Addr} {c : Cell} (e : ExtB a S S') (h : S p = none) : ExtB a S (sup S' p c) := fun b o n q => by
  rw [sup_ne (fun z => ?_)]
  · exact e b o n q
  · subst z; rw [h] at q; cases q

theorem sup_of {S S' : Sto} {p : Addr} {c : Cell} (h : DL.sup S p c = S') : S' p = some c ∧ (S p = none → Ext S S') ∧ ∀ b, b ≠ p → S' b = S b := by
  subst h
  exact ⟨sup_same, fun e => Ext.new e c, fun b hb => sup_ne hb⟩
def keepA (a : Addr) (S S' : Sto) : Sto := fun b => if b = a then S' a else S b
theorem keepA_ext {a : Addr} {S S' : Sto} (h : ExtB a S S') : Ext (keepA a S S') S' := fun b c e => by
  unfold keepA at e
  by_cases hb : b = a
  · subst hb; rw [if_pos rfl] at e; exact e
  · rw [if_neg hb] at e; exact h b c hb e
theorem keepA_a {a : Addr} {S S' : Sto} : keepA a S S' a = S' a := by unfold keepA; rw [if_pos rfl]
theorem keepA_ne {a : Addr} {S S' : Sto} : ∀ b, b ≠ a → keepA a S S' b = S b := fun b hb => by unfold keepA; rw [if_neg hb]
def StockD (S : Sto) (a : Addr) (c : Int) : Prop := ∃ w0 w1 w2 : Int, S a = some (.lst [.int w0, .int w1, .int w2]) ∧ 0 ≤ w1 ∧ w1 < 10 ^ 30 ∧ 0 ≤ w2 ∧ w2 ≤ c
theorem StockD.ne {S : Sto} {a p : Addr} {c : Int} (h : StockD S a c) (hp : S p = none) : p ≠ a := fun z => by
  obtain ⟨_, _, _, e, _⟩ := h
  rw [← z, hp] at e
  cases e
theorem StockD.sup {S : Sto} {a p : Addr} {c : Int} {x : Cell} (h : StockD S a c) (hp : S p = none) : StockD (sup S p x) a c := by
  have q := (h.ne hp).symm
  obtain ⟨w0, w1, w2, e, r⟩ := h
  exact ⟨w0, w1, w2, by rw [sup_ne q]; exact e, r⟩
theorem StockD.ext {S S' : Sto} {a : Addr} {c : Int} (h : StockD S a c) (x : Ext S S') : StockD S' a c := by
  obtain ⟨w0, w1, w2, e, r⟩ := h
  exact ⟨w0, w1, w2, x _ _ e, r⟩
theorem StockD.mono {S : Sto} {a : Addr} {c c' : Int} (h : StockD S a c) (x : c ≤ c') : StockD S a c' := by
  obtain ⟨w0, w1, w2, e, r1, r2, r3, r4⟩ := h
  exact ⟨w0, w1, w2, e, r1, r2, r3, by omega⟩
theorem StockD.keep {S S' : Sto} {a : Addr} {c : Int} (h : StockD S' a c) : StockD (keepA a S S') a c := by
  obtain ⟨w0, w1, w2, e, r⟩ := h
  exact ⟨w0, w1, w2, by rw [keepA_a]; exact e, r⟩
theorem atI_map {xs : List Int} {p : Int} (h : 0 ≤ p) (h1 : p < xs.length) : ∃ c, atI (xs.map D.int) p = some (.int c) := by
  obtain ⟨n, rfl⟩ := Int.eq_ofNat_of_zero_le h
  have : n < xs.length := by omega
  exact ⟨xs[n], atI_nat (by simp [this])⟩
theorem bits_le {k : Int} {n : Nat} (h : k.natAbs < 2 ^ n) : Builtin.Int.intBits k ≤ n := by
  unfold Builtin.Int.intBits
  split
  · exact Nat.zero_le _
  · have : k.natAbs.log2 < n := (Nat.log2_lt (by simp_all)).mpr h
    omega
theorem bits_mul {k j : Int} (h : k.natAbs < 2 ^ 200) (h0 : 0 ≤ j) (hj : j ≤ 100000) : 0 ≤ j ∧ (Builtin.Int.intBits k : Int) * j ≤ 2 ^ 27 := by
  have h1 := bits_le h
  have h2 : (Builtin.Int.intBits k : Int) * j ≤ 200 * 100000 := Int.mul_le_mul (by omega) hj h0 (by decide)
  omega
theorem abs_nat (i : Int) : (if i < 0 then -i else i) = (i.natAbs : Int) := by split <;> omega
def sp_law_stock : DSp := fun ds S Q _ => ∃ (xs : List Int) (p : Int), ds = [.fro (xs.map D.int), .int p] ∧ 0 ≤ p ∧ p < 2 ^ 40 ∧ ∀ a S', S a = none → StockD S' a 0 → (∀ b, b ≠ a → S' b = S b) → Q (.ref a) S'
def sp_law_pick : DSp := fun ds S Q _ => ∃ (a : Addr) (u c : Int), ds = [.ref a, .int u] ∧ StockD S a c ∧ c < 1000000 ∧ 0 < u ∧ u < 2 ^ 64 ∧ ∀ (f : Int) S', 0 ≤ f → f < u → StockD S' a (c + 1) → (∀ b, b ≠ a → S' b = S b) → Q (.int f) S'
def sp_law_low : DSp := fun ds S Q _ => ∃ t b : Int, ds = [.int t, .int b] ∧ 0 < b ∧ b.natAbs < 2 ^ 8000 ∧ Q (fr ((t : Rat) / (b : Rat))) S
def sp_law_plus : DSp := fun ds S Q _ => ∃ a b c d : Int, ds = [.tup [.int a, .int b], .tup [.int c, .int d]] ∧ 0 < b ∧ 0 < d ∧ a.natAbs < 2 ^ 3000 ∧ b.natAbs < 2 ^ 3000 ∧ c.natAbs < 2 ^ 3000 ∧ d.natAbs < 2 ^ 3000 ∧ Q (fr (((a * d + c * b : Int) : Rat) / ((b * d : Int) : Rat))) S
def sp_law_times : DSp := fun ds S Q _ => ∃ a b c d : Int, ds = [.tup [.int a, .int b], .tup [.int c, .int d]] ∧ 0 < b ∧ 0 < d ∧ a.natAbs < 2 ^ 3000 ∧ b.natAbs < 2 ^ 3000 ∧ c.natAbs < 2 ^ 3000 ∧ d.natAbs < 2 ^ 3000 ∧ Q (fr (((a * c : Int) : Rat) / ((b * d : Int) : Rat))) S
theorem zp_at {xs zs : List D} {i : Nat} {z : D} (h : (zpD xs zs)[i]? = some z) : ∃ x y, xs[i]? = some x ∧ zs[i]? = some y ∧ z = .tup [x, y] := by
  unfold zpD at h
  rw [List.getElem?_map] at h
  cases e : (xs.zip zs)[i]? with
  | none => rw [e] at h; cases h
  | some p =>
    rw [e] at h
    obtain ⟨x, y⟩ := p
    obtain ⟨h1, h2⟩ := List.getElem?_zip_eq_some.mp e
    exact ⟨x, y, h1, h2, (Option.some.inj h).symm⟩
theorem zp_len {xs zs : List D} : (zpD xs zs).length ≤ zs.length := by
  unfold zpD
  rw [List.length_map, List.length_zip]
  exact Nat.min_le_right _ _

structure PSh (m : Nat) (qs : List Rat) : Prop where
  ne : qs ≠ []
  len : qs.length ≤ m
  all : ∀ q ∈ qs, 0 < q ∧ q.den ≤ 60
  sum : qs.sum = 1
theorem num_le_den {q : Rat} (h0 : 0 < q) (h1 : q ≤ 1) : 0 < q.num ∧ q.num ≤ (q.den : Int) := by
  refine ⟨num_pos' h0, ?_⟩
  have := (Rat.le_iff q 1).mp h1
  simpa using this
theorem frac_mul (q : Rat) {x y : Int} (hy : 0 < y) : (((q.num * x : Int) : Rat) / (((q.den : Int) * y : Int) : Rat)) = q * ((x : Rat) / (y : Rat)) := by
  have e := num_div_den' q
  have hd := ratNe (den_pos' q)
  have hy := ratNe hy
  rw [Rat.intCast_mul, Rat.intCast_mul]
  generalize ((q.num : Int) : Rat) = n at *
  generalize ((q.den : Int) : Rat) = d at *
  subst e
  grind
theorem frac_sub (q p : Rat) : (((q.num * (p.den : Int) + (0 - p.num) * (q.den : Int) : Int) : Rat) / (((q.den : Int) * (p.den : Int) : Int) : Rat)) = q - p := by
  have e := num_div_den' q
  have hd := ratNe (den_pos' q)
  have e2 := num_div_den' p
  have hd2 := ratNe (den_pos' p)
  rw [Rat.intCast_add, Rat.intCast_mul, Rat.intCast_mul, Rat.intCast_mul, Int.zero_sub, Rat.intCast_neg]
  generalize ((q.num : Int) : Rat) = n at *
  generalize ((q.den : Int) : Rat) = d at *
  generalize ((p.num : Int) : Rat) = n2 at *
  generalize ((p.den : Int) : Rat) = d2 at *
  subst e e2
  grind
theorem pos_of_num {q : Rat} (h : 0 < q.num) : 0 < q := by
  have := (Rat.lt_iff 0 q)
  rw [show (0 : Rat).num = 0 from rfl, show (0 : Rat).den = 1 from rfl, Int.zero_mul] at this
  exact this.mpr (by omega)
theorem PSh.le1 {m : Nat} {qs : List Rat} (h : PSh m qs) {q : Rat} (hq : q ∈ qs) : q ≤ 1 := h.sum ▸ mem_le_sum (fun x hx => Rat.le_of_lt (h.all x hx).1) q hq
theorem PSh.rb {m : Nat} {qs : List Rat} (h : PSh m qs) {q : Rat} (hq : q ∈ qs) : 0 < q.num ∧ q.num ≤ 60 ∧ (q.den : Int) ≤ 60 := by
  obtain ⟨h1, h2⟩ := num_le_den (h.all q hq).1 (h.le1 hq)
  have := (h.all q hq).2
  exact ⟨h1, by omega, by omega⟩
/-- a share parted -/
theorem psh_part {m : Nat} {qs : List Rat} (h : PSh m qs) {i : Nat} {q p r : Rat} (hi : qs[i]? = some q) (hp : 0 < p) (hr : 0 < r) (hs : p + r = q) (hpd : p.den ≤ 60) (hrd : r.den ≤ 60) (hl : qs.length < m) :
    PSh m (qs.take i ++ [p, r] ++ qs.drop (i + 1)) := by
  have hil := (List.getElem?_eq_some_iff.mp hi).1
  have e : qs = qs.take i ++ [q] ++ qs.drop (i + 1) := by
    conv => lhs; rw [← List.take_append_drop (i + 1) qs, List.take_succ, hi]
    rfl
  refine ⟨by simp, ?_, fun x hx => ?_, ?_⟩
  · simp only [List.length_append, List.length_take, List.length_drop, List.length_cons, List.length_nil]
    omega
  · rcases List.mem_append.mp hx with hx | hx
    · rcases List.mem_append.mp hx with hx | hx
      · exact h.all x (List.mem_of_mem_take hx)
      · rcases List.mem_cons.mp hx with rfl | hx
        · exact ⟨hp, hpd⟩
        · cases List.mem_singleton.mp hx; exact ⟨hr, hrd⟩
    · exact h.all x (List.mem_of_mem_drop hx)
  · have h1 := h.sum
    rw [e] at h1
    simp only [List.sum_append, List.sum_cons, List.sum_nil] at h1 ⊢
    grind
theorem psh_rot {m : Nat} {qs : List Rat} (h : PSh m qs) (i : Nat) : PSh m (qs.drop i ++ qs.take i) := by
  refine ⟨fun z => h.ne ?_, ?_, fun x hx => ?_, ?_⟩
  · have := congrArg List.length z
    simp only [List.length_append, List.length_take, List.length_drop, List.length_nil] at this
    exact List.eq_nil_of_length_eq_zero (by omega)
  · have := h.len
    simp only [List.length_append, List.length_take, List.length_drop]
    omega
  · rcases List.mem_append.mp hx with hx | hx
    · exact h.all x (List.mem_of_mem_drop hx)
    · exact h.all x (List.mem_of_mem_take hx)
  · have h1 := h.sum
    rw [← List.take_append_drop i qs, List.sum_append] at h1
    rw [List.sum_append]
    grind
def sp_law_shares : DSp := fun ds S Q _ => ∃ (a : Addr) (m : Nat) (c : Int), ds = [.ref a, .int (m : Int)] ∧ StockD S a c ∧ 0 ≤ c ∧ c < 900000 ∧ 1 ≤ m ∧ m ≤ 20 ∧ ∀ qs S', PSh m qs → StockD S' a (c + 200) → (∀ b, b ≠ a → S' b = S b) → Q (shD qs) S'
theorem atI_frs {qs : List Rat} {i : Nat} {q : Rat} (h : qs[i]? = some q) : atI (qs.map fr) (i : Int) = some (fr q) := atI_nat (by rw [List.getElem?_map, h]; rfl)

abbrev BSh (qs : List Rat) : Prop := PSh 6 qs
def denL (qs : List Rat) : List Nat := qs.map (·.den)
theorem PSh.dens {qs : List Rat} (h : BSh qs) : ∀ d ∈ denL qs, 0 < d ∧ d ≤ 60 := fun d hd => by
  obtain ⟨q, hq, rfl⟩ := List.mem_map.mp hd
  exact ⟨q.den_pos, (h.all q hq).2⟩
theorem PSh.lt {qs : List Rat} (h : BSh qs) : 0 < lcmN (denL qs) ∧ lcmN (denL qs) < 2 ^ 36 := lcmN_lt h.dens (by unfold K25.denL; rw [List.length_map]; exact h.len)
theorem fold_lcm_dvd : ∀ (ds : List Nat) (n : Nat), n ∣ ds.foldl Nat.lcm n ∧ ∀ d ∈ ds, d ∣ ds.foldl Nat.lcm n
  | [], n => ⟨Nat.dvd_refl n, fun _ z => by cases z⟩
  | d :: ds, n => by
    obtain ⟨h1, h2⟩ := fold_lcm_dvd ds (Nat.lcm n d)
    refine ⟨Nat.dvd_trans (Nat.dvd_lcm_left n d) h1, fun x hx => ?_⟩
    rcases List.mem_cons.mp hx with rfl | hx
    · exact Nat.dvd_trans (Nat.dvd_lcm_right n x) h1
    · exact h2 x hx
theorem ov_dvd {q : Rat} {N : Nat} (h : q.den ∣ N) (h0 : 0 < N) : Ov (N : Int) q := by
  obtain ⟨k, hk⟩ := h
  refine ⟨q.num * (k : Int), ?_⟩
  have e := num_div_den' q
  have hd := ratNe (den_pos' q)
  have hk0 : 0 < k := by
    rcases Nat.eq_zero_or_pos k with z | z
    · rw [z] at hk; simp at hk; omega
    · exact z
  have hkk := ratNe (show (0 : Int) < (k : Int) by omega)
  have e2 : ((N : Int) : Rat) = ((q.den : Int) : Rat) * ((k : Int) : Rat) := by
    rw [← Rat.intCast_mul, ← Int.natCast_mul, ← hk]
  rw [e2, Rat.intCast_mul]
  generalize ((q.num : Int) : Rat) = x at *
  generalize ((q.den : Int) : Rat) = u at *
  generalize ((k : Int) : Rat) = v at *
  subst e
  grind
theorem PSh.sh {qs : List Rat} (h : BSh qs) : Sh ((lcmN (denL qs) : Nat) : Int) qs where
  pos := by have := h.lt.1; omega
  ne := h.ne
  all := fun q hq => ⟨(h.all q hq).1, ov_dvd ((fold_lcm_dvd (denL qs) 1).2 _ (List.mem_map.mpr ⟨q, hq, rfl⟩)) h.lt.1⟩
  sum := h.sum
theorem PSh.big {qs : List Rat} (h : BSh qs) : (((lcmN (denL qs) : Nat) : Int)).natAbs < 2 ^ 1000 := by
  rw [Int.natAbs_natCast]
  exact lt_up h.lt.2 (by decide)
theorem fold_take {qs : List Rat} {i : Nat} {q : Rat} (h : qs[i]? = some q) : ((denL qs).take (i + 1)).foldl Nat.lcm 1 = Nat.lcm (((denL qs).take i).foldl Nat.lcm 1) q.den := by
  have e : (denL qs)[i]? = some q.den := by unfold denL; rw [List.getElem?_map, h]; rfl
  rw [List.take_succ, e, List.foldl_append]
  rfl
theorem take_pos {qs : List Rat} (h : BSh qs) (i : Nat) : 0 < ((denL qs).take i).foldl Nat.lcm 1 := fold_lcm_pos (by decide) fun d hd => (h.dens d (List.mem_of_mem_take hd)).1
theorem kids_take {ss r : List Nat} {j s : Nat} (h : ss[j]? = some s) : kids (ss.take (j + 1)) r = kids (ss.take j) r ++ (if lastN r ≤ s then [r ++ [s]] else []) := by
  unfold kids
  rw [List.take_succ, h, List.filter_append, List.map_append]
  congr 1
  show List.map _ (List.filter _ [s]) = _
  by_cases hs : lastN r ≤ s
  · rw [if_pos hs, List.filter_cons, if_pos (decide_eq_true hs)]; rfl
  · rw [if_neg hs, List.filter_cons, if_neg (by simpa using hs)]; rfl
theorem kids_len (ss r : List Nat) : (kids ss r).length ≤ ss.length := by
  unfold kids
  rw [List.length_map]
  exact List.length_filter_le _ _
theorem flat_len {ss : List Nat} (h : ss.length ≤ 5) : ∀ l : List (List Nat), (l.flatMap (kids ss)).length ≤ l.length * 5
  | [] => by simp
  | r :: l => by
    rw [List.flatMap_cons, List.length_append, List.length_cons]
    have := kids_len ss r
    have := flat_len h l
    omega
theorem flat_take {ss : List Nat} {l : List (List Nat)} {i : Nat} {r : List Nat} (h : l[i]? = some r) : (l.take (i + 1)).flatMap (kids ss) = (l.take i).flatMap (kids ss) ++ kids ss r := by
  rw [List.take_succ, h, List.flatMap_append]
  simp
theorem find_at {f : List Nat → Bool} : ∀ {l : List (List Nat)} {i : Nat} {x : List Nat}, l[i]? = some x → f x = true → (∀ y ∈ l.take i, f y = false) → l.find? f = some x
  | a :: l, 0, x, h, hf, _ => by
    cases (Option.some.inj (show some a = some x by simpa using h))
    rw [List.find?_cons, hf]
  | a :: l, i + 1, x, h, hf, hn => by
    rw [List.find?_cons, hn a (by simp)]
    exact find_at (i := i) (by simpa using h) hf fun y hy => hn y (by simp [hy])
theorem find_no {f : List Nat → Bool} {l : List (List Nat)} (h : ∀ y ∈ l, f y = false) : l.find? f = none := List.find?_eq_none.mpr fun y hy => by rw [h y hy]; decide
theorem hit_one {n : Nat} (h0 : 0 < n) (r : List Nat) : hit n r = decide (((leftR n r : Nat) : Int) = 1) := by
  unfold hit
  rw [decide_eq_decide, ← leftR_one r h0]
  omega
def prD (n : Nat) (r : List Nat) : D := .tup [nats r, .int ((leftR n r : Nat) : Int)]
theorem nats_app (r : List Nat) (s : Nat) : D.tup ((r.map fun (s : Nat) => D.int (s : Int)) ++ [.int (s : Int)]) = nats (r ++ [s]) := by
  unfold nats
  rw [List.map_append]
  rfl
theorem last_at {r : List Nat} (h : r ≠ []) : atI (r.map fun (s : Nat) => D.int (s : Int)) (-1) = some (.int ((lastN r : Nat) : Int)) := by
  have hl : 0 < r.length := List.length_pos_iff.mpr h
  have e : ixN (r.map fun (s : Nat) => D.int (s : Int)).length (-1) = some (r.length - 1) := by
    rw [List.length_map]
    unfold ixN
    rw [if_neg (by decide), if_pos (by omega)]
    congr 1
    omega
  unfold atI
  rw [e]
  show (r.map fun (s : Nat) => D.int (s : Int))[r.length - 1]? = _
  rw [List.getElem?_map, ← List.getLast?_eq_getElem?]
  unfold lastN
  cases q : r.getLast? with
  | none => exact absurd (List.getLast?_eq_none_iff.mp q) h
  | some x => rfl
theorem emp_map {α : Type} (f : α → D) (r : List α) : (r.map f).isEmpty = r.isEmpty := by cases r <;> rfl
def sp_joint_bottom : DSp := fun ds S Q _ => ∃ qs, ds = [shD qs] ∧ BSh qs ∧ Q (.int ((lcmN (denL qs) : Nat) : Int)) S
def sp_left_of : DSp := fun ds S Q _ => ∃ n s : Nat, ds = [.int (n : Int), .int (s : Int)] ∧ 0 < n ∧ n < 2 ^ 64 ∧ ∀ r : Nat, r ∣ n → Nat.Coprime r s → (∃ k, n ∣ r * s ^ k) → Q (.int (r : Int)) S
def sp_are_bounded : DSp := fun ds S Q _ => ∃ qs ss, ds = [shD qs, nats ss] ∧ BSh qs ∧ DiceOk ss ∧ ∀ b : Bool, (b = true ↔ Bounded (lcmN (denL qs)) ss) → Q (.bl b) S
def sp_shortest_row : DSp := fun ds S Q _ => ∃ (n : Nat) (ss : List Nat) (K : Nat) (r : List Nat), ds = [.int (n : Int), nats ss] ∧ 0 < n ∧ n < 2 ^ 36 ∧ DiceOk ss ∧ K < 36 ∧ (rowsN ss K).find? (hit n) = some r ∧ (∀ k, k < K → (rowsN ss k).find? (hit n) = none) ∧ Q (nats r) S
def sp_is_bounded : DSp := sp_are_bounded
/-- the first of the shortest rows -/
def FewR (n : Nat) (ss : List Nat) (d : D) : Prop := (¬ Bounded n ss ∧ d = .non) ∨ ∃ K r, K < 36 ∧ (rowsN ss K).find? (hit n) = some r ∧ (∀ k, k < K → (rowsN ss k).find? (hit n) = none) ∧ d = nats r
def sp_fewest_dice : DSp := fun ds S Q _ => ∃ qs ss, ds = [shD qs, nats ss] ∧ BSh qs ∧ DiceOk ss ∧ ∀ d, FewR (lcmN (denL qs)) ss d → Q d S
theorem hit_bounded {n : Nat} {ss : List Nat} {K : Nat} {r : List Nat} (h : (rowsN ss K).find? (hit n) = some r) : Bounded n ss := by
  have h1 := List.mem_of_find?_eq_some h
  have h2 := List.find?_some h
  obtain ⟨h3, h4⟩ := rows_mem K r h1
  have h5 : n ∣ prodN r := of_decide_eq_true h2
  refine ⟨r.length, Nat.dvd_trans h5 ?_⟩
  clear h1 h2 h3 h5 h
  induction r with
  | nil => exact Nat.dvd_refl 1
  | cons a r ih =>
    have h6 := ih fun s hs => h4 s (List.mem_cons_of_mem _ hs)
    have ha : a ∣ prodN ss := by
      have := h4 a (by simp)
      clear ih h6 h4
      induction ss with
      | nil => cases this
      | cons b ss ih =>
        rcases List.mem_cons.mp this with rfl | h
        · exact Nat.dvd_mul_right _ _
        · exact Nat.dvd_trans (ih h) (Nat.dvd_mul_left _ _)
    show a * prodN r ∣ _
    rw [List.length_cons, Nat.pow_succ, Nat.mul_comm]
    exact Nat.mul_dvd_mul h6 ha
theorem FewR.uniq {n : Nat} {ss : List Nat} {d e : D} (h : FewR n ss d) (h' : FewR n ss e) : d = e := by
  rcases h with ⟨h1, rfl⟩ | ⟨K, r, _, h2, h3, rfl⟩ <;> rcases h' with ⟨h4, rfl⟩ | ⟨K', r', _, h5, h6, rfl⟩
  · rfl
  · exact absurd (hit_bounded h5) h1
  · exact absurd (hit_bounded h2) h4
  · rcases Nat.lt_trichotomy K K' with z | z | z
    · rw [h6 K z] at h2; cases h2
    · subst z; rw [h2] at h5; cases h5; rfl
    · rw [h3 K' z] at h5; cases h5
theorem ok_joint_bottom {P : Program} {w : World} {K : PySem.W.Frag} {mg : Str → Option Value} {base : Heap} (T : Txt K mg) : FnOk P w K mg base (L2.CX P w) 2 T.a_joint_bottom T.fd_joint_bottom ["shares"] (toSp K sp_joint_bottom) := by
  refine fnD T.F_joint_bottom sc_joint_bottom (fun ds S Q E h => ?_) (fun cdv A outer s H E RX hr => ⟨_, (pds_cons (pd_set 1 sc_joint_bottom.nd pd_int)
    (pds_cons (pd_for (passes_of rfl) rfl (pdi_it (pd_var 0)) (pdg_tup rfl (pdgs_cons (pdg_name 2 sc_joint_bottom.nd) (pdgs_cons (pdg_name 3 sc_joint_bottom.nd) pdgs_nil))) (pds_one (pd_set 1 sc_joint_bottom.nd (pd_bin od_mul (pd_bin od_fdiv (pd_var 1) (pd_call (takes_of rfl rfl rfl rfl) (ok_common_part T) (hr.mono (by decide)) T.m_common_part T.F_common_part.kp T.d_common_part (pda_cons (pd_var 1) (pda_cons (pd_var 3) pda_nil)))) (pd_var 3)))))
    (pds_one (pd_ret (pd_var 1))))), fun ds S Q h => ?_⟩)
  · obtain ⟨_, rfl, _⟩ := h
    rfl
  · obtain ⟨qs, rfl, hb, h⟩ := h
    walk_at "w"
    refine for_xs (fun i ρ' S' => S' = S ∧ ∃ o1 o2, ρ' = [some (shD qs), some (.int (((((denL qs).take i).foldl Nat.lcm 1 : Nat)) : Int)), o1, o2]) ⟨rfl, _, _, by rw [List.take_zero]; rfl⟩ (fun _ _ _ h => trivial) ?_ ?_
    · rintro i x _ _ hi ⟨rfl, o1, o2, rfl⟩
      obtain ⟨q, hq, rfl⟩ := fr_at hi
      have hp := take_pos hb i
      have hq6 := (hb.all q (List.mem_of_getElem? hq)).2
      walk_at "w"
      refine ⟨rfl, ?_⟩
      walk_at "w"
      refine ⟨_, q.den, rfl, ?_⟩
      have hg : Nat.gcd (((denL qs).take i).foldl Nat.lcm 1) q.den ≤ 60 := Nat.le_trans (Nat.gcd_le_right _ q.den_pos) hq6
      have hg0 : 0 < Nat.gcd (((denL qs).take i).foldl Nat.lcm 1) q.den := Nat.gcd_pos_of_pos_left _ hp
      walk_at "w"
      refine ⟨div_s (by omega) (Int.lt_of_le_of_lt (show _ ≤ (60 : Int) by omega) (by decide)), ?_⟩
      walk_at "w"
      refine ⟨small_r (by have := den_pos' q; omega) (by have := q.den_pos; omega), ?_⟩
      walk_at "w"
      refine ⟨rfl, some (.int q.num), some (.int (q.den : Int)), ?_⟩
      rw [fold_take hq, ← lcm_eq hp, Int.natCast_mul, Int.natCast_ediv]
      rfl
    · rintro _ _ ⟨rfl, o1, o2, rfl⟩
      rw [List.length_map, List.take_of_length_le (by unfold K25.denL; rw [List.length_map]; omega)]
      walk_at "w"
      exact h

theorem ok_left_of {P : Program} {w : World} {K : PySem.W.Frag} {mg : Str → Option Value} {base : Heap} (T : Txt K mg) : FnOk P w K mg base (L2.CX P w) 2 T.a_left_of T.fd_left_of ["number", "sides"] (toSp K sp_left_of) := by
  refine fnD T.F_left_of sc_left_of (fun ds S Q E h => ?_) (fun cdv A outer s H E RX hr => ⟨_, (pds_cons (pd_set 2 sc_left_of.nd (pd_call (takes_of rfl rfl rfl rfl) (ok_common_part T) (hr.mono (by decide)) T.m_common_part T.F_common_part.kp T.d_common_part (pda_cons (pd_var 0) (pda_cons (pd_var 1) pda_nil))))
    (pds_cons (pd_while (passes_of rfl) (pdt_cmp od_gt (pd_var 2) pd_int) (pds_cons (pd_set 0 sc_left_of.nd (pd_bin od_fdiv (pd_var 0) (pd_var 2)))
    (pds_one (pd_set 2 sc_left_of.nd (pd_call (takes_of rfl rfl rfl rfl) (ok_common_part T) (hr.mono (by decide)) T.m_common_part T.F_common_part.kp T.d_common_part (pda_cons (pd_var 0) (pda_cons (pd_var 1) pda_nil)))))))
    (pds_one (pd_ret (pd_var 0))))), fun ds S Q h => ?_⟩)
  · obtain ⟨_, _, rfl, _⟩ := h
    rfl
  · obtain ⟨n, s, rfl, h0, h64, h⟩ := h
    walk_at "w"
    refine ⟨_, _, rfl, ?_⟩
    walk_at "w"
    refine ⟨fun m ρ' S' => S' = S ∧ 0 < m ∧ m ∣ n ∧ (∃ k, n ∣ m * s ^ k) ∧ ρ' = [some (.int (m : Int)), some (.int (s : Int)), some (.int ((Nat.gcd m s : Nat) : Int))], ⟨n, rfl, h0, Nat.dvd_refl n, ⟨0, by simp⟩, rfl⟩, ?_⟩
    rintro m _ _ ⟨rfl, m0, hd, ⟨k, hk⟩, rfl⟩
    have hg0 : 0 < Nat.gcd m s := Nat.gcd_pos_of_pos_left s m0
    have hgm : Nat.gcd m s ≤ m := Nat.gcd_le_left s m0
    have hmn : m ≤ n := Nat.le_of_dvd h0 hd
    walk_at "w"
    refine IFB.p (fun c1 => ?_) (fun c1 => ?_)
    · walk_at "w"
      refine ⟨div_s (by omega) (Int.lt_of_lt_of_le (show _ < (2 : Int) ^ 64 by omega) (by decide)), ?_⟩
      have e1 : ((m : Int) / ((Nat.gcd m s : Nat) : Int)) = ((m / Nat.gcd m s : Nat) : Int) := by rw [Int.natCast_ediv]
      walk_at "w"
      rw [e1]
      refine ⟨_, _, rfl, ?_⟩
      walk_at "w"
      refine ⟨m / Nat.gcd m s, Nat.div_lt_self m0 (by omega), rfl, step_pos m0, Nat.dvd_trans (Nat.div_dvd_of_dvd (Nat.gcd_dvd_left m s)) hd, ⟨k + 1, Nat.dvd_trans hk ?_⟩, rfl⟩
      rw [Nat.pow_succ, Nat.mul_comm (s ^ k), ← Nat.mul_assoc]
      refine Nat.mul_dvd_mul ?_ (Nat.dvd_refl _)
      conv => lhs; rw [← Nat.div_mul_cancel (Nat.gcd_dvd_left m s)]
      exact Nat.mul_dvd_mul (Nat.dvd_refl _) (Nat.gcd_dvd_right m s)
    · walk_at "w"
      exact h m hd (show Nat.gcd m s = 1 by omega) ⟨k, hk⟩

theorem ok_are_bounded {P : Program} {w : World} {K : PySem.W.Frag} {mg : Str → Option Value} {base : Heap} (T : Txt K mg) : FnOk P w K mg base (L2.CX P w) 3 T.a_are_bounded T.fd_are_bounded ["shares", "dice"] (toSp K sp_are_bounded) := by
  refine fnD T.F_are_bounded sc_are_bounded (fun ds S Q E h => ?_) (fun cdv A outer s H E RX hr => ⟨_, (pds_cons (pd_set 2 sc_are_bounded.nd (pd_call (takes_of rfl rfl rfl rfl) (ok_joint_bottom T) (hr.mono (by decide)) T.m_joint_bottom T.F_joint_bottom.kp T.d_joint_bottom (pda_cons (pd_var 0) pda_nil)))
    (pds_cons (pd_for (passes_of rfl) rfl (pdi_it (pd_var 1)) (pdg_name 3 sc_are_bounded.nd) (pds_one (pd_set 2 sc_are_bounded.nd (pd_call (takes_of rfl rfl rfl rfl) (ok_left_of T) (hr.mono (by decide)) T.m_left_of T.F_left_of.kp T.d_left_of (pda_cons (pd_var 2) (pda_cons (pd_var 3) pda_nil))))))
    (pds_one (pd_ret (pd_cmp (od_eq hr.units) (pd_var 2) pd_int))))), fun ds S Q h => ?_⟩)
  · obtain ⟨_, _, rfl, _⟩ := h
    rfl
  · obtain ⟨qs, ss, rfl, hb, hd, h⟩ := h
    obtain ⟨n0, n36⟩ := hb.lt
    walk_at "w"
    refine ⟨qs, rfl, hb, ?_⟩
    walk_at "w"
    generalize lcmN (denL qs) = n at *
    refine for_xs (fun i ρ' S' => S' = S ∧ ∃ m o, 0 < m ∧ m ≤ n ∧ LeftAll n (ss.take i) m ∧ ρ' = [some (shD qs), some (nats ss), some (.int ((m : Nat) : Int)), o]) ⟨rfl, n, _, n0, Nat.le_refl n, ⟨Nat.dvd_refl n, (fun _ z => by simp at z), 0, by simp⟩, rfl⟩ (fun _ _ _ h => trivial) ?_ ?_
    · rintro i x _ _ hi ⟨rfl, m, o, m0, mn, hl, rfl⟩
      rw [List.getElem?_map] at hi
      cases es : ss[i]? with
      | none => rw [es] at hi; cases hi
      | some s =>
        rw [es] at hi
        cases (Option.some.inj hi)
        walk_at "w"
        refine ⟨m, s, rfl, m0, by omega, ?_⟩
        rintro r hr hc hk
        walk_at "w"
        refine ⟨rfl, r, _, Nat.pos_of_dvd_of_pos hr m0, Nat.le_trans (Nat.le_of_dvd m0 hr) mn, ?_, rfl⟩
        rw [List.take_succ, es]
        exact leftAll_step hl hr hc hk
    · rintro _ _ ⟨rfl, m, o, m0, mn, hl, rfl⟩
      rw [List.length_map, List.take_length] at hl
      walk_at "w"
      exact h _ (by rw [decide_eq_true_iff, ← leftAll_one hl]; omega)

theorem ok_shortest_row {P : Program} {w : World} {K : PySem.W.Frag} {mg : Str → Option Value} {base : Heap} (T : Txt K mg) : FnOk P w K mg base (L2.CX P w) 2 T.a_shortest_row T.fd_shortest_row ["bottom", "dice"] (toSp K sp_shortest_row) := by
  refine fnE T.F_shortest_row sc_shortest_row (fun ds S Q E h => ?_) (fun cdv A outer s H E RX hr => ⟨_, (pds_cons (pd_set 2 sc_shortest_row.nd (pd_lst (pda_cons (pd_tup (pda_cons (pd_tup pda_nil) (pda_cons (pd_var 0) pda_nil))) pda_nil)))
    (pds_one (pd_while (passes_of rfl) (pdt_tru pd_bl) (pds_cons (pd_for (passes_of rfl) rfl (pdi_it (pd_var 2)) (pdg_tup rfl (pdgs_cons (pdg_name 3 sc_shortest_row.nd) (pdgs_cons (pdg_name 4 sc_shortest_row.nd) pdgs_nil))) (pds_one (pd_ifS (pdt_cmp (od_eq hr.units) (pd_var 4) pd_int) (pds_one (pd_ret (pd_var 3))) pds_nil)))
    (pds_cons (pd_set 5 sc_shortest_row.nd (pd_lst pda_nil))
    (pds_cons (pd_for (passes_of rfl) rfl (pdi_it (pd_var 2)) (pdg_tup rfl (pdgs_cons (pdg_name 3 sc_shortest_row.nd) (pdgs_cons (pdg_name 4 sc_shortest_row.nd) pdgs_nil))) (pds_one (pd_for (passes_of rfl) rfl (pdi_it (pd_var 1)) (pdg_name 6 sc_shortest_row.nd) (pds_one (pd_ifS (PDW.pt (pdw_or (pdt_cmp (od_eqE hr.units) (pd_var 3) (pd_tup pda_nil)) (pdw_or1 (pdt_cmp od_ge (pd_var 6) (pd_ix (pd_var 3) (pd_neg pd_int)))))) (pds_one (pd_expr (pd_lm PySem.F.slot_list_append PySem.F.type_list_append md_append (pd_var 5) (pda_cons (pd_tup (pda_cons (pd_bin od_add (pd_var 3) (pd_tup (pda_cons (pd_var 6) pda_nil))) (pda_cons (pd_bin od_fdiv (pd_var 4) (pd_call (takes_of rfl rfl rfl rfl) (ok_common_part T) (hr.mono (by decide)) T.m_common_part T.F_common_part.kp T.d_common_part (pda_cons (pd_var 4) (pda_cons (pd_var 6) pda_nil)))) pda_nil))) pda_nil)))) pds_nil)))))
    (pds_one (pd_set 2 sc_shortest_row.nd (pd_var 5))))))))), fun ds S Q h => ?_⟩)
  · obtain ⟨_, _, _, _, rfl, _⟩ := h
    rfl
  · obtain ⟨n, ss, K, r, rfl, n0, n36, hd, hK, hf, hn, h⟩ := h
    have hl5 := hd.len
    walk_at "w"
    intro p0 hp0
    walk_at "w"
    refine ⟨fun m ρ' S' => ∃ k p o1 o2 o3 o4, k ≤ K ∧ m = K - k ∧ S' p = some (.lst ((rowsN ss k).map (prD n))) ∧ Ext S S' ∧ ρ' = [some (.int (n : Int)), some (nats ss), some (.ref p), o1, o2, o3, o4], ⟨K, 0, p0, _, _, _, _, Nat.zero_le _, rfl, sup_same, Ext.new hp0 _, rfl⟩, ?_⟩
    rintro m _ S1 ⟨k, p, o1, o2, o3, o4, hk, rfl, e1, x1, rfl⟩
    have hlen := rows_len hd.asc hd.len (k := k) (by omega)
    walk_at "g"
    refine ⟨_, .inl ⟨p, rfl, e1⟩, ?_⟩
    refine for_xs (fun i ρ' S' => S' = S1 ∧ (∀ y ∈ (rowsN ss k).take i, hit n y = false) ∧ ∃ o1 o2, ρ' = [some (.int (n : Int)), some (nats ss), some (.ref p), o1, o2, o3, o4]) ⟨rfl, (fun _ z => by simp at z), _, _, rfl⟩ (fun _ _ _ h => by rw [h.1]; exact .inl ⟨p, rfl, e1⟩) ?_ ?_
    · rintro i x _ _ hi ⟨rfl, hno, o1, o2, rfl⟩
      rw [List.getElem?_map] at hi
      cases er : (rowsN ss k)[i]? with
      | none => rw [er] at hi; cases hi
      | some row =>
        rw [er] at hi
        cases (Option.some.inj hi)
        walk_at "w"
        refine ⟨rfl, ?_⟩
        walk_at "w"
        refine IFB.mk (fun c1 => ?_) (fun c1 => ?_)
        · have hh : hit n row = true := by rw [hit_one n0]; exact c1
          have hfx := find_at er hh hno
          have ek : k = K := by
            rcases Nat.lt_or_ge k K with z | z
            · rw [hn k z] at hfx; cases hfx
            · omega
          subst ek
          rw [hf] at hfx
          cases hfx
          walk_at "w"
          exact ⟨S, x1, h⟩
        · have hh : hit n row = false := by rw [hit_one n0]; exact c1
          walk_at "w"
          refine ⟨rfl, fun y hy => ?_, _, _, rfl⟩
          rw [List.take_succ, er] at hy
          rcases List.mem_append.mp hy with hy | hy
          · exact hno y hy
          · cases List.mem_singleton.mp (show y ∈ [row] from hy); exact hh
    · rintro _ _ ⟨rfl, hno, o1, o2, rfl⟩
      rw [List.length_map, List.take_length] at hno
      have hkK : k < K := by
        rcases Nat.lt_or_ge k K with z | z
        · exact z
        · have e : k = K := by omega
          subst e
          rw [find_no hno] at hf
          cases hf
      walk_at "w"
      intro q hq
      generalize hSS : DL.sup _ q _ = S2
      obtain ⟨e2, x2, -⟩ := sup_of hSS
      have x2 := x2 hq
      have hpq : p ≠ q := fun z => by rw [z, hq] at e1; cases e1
      have e1' := x2 _ _ e1
      have hSq := x1.free hq
      have xx := x1.trans x2
      clear hSS
      walk_at "w"
      refine ⟨_, .inl ⟨p, rfl, e1'⟩, ?_⟩
      refine for_xs (fun i ρ' S' => S' q = some (.lst ((((rowsN ss k).take i).flatMap (kids ss)).map (prD n))) ∧ S' p = some (.lst ((rowsN ss k).map (prD n))) ∧ Ext S S' ∧ ∃ o1 o2 o3, ρ' = [some (.int (n : Int)), some (nats ss), some (.ref p), o1, o2, some (.ref q), o3]) ⟨by rw [e2]; rfl, e1', xx, _, _, _, rfl⟩ (fun _ _ _ h => .inl ⟨p, rfl, h.2.1⟩) ?_ ?_
      · rintro i x _ S3 hi ⟨e3, e3p, x3, o1, o2, o3, rfl⟩
        rw [List.getElem?_map] at hi
        cases er : (rowsN ss k)[i]? with
        | none => rw [er] at hi; cases hi
        | some row =>
          rw [er] at hi
          cases (Option.some.inj hi)
          have hil : i < (rowsN ss k).length := (List.getElem?_eq_some_iff.mp er).1
          have hrl : row.length = k := (rows_mem k row (List.mem_of_getElem? er)).1
          have hfl := flat_len hl5 ((rowsN ss k).take i)
          rw [List.length_take, Nat.min_eq_left (by omega)] at hfl
          have hp0 : 0 < leftR n row := leftR_pos row n0
          have hpn := leftR_le row n
          walk_at "w"
          refine ⟨rfl, ?_⟩
          walk_at "w"
          refine for_xs (fun j ρ' S' => S' q = some (.lst ((((rowsN ss k).take i).flatMap (kids ss) ++ kids (ss.take j) row).map (prD n))) ∧ S' p = some (.lst ((rowsN ss k).map (prD n))) ∧ Ext S S' ∧ ∃ o3, ρ' = [some (.int (n : Int)), some (nats ss), some (.ref p), some (nats row), some (.int ((leftR n row : Nat) : Int)), some (.ref q), o3]) ⟨by rw [e3]; simp [kids], e3p, x3, _, rfl⟩ (fun _ _ _ h => trivial) ?_ ?_
          · rintro j x _ S4 hj ⟨e4, e4p, x4, o3, rfl⟩
            rw [List.getElem?_map] at hj
            cases es : ss[j]? with
            | none => rw [es] at hj; cases hj
            | some s =>
              rw [es] at hj
              cases (Option.some.inj hj)
              have hkl := kids_len (ss.take j) row
              have hjl : j < ss.length := (List.getElem?_eq_some_iff.mp es).1
              rw [List.length_take] at hkl
              have hs20 := hd.top s (List.mem_of_getElem? es)
              have hs2 := hd.two s (List.mem_of_getElem? es)
              have leaf : lastN row ≤ s → ∀ Sx, Sx = DL.sup S4 q (.lst ((((rowsN ss k).take i).flatMap (kids ss) ++ kids (ss.take j) row).map (prD n) ++ [prD n (row ++ [s])])) →
                  Sx q = some (.lst ((((rowsN ss k).take i).flatMap (kids ss) ++ kids (ss.take (j + 1)) row).map (prD n))) ∧ Sx p = some (.lst ((rowsN ss k).map (prD n))) ∧ Ext S Sx := fun hle Sx ex => by
                subst ex
                refine ⟨?_, by rw [sup_ne hpq]; exact e4p, x4.wr hSq⟩
                rw [sup_same, kids_take es, if_pos hle]
                simp
              walk_at "w"
              refine .inl ⟨_, rfl, rfl, ?_⟩
              rw [if_neg (by decide), emp_map]
              cases hre : row.isEmpty with
              | true =>
                have hle : lastN row ≤ s := by
                  cases row with
                  | nil => exact Nat.zero_le _
                  | cons _ _ => cases hre
                refine IFB.t rfl ?_
                walk_at "g"
                refine ⟨⟨_, e4⟩, ?_⟩
                walk_at "w"
                refine ⟨by rw [List.length_map, hrl]; show k + 1 ≤ 16777216; omega, ?_⟩
                walk_at "w"
                refine ⟨_, s, rfl, ?_⟩
                have hg0 : 0 < Nat.gcd (leftR n row) s := Nat.gcd_pos_of_pos_left _ hp0
                have hg1 : Nat.gcd (leftR n row) s ≤ s := Nat.gcd_le_right _ (by omega)
                walk_at "w"
                refine ⟨div_s (by omega) (Int.lt_of_le_of_lt (show _ ≤ (20 : Int) by omega) (by decide)), ?_⟩
                walk_at "w"
                refine ⟨_, e4, by rw [List.length_map, List.length_append]; show _ < 16777216; omega, ?_⟩
                walk_at "w"
                have ep : D.tup [.tup ((row.map fun (s : Nat) => D.int (s : Int)) ++ [.int (s : Int)]), .int (((leftR n row : Nat) : Int) / ((Nat.gcd (leftR n row) s : Nat) : Int))] = prD n (row ++ [s]) := by
                  rw [nats_app]
                  unfold prD
                  rw [leftR_app, Int.natCast_ediv]
                obtain ⟨f1, f2, f3⟩ := leaf hle _ rfl
                rw [← ep] at f1 f2 f3
                exact ⟨f1, f2, f3, _, rfl⟩
              | false =>
                have hne : row ≠ [] := fun z => by rw [z] at hre; cases hre
                refine IFB.f rfl ?_
                walk_at "w"
                refine ⟨_, last_at hne, ?_⟩
                walk_at "w"
                refine IFB.p (fun c2 => ?_) (fun c2 => ?_)
                · have hle : lastN row ≤ s := by omega
                  walk_at "g"
                  refine ⟨⟨_, e4⟩, ?_⟩
                  walk_at "w"
                  refine ⟨by rw [List.length_map, hrl]; show k + 1 ≤ 16777216; omega, ?_⟩
                  walk_at "w"
                  refine ⟨_, s, rfl, ?_⟩
                  have hg0 : 0 < Nat.gcd (leftR n row) s := Nat.gcd_pos_of_pos_left _ hp0
                  have hg1 : Nat.gcd (leftR n row) s ≤ s := Nat.gcd_le_right _ (by omega)
                  walk_at "w"
                  refine ⟨div_s (by omega) (Int.lt_of_le_of_lt (show _ ≤ (20 : Int) by omega) (by decide)), ?_⟩
                  walk_at "w"
                  refine ⟨_, e4, by rw [List.length_map, List.length_append]; show _ < 16777216; omega, ?_⟩
                  walk_at "w"
                  have ep : D.tup [.tup ((row.map fun (s : Nat) => D.int (s : Int)) ++ [.int (s : Int)]), .int (((leftR n row : Nat) : Int) / ((Nat.gcd (leftR n row) s : Nat) : Int))] = prD n (row ++ [s]) := by
                    rw [nats_app]
                    unfold prD
                    rw [leftR_app, Int.natCast_ediv]
                  obtain ⟨f1, f2, f3⟩ := leaf hle _ rfl
                  rw [← ep] at f1 f2 f3
                  exact ⟨f1, f2, f3, _, rfl⟩
                · walk_at "w"
                  refine ⟨by rw [e4, kids_take es, if_neg (by omega), List.append_nil], e4p, x4, _, rfl⟩
          · rintro _ S4 ⟨e4, e4p, x4, o3, rfl⟩
            rw [List.length_map, List.take_length] at e4
            walk_at "w"
            exact ⟨by rw [e4, flat_take er], e4p, x4, _, _, _, rfl⟩
      · rintro _ S3 ⟨e3, e3p, x3, o1, o2, o3, rfl⟩
        rw [List.length_map, List.take_length] at e3
        walk_at "w"
        exact ⟨K - (k + 1), by omega, k + 1, q, _, _, _, _, by omega, rfl, e3, x3, rfl⟩

theorem ok_is_bounded {P : Program} {w : World} {K : PySem.W.Frag} {mg : Str → Option Value} {base : Heap} (T : Txt K mg) : FnOk P w K mg base (L2.CX P w) 6 T.a_is_bounded T.fd_is_bounded ["shares", "dice"] (toSp K sp_is_bounded) := by
  refine fnD T.F_is_bounded sc_is_bounded (fun ds S Q E h => ?_) (fun cdv A outer s H E RX hr => ⟨_, (pds_cons (pd_expr (pd_call (takes_of rfl rfl rfl rfl) (ok_check_shares T) (hr.mono (by decide)) T.m_check_shares T.F_check_shares.kp T.d_check_shares (pda_cons (pd_var 0) pda_nil)))
    (pds_cons (pd_expr (pd_call (takes_of rfl rfl rfl rfl) (ok_check_dice T) (hr.mono (by decide)) T.m_check_dice T.F_check_dice.kp T.d_check_dice (pda_cons (pd_var 1) pda_nil)))
    (pds_one (pd_ret (pd_call (takes_of rfl rfl rfl rfl) (ok_are_bounded T) (hr.mono (by decide)) T.m_are_bounded T.F_are_bounded.kp T.d_are_bounded (pda_cons (pd_var 0) (pda_cons (pd_var 1) pda_nil))))))), fun ds S Q h => ?_⟩)
  · obtain ⟨_, _, rfl, _⟩ := h
    rfl
  · obtain ⟨qs, ss, rfl, hb, hd, h⟩ := h
    walk_at "w"
    refine ⟨qs, _, rfl, hb.sh, hb.big, by have := hb.len; omega, ?_⟩
    walk_at "w"
    refine ⟨ss, rfl, hd, ?_⟩
    walk_at "w"
    exact ⟨qs, ss, rfl, hb, hd, h⟩

theorem ok_fewest_dice {P : Program} {w : World} {K : PySem.W.Frag} {mg : Str → Option Value} {base : Heap} (T : Txt K mg) : FnOk P w K mg base (L2.CX P w) 6 T.a_fewest_dice T.fd_fewest_dice ["shares", "dice"] (toSp K sp_fewest_dice) := by
  refine fnD T.F_fewest_dice sc_fewest_dice (fun ds S Q E h => ?_) (fun cdv A outer s H E RX hr => ⟨_, (pds_cons (pd_expr (pd_call (takes_of rfl rfl rfl rfl) (ok_check_shares T) (hr.mono (by decide)) T.m_check_shares T.F_check_shares.kp T.d_check_shares (pda_cons (pd_var 0) pda_nil)))
    (pds_cons (pd_expr (pd_call (takes_of rfl rfl rfl rfl) (ok_check_dice T) (hr.mono (by decide)) T.m_check_dice T.F_check_dice.kp T.d_check_dice (pda_cons (pd_var 1) pda_nil)))
    (pds_one (pd_ret (pd_if (pdt_tru (pd_call (takes_of rfl rfl rfl rfl) (ok_are_bounded T) (hr.mono (by decide)) T.m_are_bounded T.F_are_bounded.kp T.d_are_bounded (pda_cons (pd_var 0) (pda_cons (pd_var 1) pda_nil)))) (pd_call (takes_of rfl rfl rfl rfl) (ok_shortest_row T) (hr.mono (by decide)) T.m_shortest_row T.F_shortest_row.kp T.d_shortest_row (pda_cons (pd_call (takes_of rfl rfl rfl rfl) (ok_joint_bottom T) (hr.mono (by decide)) T.m_joint_bottom T.F_joint_bottom.kp T.d_joint_bottom (pda_cons (pd_var 0) pda_nil)) (pda_cons (pd_var 1) pda_nil))) pd_non))))), fun ds S Q h => ?_⟩)
  · obtain ⟨_, _, rfl, _⟩ := h
    rfl
  · obtain ⟨qs, ss, rfl, hb, hd, h⟩ := h
    obtain ⟨n0, n36⟩ := hb.lt
    walk_at "w"
    refine ⟨qs, _, rfl, hb.sh, hb.big, by have := hb.len; omega, ?_⟩
    walk_at "w"
    refine ⟨ss, rfl, hd, ?_⟩
    walk_at "w"
    refine ⟨qs, ss, rfl, hb, hd, fun b hbd => ?_⟩
    cases b with
    | true =>
      obtain ⟨K, r, hK, hf, hn⟩ := fewest_ex n0 n36 (hbd.mp rfl)
      walk_at "g"
      refine ⟨qs, rfl, hb, ?_⟩
      walk_at "w"
      exact ⟨_, ss, K, r, rfl, n0, n36, hd, hK, hf, hn, h _ (.inr ⟨K, r, hK, hf, hn, rfl⟩)⟩
    | false =>
      walk_at "g"
      exact h _ (.inl ⟨(fun z => Bool.noConfusion (hbd.mpr z)), rfl⟩)
end K25
set_option Elab.async false
set_option linter.all false
set_option maxRecDepth 100000
set_option maxHeartbeats 4000000
namespace K25
open PySem PySem.Spec PyProof.Rows L2 DL
local macro_rules | `(tactic| walk_at "w") => `(tactic| conv => whnf)
local macro_rules | `(tactic| walk_at "g") => `(tactic| ((conv => whnf); repeat' (first | (refine IFB.t ?_ ?_; rfl; conv => whnf) | (refine IFB.f ?_ ?_; rfl; conv => whnf))))
theorem ok_law_stock {P : Program} {w : World} {K : PySem.W.Frag} {mg : Str → Option Value} {base : Heap} (T : Txt K mg) : FnOk P w K mg base (L2.CX P w) 1 T.a_law_stock T.fd_law_stock ["script", "spot"] (toSp K sp_law_stock) := by
  refine fnD T.F_law_stock sc_law_stock (fun ds S Q E h => ?_) (fun cdv A outer s H E RX hr => ⟨_, (pds_cons (pd_set 2 sc_law_stock.nd (pd_if (pdt_cmp od_lt (pd_var 1) (pd_blt cd_len T.b_len (by decide +kernel) (pda_cons (pd_var 0) pda_nil))) (pd_ix (pd_var 0) (pd_var 1)) (pd_bin od_add (pd_bin od_add (pd_bin od_mul pd_int (pd_var 1)) (pd_bin od_mul pd_int (pd_blt cd_len T.b_len (by decide +kernel) (pda_cons (pd_var 0) pda_nil)))) pd_int)))
    (pds_cons (pd_set 3 sc_law_stock.nd (pd_if (pdt_cmp od_ge (pd_var 2) (pd_bin od_pow pd_int pd_int)) (pd_bin od_sub (pd_var 2) (pd_bin od_pow pd_int pd_int)) pd_int))
    (pds_one (pd_ret (pd_lst (pda_cons (pd_var 3) (pda_cons (pd_bin od_mod (pd_bltTy cd_int T.b_int (by decide +kernel) (pda_cons (pd_bin od_add (pd_bin od_add (pd_bin od_mul (pd_var 2) pd_int) (pd_bin od_mul (pd_var 1) pd_int)) pd_int) pda_nil)) (pd_bin od_add (pd_bin od_pow pd_int pd_int) pd_int)) (pda_cons pd_int pda_nil)))))))), fun ds S Q h => ?_⟩)
  · obtain ⟨_, _, rfl, _⟩ := h
    rfl
  · obtain ⟨xs, p, rfl, h0, h1, h⟩ := h
    walk_at "w"
    refine ⟨_, .inr rfl, ?_⟩
    walk_at "w"
    refine IFB.p (fun c1 => ?_) (fun c1 => ?_)
    · obtain ⟨c, ec⟩ := atI_map (xs := xs) h0 (by simpa using c1)
      walk_at "w"
      refine ⟨_, _, .inr rfl, ec, ?_⟩
      walk_at "w"
      refine ⟨by decide, ?_⟩
      walk_at "w"
      refine IFB.p (fun c3 => ?_) (fun c3 => ?_)
      · walk_at "w"
        refine ⟨by decide, ?_⟩
        walk_at "w"
        refine ⟨small_r (by decide) (by decide), ?_⟩
        walk_at "w"
        refine ⟨small_r (by decide) (by decide), ?_⟩
        walk_at "w"
        refine ⟨by decide, ?_⟩
        walk_at "w"
        refine ⟨by decide, ?_⟩
        walk_at "w"
        intro a ha
        exact h a _ ha ⟨_, _, _, sup_same, Int.emod_nonneg _ (by decide), Int.lt_of_lt_of_le (Int.emod_lt_of_pos _ (by decide)) (by decide), by decide, by decide⟩ (fun b hb => sup_ne hb)
      · skip
        walk_at "w"
        refine ⟨small_r (by decide) (by decide), ?_⟩
        walk_at "w"
        refine ⟨small_r (by decide) (by decide), ?_⟩
        walk_at "w"
        refine ⟨by decide, ?_⟩
        walk_at "w"
        refine ⟨by decide, ?_⟩
        walk_at "w"
        intro a ha
        exact h a _ ha ⟨_, _, _, sup_same, Int.emod_nonneg _ (by decide), Int.lt_of_lt_of_le (Int.emod_lt_of_pos _ (by decide)) (by decide), by decide, by decide⟩ (fun b hb => sup_ne hb)
    · walk_at "w"
      refine ⟨small_l (by decide) (by decide), ?_⟩
      walk_at "w"
      refine ⟨_, .inr rfl, ?_⟩
      walk_at "w"
      refine ⟨small_l (by decide) (by decide), ?_⟩
      walk_at "w"
      refine ⟨by decide, ?_⟩
      walk_at "w"
      refine IFB.p (fun c3 => ?_) (fun c3 => ?_)
      · walk_at "w"
        refine ⟨by decide, ?_⟩
        walk_at "w"
        refine ⟨small_r (by decide) (by decide), ?_⟩
        walk_at "w"
        refine ⟨small_r (by decide) (by decide), ?_⟩
        walk_at "w"
        refine ⟨by decide, ?_⟩
        walk_at "w"
        refine ⟨by decide, ?_⟩
        walk_at "w"
        intro a ha
        exact h a _ ha ⟨_, _, _, sup_same, Int.emod_nonneg _ (by decide), Int.lt_of_lt_of_le (Int.emod_lt_of_pos _ (by decide)) (by decide), by decide, by decide⟩ (fun b hb => sup_ne hb)
      · skip
        walk_at "w"
        refine ⟨small_r (by decide) (by decide), ?_⟩
        walk_at "w"
        refine ⟨small_r (by decide) (by decide), ?_⟩
        walk_at "w"
        refine ⟨by decide, ?_⟩
        walk_at "w"
        refine ⟨by decide, ?_⟩
        walk_at "w"
        intro a ha
        exact h a _ ha ⟨_, _, _, sup_same, Int.emod_nonneg _ (by decide), Int.lt_of_lt_of_le (Int.emod_lt_of_pos _ (by decide)) (by decide), by decide, by decide⟩ (fun b hb => sup_ne hb)

theorem ok_law_pick {P : Program} {w : World} {K : PySem.W.Frag} {mg : Str → Option Value} {base : Heap} (T : Txt K mg) : FnOk P w K mg base (L2.CX P w) 1 T.a_law_pick T.fd_law_pick ["stock", "many"] (toSp K sp_law_pick) := by
  refine fnD T.F_law_pick sc_law_pick (fun ds S Q E h => ?_) (fun cdv A outer s H E RX hr => ⟨_, (pds_cons (pd_ifS (pdt_cmp od_gt (pd_ix (pd_var 0) pd_int) pd_int) (pds_cons (pd_set 2 sc_law_pick.nd (pd_bin od_mod (pd_bltTy cd_int T.b_int (by decide +kernel) (pda_cons (pd_ix (pd_var 0) pd_int) pda_nil)) (pd_var 1)))
    (pds_cons (pd_asg (pd_bin od_fdiv (pd_ix (pd_var 0) pd_int) (pd_var 1)) (pdg_sub sd_list (pd_var 0) pd_int))
    (pds_one (pd_ret (pd_var 2))))) pds_nil)
    (pds_cons (pd_asg (pd_bin od_add (pd_ix (pd_var 0) pd_int) pd_int) (pdg_sub sd_list (pd_var 0) pd_int))
    (pds_cons (pd_set 3 sc_law_pick.nd (pd_bin od_mod (pd_bin od_pow (pd_bltTy cd_int T.b_int (by decide +kernel) (pda_cons (pd_bin od_add (pd_ix (pd_var 0) pd_int) (pd_bin od_mul pd_int (pd_ix (pd_var 0) pd_int))) pda_nil)) pd_int) (pd_bin od_add (pd_bin od_pow pd_int pd_int) pd_int)))
    (pds_cons (pd_set 3 sc_law_pick.nd (pd_bin od_mod (pd_bin od_pow (pd_bltTy cd_int T.b_int (by decide +kernel) (pda_cons (pd_bin od_add (pd_var 3) (pd_bin od_mul (pd_bin od_mul pd_int (pd_ix (pd_var 0) pd_int)) (pd_ix (pd_var 0) pd_int))) pda_nil)) pd_int) (pd_bin od_add (pd_bin od_pow pd_int pd_int) pd_int)))
    (pds_one (pd_ret (pd_bin od_mod (pd_bltTy cd_int T.b_int (by decide +kernel) (pda_cons (pd_bin od_fdiv (pd_var 3) pd_int) pda_nil)) (pd_var 1)))))))), fun ds S Q h => ?_⟩)
  · obtain ⟨_, _, _, rfl, _⟩ := h
    rfl
  · obtain ⟨a, u, c, rfl, ⟨w0, w1, w2, e, h1, h2, h3, h4⟩, h5, h6, h7, h⟩ := h
    walk_at "w"
    refine ⟨_, _, .inl ⟨a, rfl, e⟩, rfl, ?_⟩
    walk_at "w"
    refine IFB.p (fun c1 => ?_) (fun c1 => ?_)
    · walk_at "w"
      refine ⟨_, _, .inl ⟨a, rfl, e⟩, rfl, ?_⟩
      walk_at "w"
      refine ⟨h6, ?_⟩
      walk_at "w"
      refine ⟨_, _, .inl ⟨a, rfl, e⟩, rfl, ?_⟩
      walk_at "w"
      refine ⟨div_s h6 (Int.lt_trans h7 (by decide)), ?_⟩
      walk_at "w"
      refine ⟨_, 0, e, rfl, ?_⟩
      walk_at "w"
      exact h _ _ (Int.emod_nonneg _ (by omega)) (Int.emod_lt_of_pos _ h6) ⟨_, _, _, sup_same, h1, h2, h3, by omega⟩ (fun b hb => sup_ne hb)
    · walk_at "w"
      refine ⟨_, _, .inl ⟨a, rfl, e⟩, rfl, ?_⟩
      walk_at "w"
      refine ⟨_, 2, e, rfl, ?_⟩
      have e1 : DL.sup S a (.lst (List.set [.int w0, .int w1, .int w2] 2 (.int (w2 + 1)))) a = some (.lst [.int w0, .int w1, .int (w2 + 1)]) := sup_same
      have f1 : ∀ b, b ≠ a → DL.sup S a (.lst (List.set [.int w0, .int w1, .int w2] 2 (.int (w2 + 1)))) b = S b := fun b hb => sup_ne hb
      walk_at "w"
      generalize DL.sup S a _ = S1 at *
      refine ⟨_, _, .inl ⟨a, rfl, e1⟩, rfl, ?_⟩
      walk_at "w"
      refine ⟨_, _, .inl ⟨a, rfl, e1⟩, rfl, ?_⟩
      walk_at "w"
      refine ⟨small_l (by decide) (by decide), ?_⟩
      have p2 : (2 : Nat) ^ 200 > 10 ^ 59 := by decide
      walk_at "w"
      refine ⟨bits_mul (by omega) (by decide) (by decide), ?_⟩
      walk_at "w"
      refine ⟨by decide, ?_⟩
      walk_at "w"
      refine ⟨by decide, ?_⟩
      generalize hm : (w1 + _ * (w2 + 1)) ^ _ % _ = mx
      have hx0 : 0 ≤ mx := by rw [← hm]; exact Int.emod_nonneg _ (by decide)
      have hx1 : mx < 10 ^ 30 := by rw [← hm]; exact Int.lt_of_lt_of_le (Int.emod_lt_of_pos _ (by decide)) (by decide)
      clear hm
      walk_at "w"
      refine ⟨_, _, .inl ⟨a, rfl, e1⟩, rfl, ?_⟩
      walk_at "w"
      refine ⟨small_l (by decide) (by decide), ?_⟩
      walk_at "w"
      refine ⟨_, _, .inl ⟨a, rfl, e1⟩, rfl, ?_⟩
      walk_at "w"
      refine ⟨small_r (by omega) (by omega), ?_⟩
      have q0 : 0 ≤ 15485863 * (w2 + 1) * (w2 + 1) := Int.mul_nonneg (by omega) (by omega)
      have q1 : 15485863 * (w2 + 1) * (w2 + 1) ≤ (15485863 * 1000001) * 1000001 := Int.mul_le_mul (by omega) (by omega) (by omega) (by decide)
      walk_at "w"
      generalize hy : 15485863 * (w2 + 1) * (w2 + 1) = yy at *
      refine ⟨bits_mul (by omega) (by decide) (by decide), ?_⟩
      walk_at "w"
      refine ⟨by decide, ?_⟩
      walk_at "w"
      refine ⟨by decide, ?_⟩
      walk_at "w"
      refine ⟨div_s (by decide) (by decide), ?_⟩
      walk_at "w"
      refine ⟨h6, ?_⟩
      walk_at "w"
      exact h _ _ (Int.emod_nonneg _ (by omega)) (Int.emod_lt_of_pos _ h6) ⟨_, _, _, e1, h1, h2, by omega, by omega⟩ f1

theorem ok_law_low {P : Program} {w : World} {K : PySem.W.Frag} {mg : Str → Option Value} {base : Heap} (T : Txt K mg) : FnOk P w K mg base (L2.CX P w) 1 T.a_law_low T.fd_law_low ["top", "bottom"] (toSp K sp_law_low) := by
  refine fnD T.F_law_low sc_law_low (fun ds S Q E h => ?_) (fun cdv A outer s H E RX hr => ⟨_, (pds_cons (pd_par 2 3 rfl sc_law_low.nd (pda_cons (pd_blt cd_abs T.b_abs (by decide +kernel) (pda_cons (pd_var 0) pda_nil)) (pda_cons (pd_var 1) pda_nil)) rfl)
    (pds_cons (pd_while (passes_of rfl) (pdt_cmp (od_ne hr.units) (pd_var 3) pd_int) (pds_one (pd_par 2 3 rfl sc_law_low.nd (pda_cons (pd_var 3) (pda_cons (pd_bin od_mod (pd_bltTy cd_int T.b_int (by decide +kernel) (pda_cons (pd_var 2) pda_nil)) (pd_var 3)) pda_nil)) rfl)))
    (pds_one (pd_ret (pd_tup (pda_cons (pd_bin od_fdiv (pd_var 0) (pd_var 2)) (pda_cons (pd_bin od_fdiv (pd_var 1) (pd_var 2)) pda_nil))))))), fun ds S Q h => ?_⟩)
  · obtain ⟨_, _, rfl, _⟩ := h
    rfl
  · obtain ⟨t, b, rfl, h0, hb, h⟩ := h
    obtain ⟨b, rfl⟩ := Int.eq_ofNat_of_zero_le (show 0 ≤ b by omega)
    walk_at "w"
    rw [abs_nat]
    refine ⟨fun m ρ' S' => S' = S ∧ ∃ x : Nat, ρ' = [some (.int t), some (.int (b : Int)), some (.int (x : Int)), some (.int (m : Int))] ∧ Nat.gcd x m = Nat.gcd t.natAbs b, ⟨b, rfl, t.natAbs, rfl, rfl⟩, ?_⟩
    rintro m _ _ ⟨rfl, x, rfl, hg⟩
    walk_at "w"
    refine IFB.np (fun c1 => ?_) (fun c1 => ?_)
    · walk_at "w"
      refine ⟨by omega, ?_⟩
      walk_at "w"
      exact ⟨x % m, Nat.mod_lt _ (by omega), rfl, m, rfl, by rw [Nat.gcd_comm, ← Nat.gcd_rec, Nat.gcd_comm]; exact hg⟩
    · have e : m = 0 := by omega
      subst e
      rw [Nat.gcd_zero_right] at hg
      subst hg
      have e2 : Nat.gcd t.natAbs b = Nat.gcd t.natAbs (b : Int).natAbs := by rw [Int.natAbs_natCast]
      rw [e2]
      walk_at "w"
      refine ⟨gcd_w h0 hb (by decide) (by decide) _, ?_⟩
      walk_at "w"
      refine ⟨gcd_w h0 hb (by decide) (by decide) _, ?_⟩
      walk_at "w"
      rw [low_fr h0]
      exact h

theorem ok_law_plus {P : Program} {w : World} {K : PySem.W.Frag} {mg : Str → Option Value} {base : Heap} (T : Txt K mg) : FnOk P w K mg base (L2.CX P w) 2 T.a_law_plus T.fd_law_plus ["one", "other"] (toSp K sp_law_plus) := by
  refine fnD T.F_law_plus sc_law_plus (fun ds S Q E h => ?_) (fun cdv A outer s H E RX hr => ⟨_, (pds_one (pd_ret (pd_call (takes_of rfl rfl rfl rfl) (ok_law_low T) (hr.mono (by decide)) T.m_law_low T.F_law_low.kp T.d_law_low (pda_cons (pd_bin od_add (pd_bin od_mul (pd_ix (pd_var 0) pd_int) (pd_ix (pd_var 1) pd_int)) (pd_bin od_mul (pd_ix (pd_var 1) pd_int) (pd_ix (pd_var 0) pd_int))) (pda_cons (pd_bin od_mul (pd_ix (pd_var 0) pd_int) (pd_ix (pd_var 1) pd_int)) pda_nil))))), fun ds S Q h => ?_⟩)
  · obtain ⟨_, _, _, _, rfl, _⟩ := h
    rfl
  · obtain ⟨a, b, c, d, rfl, b0, d0, ha, hb, hc, hd, h⟩ := h
    walk_at "w"
    refine ⟨_, rfl, ?_⟩
    walk_at "w"
    refine ⟨_, rfl, ?_⟩
    walk_at "w"
    refine ⟨.inl (wide_mul ha hd (by decide) (by decide) (by decide)), ?_⟩
    walk_at "w"
    refine ⟨_, rfl, ?_⟩
    walk_at "w"
    refine ⟨_, rfl, ?_⟩
    walk_at "w"
    refine ⟨.inl (wide_mul hc hb (by decide) (by decide) (by decide)), ?_⟩
    walk_at "w"
    refine ⟨_, rfl, ?_⟩
    walk_at "w"
    refine ⟨_, rfl, ?_⟩
    walk_at "w"
    refine ⟨.inl (wide_mul hb hd (by decide) (by decide) (by decide)), ?_⟩
    walk_at "w"
    exact ⟨_, _, rfl, Int.mul_pos b0 d0, lt_up (wide_lt hb hd) (by decide), h⟩

theorem ok_law_times {P : Program} {w : World} {K : PySem.W.Frag} {mg : Str → Option Value} {base : Heap} (T : Txt K mg) : FnOk P w K mg base (L2.CX P w) 2 T.a_law_times T.fd_law_times ["one", "other"] (toSp K sp_law_times) := by
  refine fnD T.F_law_times sc_law_times (fun ds S Q E h => ?_) (fun cdv A outer s H E RX hr => ⟨_, (pds_one (pd_ret (pd_call (takes_of rfl rfl rfl rfl) (ok_law_low T) (hr.mono (by decide)) T.m_law_low T.F_law_low.kp T.d_law_low (pda_cons (pd_bin od_mul (pd_ix (pd_var 0) pd_int) (pd_ix (pd_var 1) pd_int)) (pda_cons (pd_bin od_mul (pd_ix (pd_var 0) pd_int) (pd_ix (pd_var 1) pd_int)) pda_nil))))), fun ds S Q h => ?_⟩)
  · obtain ⟨_, _, _, _, rfl, _⟩ := h
    rfl
  · obtain ⟨a, b, c, d, rfl, b0, d0, ha, hb, hc, hd, h⟩ := h
    walk_at "w"
    refine ⟨_, rfl, ?_⟩
    walk_at "w"
    refine ⟨_, rfl, ?_⟩
    walk_at "w"
    refine ⟨.inl (wide_mul ha hc (by decide) (by decide) (by decide)), ?_⟩
    walk_at "w"
    refine ⟨_, rfl, ?_⟩
    walk_at "w"
    refine ⟨_, rfl, ?_⟩
    walk_at "w"
    refine ⟨.inl (wide_mul hb hd (by decide) (by decide) (by decide)), ?_⟩
    walk_at "w"
    exact ⟨_, _, rfl, Int.mul_pos b0 d0, lt_up (wide_lt hb hd) (by decide), h⟩
theorem rec_law_alike {P : Program} {w : World} {K : PySem.W.Frag} {mg : Str → Option Value} {base : Heap} (T : Txt K mg) (n : Nat) : FnOk P w K mg base (L2.CX P w) n T.a_law_alike T.fd_law_alike ["thing", "due"] (toSp K (sp_same n)) := by
  induction n with
  | zero => exact fnok0.imp fun vs H Q E ⟨_, _, _, _, _, _, ⟨_, _, _, h, _⟩, _⟩ => h.elim
  | succ n ih =>
    refine fnE (k := n) (sp := sp_same (n + 1)) T.F_law_alike sc_law_alike (fun ds S Q E h => ?_) (fun cdv A outer s H E RX hr => ⟨_, (pds_cons (pd_ifS (pdt_cmp od_is (pd_var 1) pd_non) (pds_one (pd_ret (pd_cmp od_is (pd_var 0) pd_non))) pds_nil)
      (pds_cons (pd_ifS (pdt_tru (pd_isi1 .bool (pd_var 1) T.b_isinstance T.b_bool)) (pds_one (pd_ret (pd_and (pd_isi1 .bool (pd_var 0) T.b_isinstance T.b_bool) (pd_one (pd_cmp (od_eq hr.units) (pd_var 0) (pd_var 1)))))) pds_nil)
      (pds_cons (pd_ifS (pdt_tru (pd_isi1 .int (pd_var 1) T.b_isinstance T.b_int)) (pds_one (pd_ret (pd_and (pd_isi1 .int (pd_var 0) T.b_isinstance T.b_int) (pd_and (pd_not (pd_isi1 .bool (pd_var 0) T.b_isinstance T.b_bool)) (pd_one (pd_cmp (od_eq hr.units) (pd_var 0) (pd_var 1))))))) pds_nil)
      (pds_cons (pd_ifS (pdt_tru (pd_isi1 .str (pd_var 1) T.b_isinstance T.b_str)) (pds_one (pd_ret (pd_and (pd_isi1 .str (pd_var 0) T.b_isinstance T.b_str) (pd_one (pd_cmp (od_eq hr.units) (pd_var 0) (pd_var 1)))))) pds_nil)
      (pds_cons (pd_ifS (PDW.pt (pdw_or (PDW.pt (pdw_and (pdt_tru (pd_isi1 .tup (pd_var 1) T.b_isinstance T.b_tuple)) (pdw_and1 (pdt_not (pdt_tru (pd_isi1 .tup (pd_var 0) T.b_isinstance T.b_tuple)))))) (pdw_or1 (PDW.pt (pdw_and (pdt_tru (pd_isi1 .lst (pd_var 1) T.b_isinstance T.b_list)) (pdw_and1 (pdt_not (pdt_tru (pd_isi1 .lst (pd_var 0) T.b_isinstance T.b_list))))))))) (pds_one (pd_ret pd_bl)) pds_nil)
      (pds_one (pd_ret (pd_and (pd_cmp (od_eq hr.units) (pd_blt cd_len T.b_len (by decide +kernel) (pda_cons (pd_var 0) pda_nil)) (pd_blt cd_len T.b_len (by decide +kernel) (pda_cons (pd_var 1) pda_nil))) (pd_one (pd_blt (cd_all rfl) T.b_all (by decide +kernel) (pda_cons (pd_lc (own := [("one", 2), ("other", 3)]) (p := .t [.n 2, .n 3]) rfl sc_law_alike.nd (pdi_zipA T.b_zip (pda_cons (pd_var 0) (pda_cons (pd_var 1) pda_nil))) (blkOk_by (N := ["thing", "due", "one", "other"]) (sc := defScope s_law_alike) (own := [("one", 2), ("other", 3)]) (by decide +kernel)) (fun _ _ _ _ _ => (pg_tup rfl (pgs_cons (pg_name (i := 2) sc_law_alike.nd rfl (by first | exact Or.inl rfl | exact Or.inr rfl)) (pgs_cons (pg_name (i := 3) sc_law_alike.nd rfl (by first | exact Or.inl rfl | exact Or.inr rfl)) pgs_nil)))) (fun _ _ _ _ _ => pdts_nil) (fun _ _ _ _ _ => (pd_call takes0 ih hr T.m_law_alike T.F_law_alike.kp T.d_law_alike (pda_cons (pd_var 2) (pda_cons (pd_var 3) pda_nil))))) pda_nil))))))))))), fun ds S Q h => ?_⟩)
    · obtain ⟨_, _, rfl, _⟩ := h
      rfl
    · skip
      obtain ⟨told, due, rfl, hs, h⟩ := h
      generalize hal : rCl dAll _ = al
      cases due with
      | non => cases (show told = .non from hs); walk_at "g"; exact ⟨S, Ext.refl _, h⟩
      | bl b => cases (show told = .bl b from hs); walk_at "g"; rw [decide_eq_true rfl]; exact ⟨S, Ext.refl _, h⟩
      | str b => cases (show told = .str b from hs); walk_at "g"; rw [decide_eq_true rfl]; exact ⟨S, Ext.refl _, h⟩
      | int b => cases (show told = .int b from hs); walk_at "g"; rw [decide_eq_true rfl]; exact ⟨S, Ext.refl _, h⟩
      | tup xs =>
        obtain ⟨ys, rfl, hl, hb, hq⟩ := (show ∃ ys, told = .tup ys ∧ ys.length = xs.length ∧ xs.length < 1000000 ∧ ∀ (i : Nat) y x, ys[i]? = some y → xs[i]? = some x → sameD S n y x from hs)
        walk_at "g"
        refine IFB.t (decide_eq_true (by omega)) ?_
        subst hal
        walk_at "w"
        refine lc_xsm (fun _ => D.bl true) (fun _ _ => trivial) ?_ ?_
        · rintro i z acc S2 hi w2
          obtain ⟨y, x, hy, hx, rfl⟩ := zp_at hi
          walk_at "w"
          refine IFB.t rfl ?_
          walk_at "w"
          refine ⟨y, x, rfl, (hq i y x hy hx).ext w2.2.2, ?_⟩
          exact lc_leafL hi w2 (by have := zp_len (xs := ys) (zs := xs); show _ ≤ 16777216; omega) rfl (Ext.refl _)
        · rintro S2 v ex2 hv
          walk_at "w"
          refine ⟨(zpD ys xs).map fun _ => true, .inl ⟨v, rfl, by rw [sup_same, List.map_map]; rfl⟩, ?_⟩
          rw [show ((zpD ys xs).map fun _ => true).all id = true by simp]
          exact ⟨S, ex2.trans (Ext.new hv _), h⟩
      | fro xs =>
        obtain ⟨xs', ys, hx, hy, hl, hb, hq⟩ := (show ∃ xs' ys, RdL S (.fro xs) xs' ∧ RdL S told ys ∧ ys.length = xs'.length ∧ xs'.length < 1000000 ∧ ∀ (i : Nat) y x, ys[i]? = some y → xs'[i]? = some x → sameD S n y x from hs)
        rcases hx with ⟨_, hx, _⟩ | hx
        · cases hx
        · cases hx
          rcases hy with ⟨b, rfl, ey⟩ | rfl
          · walk_at "g"
            repeat (refine .inl ⟨ys, ey, ?_⟩; walk_at "g")
            refine ⟨ys, .inl ⟨b, rfl, ey⟩, ?_⟩
            walk_at "g"
            refine ⟨xs, .inr rfl, ?_⟩
            walk_at "g"
            refine IFB.t (decide_eq_true (by omega)) ?_
            subst hal
            walk_at "w"
            refine ⟨ys, xs, .inl ⟨b, rfl, ey⟩, .inr rfl, ?_⟩
            refine lc_xsm (fun _ => D.bl true) (fun S' x => ⟨.inl ⟨b, rfl, x _ _ ey⟩, .inr rfl⟩) ?_ ?_
            · rintro i z acc S2 hi w2
              obtain ⟨y, x, hy, hx, rfl⟩ := zp_at hi
              walk_at "w"
              refine IFB.t rfl ?_
              walk_at "w"
              refine ⟨y, x, rfl, (hq i y x hy hx).ext w2.2.2, ?_⟩
              exact lc_leafL hi w2 (by have := zp_len (xs := ys) (zs := xs); show _ ≤ 16777216; omega) rfl (Ext.refl _)
            · rintro S2 v ex2 hv
              walk_at "w"
              refine ⟨(zpD ys xs).map fun _ => true, .inl ⟨v, rfl, by rw [sup_same, List.map_map]; rfl⟩, ?_⟩
              rw [show ((zpD ys xs).map fun _ => true).all id = true by simp]
              exact ⟨S, ex2.trans (Ext.new hv _), h⟩
          · walk_at "g"
            refine ⟨ys, .inr rfl, ?_⟩
            walk_at "g"
            refine ⟨xs, .inr rfl, ?_⟩
            walk_at "g"
            refine IFB.t (decide_eq_true (by omega)) ?_
            subst hal
            walk_at "w"
            refine ⟨ys, xs, .inr rfl, .inr rfl, ?_⟩
            refine lc_xsm (fun _ => D.bl true) (fun S' x => ⟨.inr rfl, .inr rfl⟩) ?_ ?_
            · rintro i z acc S2 hi w2
              obtain ⟨y, x, hy, hx, rfl⟩ := zp_at hi
              walk_at "w"
              refine IFB.t rfl ?_
              walk_at "w"
              refine ⟨y, x, rfl, (hq i y x hy hx).ext w2.2.2, ?_⟩
              exact lc_leafL hi w2 (by have := zp_len (xs := ys) (zs := xs); show _ ≤ 16777216; omega) rfl (Ext.refl _)
            · rintro S2 v ex2 hv
              walk_at "w"
              refine ⟨(zpD ys xs).map fun _ => true, .inl ⟨v, rfl, by rw [sup_same, List.map_map]; rfl⟩, ?_⟩
              rw [show ((zpD ys xs).map fun _ => true).all id = true by simp]
              exact ⟨S, ex2.trans (Ext.new hv _), h⟩
      | ref a =>
        obtain ⟨xs, ys, hx, hy, hl, hb, hq⟩ := (show ∃ xs ys, RdL S (.ref a) xs ∧ RdL S told ys ∧ ys.length = xs.length ∧ xs.length < 1000000 ∧ ∀ (i : Nat) y x, ys[i]? = some y → xs[i]? = some x → sameD S n y x from hs)
        rcases hx with ⟨_, e, ex⟩ | hx
        · cases e
          rcases hy with ⟨b, rfl, ey⟩ | rfl
          · walk_at "g"
            repeat (first | (refine .inl ⟨xs, ex, ?_⟩; walk_at "g") | (refine .inl ⟨ys, ey, ?_⟩; walk_at "g"))
            refine ⟨ys, .inl ⟨b, rfl, ey⟩, ?_⟩
            walk_at "g"
            refine ⟨xs, .inl ⟨_, rfl, ex⟩, ?_⟩
            walk_at "g"
            refine IFB.t (decide_eq_true (by omega)) ?_
            subst hal
            walk_at "w"
            refine ⟨ys, xs, .inl ⟨b, rfl, ey⟩, .inl ⟨_, rfl, ex⟩, ?_⟩
            refine lc_xsm (fun _ => D.bl true) (fun S' x => ⟨.inl ⟨b, rfl, x _ _ ey⟩, .inl ⟨_, rfl, x _ _ ex⟩⟩) ?_ ?_
            · rintro i z acc S2 hi w2
              obtain ⟨y, x, hy, hx, rfl⟩ := zp_at hi
              walk_at "w"
              refine IFB.t rfl ?_
              walk_at "w"
              refine ⟨y, x, rfl, (hq i y x hy hx).ext w2.2.2, ?_⟩
              exact lc_leafL hi w2 (by have := zp_len (xs := ys) (zs := xs); show _ ≤ 16777216; omega) rfl (Ext.refl _)
            · rintro S2 v ex2 hv
              walk_at "w"
              refine ⟨(zpD ys xs).map fun _ => true, .inl ⟨v, rfl, by rw [sup_same, List.map_map]; rfl⟩, ?_⟩
              rw [show ((zpD ys xs).map fun _ => true).all id = true by simp]
              exact ⟨S, ex2.trans (Ext.new hv _), h⟩
          · walk_at "g"
            repeat (refine .inl ⟨xs, ex, ?_⟩; walk_at "g")
            refine ⟨ys, .inr rfl, ?_⟩
            walk_at "g"
            refine ⟨xs, .inl ⟨_, rfl, ex⟩, ?_⟩
            walk_at "g"
            refine IFB.t (decide_eq_true (by omega)) ?_
            subst hal
            walk_at "w"
            refine ⟨ys, xs, .inr rfl, .inl ⟨_, rfl, ex⟩, ?_⟩
            refine lc_xsm (fun _ => D.bl true) (fun S' x => ⟨.inr rfl, .inl ⟨_, rfl, x _ _ ex⟩⟩) ?_ ?_
            · rintro i z acc S2 hi w2
              obtain ⟨y, x, hy, hx, rfl⟩ := zp_at hi
              walk_at "w"
              refine IFB.t rfl ?_
              walk_at "w"
              refine ⟨y, x, rfl, (hq i y x hy hx).ext w2.2.2, ?_⟩
              exact lc_leafL hi w2 (by have := zp_len (xs := ys) (zs := xs); show _ ≤ 16777216; omega) rfl (Ext.refl _)
            · rintro S2 v ex2 hv
              walk_at "w"
              refine ⟨(zpD ys xs).map fun _ => true, .inl ⟨v, rfl, by rw [sup_same, List.map_map]; rfl⟩, ?_⟩
              rw [show ((zpD ys xs).map fun _ => true).all id = true by simp]
              exact ⟨S, ex2.trans (Ext.new hv _), h⟩
        · cases hx
      | ty _ => obtain ⟨_, _, hx, _⟩ := (show ∃ xs ys, RdL S _ xs ∧ RdL S told ys ∧ _ from hs); rcases hx with ⟨_, hx, _⟩ | hx <;> cases hx
      | exc _ _ => obtain ⟨_, _, hx, _⟩ := (show ∃ xs ys, RdL S _ xs ∧ RdL S told ys ∧ _ from hs); rcases hx with ⟨_, hx, _⟩ | hx <;> cases hx
def sp_law_alike : DSp := sp_same 5
theorem ok_law_alike {P : Program} {w : World} {K : PySem.W.Frag} {mg : Str → Option Value} {base : Heap} (T : Txt K mg) : FnOk P w K mg base (L2.CX P w) 5 T.a_law_alike T.fd_law_alike ["thing", "due"] (toSp K sp_law_alike) := rec_law_alike T 5
end K25
set_option Elab.async false
set_option linter.all false
set_option maxRecDepth 100000
set_option maxHeartbeats 4000000
namespace K25
open PySem PySem.Spec PyProof.Rows L2 DL
local macro_rules | `(tactic| walk_at "w") => `(tactic| conv => whnf)
local macro_rules | `(tactic| walk_at "g") => `(tactic| ((conv => whnf); repeat' (first | (refine IFB.t ?_ ?_; rfl; conv => whnf) | (refine IFB.f ?_ ?_; rfl; conv => whnf))))
theorem ok_law_shares {P : Program} {w : World} {K : PySem.W.Frag} {mg : Str → Option Value} {base : Heap} (T : Txt K mg) : FnOk P w K mg base (L2.CX P w) 3 T.a_law_shares T.fd_law_shares ["stock", "most"] (toSp K sp_law_shares) := by
  refine fnE T.F_law_shares sc_law_shares (fun ds S Q E h => ?_) (fun cdv A outer s H E RX hr => ⟨_, (pds_cons (pd_set 2 sc_law_shares.nd (pd_lst (pda_cons (pd_tup (pda_cons pd_int (pda_cons pd_int pda_nil))) pda_nil)))
    (pds_cons (pd_for (passes_of rfl) rfl (pdi_range1 T.b_range (pda_cons (pd_bin od_mul pd_int (pd_call (takes_of rfl rfl rfl rfl) (ok_law_pick T) (hr.mono (by decide)) T.m_law_pick T.F_law_pick.kp T.d_law_pick (pda_cons (pd_var 0) (pda_cons (pd_var 1) pda_nil)))) pda_nil)) (pdg_name 3 sc_law_shares.nd) (pds_cons (pd_par 4 5 rfl sc_law_shares.nd (pda_cons (pd_call (takes_of rfl rfl rfl rfl) (ok_law_pick T) (hr.mono (by decide)) T.m_law_pick T.F_law_pick.kp T.d_law_pick (pda_cons (pd_var 0) (pda_cons (pd_blt cd_len T.b_len (by decide +kernel) (pda_cons (pd_var 2) pda_nil)) pda_nil))) (pda_cons (pd_bin od_add pd_int (pd_call (takes_of rfl rfl rfl rfl) (ok_law_pick T) (hr.mono (by decide)) T.m_law_pick T.F_law_pick.kp T.d_law_pick (pda_cons (pd_var 0) (pda_cons (pd_ix (pd_lst (pda_cons pd_int (pda_cons pd_int (pda_cons pd_int pda_nil)))) (pd_call (takes_of rfl rfl rfl rfl) (ok_law_pick T) (hr.mono (by decide)) T.m_law_pick T.F_law_pick.kp T.d_law_pick (pda_cons (pd_var 0) (pda_cons pd_int pda_nil)))) pda_nil)))) pda_nil)) rfl)
    (pds_cons (pd_set 6 sc_law_shares.nd (pd_call (takes_of rfl rfl rfl rfl) (ok_law_times T) (hr.mono (by decide)) T.m_law_times T.F_law_times.kp T.d_law_times (pda_cons (pd_ix (pd_var 2) (pd_var 4)) (pda_cons (pd_tup (pda_cons (pd_bin od_add pd_int (pd_call (takes_of rfl rfl rfl rfl) (ok_law_pick T) (hr.mono (by decide)) T.m_law_pick T.F_law_pick.kp T.d_law_pick (pda_cons (pd_var 0) (pda_cons (pd_bin od_sub (pd_var 5) pd_int) pda_nil)))) (pda_cons (pd_var 5) pda_nil))) pda_nil))))
    (pds_cons (pd_set 7 sc_law_shares.nd (pd_call (takes_of rfl rfl rfl rfl) (ok_law_plus T) (hr.mono (by decide)) T.m_law_plus T.F_law_plus.kp T.d_law_plus (pda_cons (pd_ix (pd_var 2) (pd_var 4)) (pda_cons (pd_tup (pda_cons (pd_bin od_sub pd_int (pd_ix (pd_var 6) pd_int)) (pda_cons (pd_ix (pd_var 6) pd_int) pda_nil))) pda_nil))))
    (pds_one (pd_ifS (PDW.pt (pdw_and (pdt_cmp od_lt (pd_blt cd_len T.b_len (by decide +kernel) (pda_cons (pd_var 2) pda_nil)) (pd_var 1)) (pdw_and (pdt_cmp od_gt (pd_ix (pd_var 7) pd_int) pd_int) (pdw_and1 (pdt_cmp od_lt (pd_blt (cd_max2 rfl) T.b_max (by decide +kernel) (pda_cons (pd_ix (pd_var 6) pd_int) (pda_cons (pd_ix (pd_var 7) pd_int) pda_nil))) pd_int))))) (pds_one (pd_set 2 sc_law_shares.nd (pd_bin od_add (pd_bin od_add (pd_slice (pd_var 2) pdo_none (pdo_some (pd_var 4))) (pd_lst (pda_cons (pd_var 6) (pda_cons (pd_var 7) pda_nil)))) (pd_slice (pd_var 2) (pdo_some (pd_bin od_add (pd_var 4) pd_int)) pdo_none)))) pds_nil))))))
    (pds_cons (pd_set 4 sc_law_shares.nd (pd_call (takes_of rfl rfl rfl rfl) (ok_law_pick T) (hr.mono (by decide)) T.m_law_pick T.F_law_pick.kp T.d_law_pick (pda_cons (pd_var 0) (pda_cons (pd_blt cd_len T.b_len (by decide +kernel) (pda_cons (pd_var 2) pda_nil)) pda_nil))))
    (pds_one (pd_ret (pd_bltTy cd_tuple T.b_tuple (by decide +kernel) (pda_cons (pd_bin od_add (pd_slice (pd_var 2) (pdo_some (pd_var 4)) pdo_none) (pd_slice (pd_var 2) pdo_none (pdo_some (pd_var 4)))) pda_nil))))))), fun ds S Q h => ?_⟩)
  · obtain ⟨_, _, _, rfl, _⟩ := h
    rfl
  · obtain ⟨a, m, c, rfl, hd, hc0, hc, hm1, hm, h⟩ := h
    walk_at "w"
    intro p0 hp0
    generalize hS0 : DL.sup S p0 _ = S0
    obtain ⟨e0v, y0, -⟩ := sup_of hS0
    have y0 := y0 hp0
    have hna0 := hd.ne hp0
    have hd0 := hd.ext y0
    have x0 : ExtB a S S0 := ExtB.ext y0
    clear hS0
    walk_at "w"
    refine ⟨a, (m : Int), c, rfl, hd0, by omega, by omega, by omega, ?_⟩
    rintro t S1 t0 t1 hd1 fr1
    walk_at "w"
    refine ⟨small_l (by decide) (by decide), ?_⟩
    walk_at "w"
    refine ⟨⟨by omega, by omega⟩, for_rg (fun i ρ' S' => ∃ p qs o1 o2 o3 o4 o5, ρ' = [some (.ref a), some (.int (m : Int)), some (.ref p), o1, o2, o3, o4, o5] ∧ p ≠ a ∧ S' p = some (.lst (qs.map fr)) ∧ PSh m qs ∧ StockD S' a (c + 1 + 4 * i) ∧ ExtB a S S') ⟨p0, [1], _, _, _, _, _, rfl, hna0, by rw [fr1 p0 hna0]; exact e0v, ⟨by simp, hm1, fun q hq => by cases List.mem_singleton.mp hq; exact ⟨by decide, by decide⟩, by rw [List.sum_cons, List.sum_nil, Rat.add_zero]⟩, hd1.mono (by omega), x0.trans (ExtB.of fr1)⟩ ?_ ?_⟩
    · rintro i _ S2 hi ⟨p, qs, o1, o2, o3, o4, o5, rfl, hpa, ep, hq, hd2, x2⟩
      have hql := hq.len
      have hq0 : 0 < qs.length := List.length_pos_iff.mpr hq.ne
      walk_at "w"
      refine ⟨_, .inl ⟨p, rfl, ep⟩, ?_⟩
      walk_at "w"
      refine ⟨a, _, _, rfl, hd2, by omega, by rw [List.length_map]; omega, by rw [List.length_map]; omega, ?_⟩
      rintro at_ S3 at0 at1 hd3 fr3
      rw [List.length_map] at at1
      obtain ⟨at_, rfl⟩ := Int.eq_ofNat_of_zero_le at0
      have x3 := x2.trans (ExtB.of fr3)
      have ep3 : S3 p = some (.lst (qs.map fr)) := by rw [fr3 p hpa]; exact ep
      have hqa : qs[at_]? = some qs[at_] := List.getElem?_eq_getElem (by omega)
      generalize qs[at_] = q at *
      walk_at "w"
      intro p4 hp4
      generalize h_p4 : DL.sup S3 p4 _ = S4
      obtain ⟨e4v, y4, z4⟩ := sup_of h_p4
      have y4 := y4 hp4
      have hna4 := hd3.ne hp4
      have hd4 := hd3.ext y4
      have x4 := x3.trans (ExtB.ext y4)
      clear h_p4
      walk_at "w"
      refine ⟨a, 3, _, rfl, hd4, by omega, by decide, by decide, ?_⟩
      rintro w3 S5 w30 w31 hd5 fr5
      have x5 := x4.trans (ExtB.of fr5)
      have e5v : S5 p4 = some (.lst [.int 3, .int 11, .int 59]) := by rw [fr5 p4 hna4]; exact e4v
      have ep5 : S5 p = some (.lst (qs.map fr)) := by rw [fr5 p hpa]; exact y4 _ _ ep3
      obtain ⟨wh, ewh, hwh⟩ : ∃ wh : Int, atI [D.int 3, .int 11, .int 59] w3 = some (.int wh) ∧ (wh = 3 ∨ wh = 11 ∨ wh = 59) := by
        obtain ⟨n, rfl⟩ := Int.eq_ofNat_of_zero_le w30
        have hn3 : n < 3 := by omega
        match n, hn3 with
        | 0, _ => exact ⟨3, rfl, .inl rfl⟩
        | 1, _ => exact ⟨11, rfl, .inr (.inl rfl)⟩
        | 2, _ => exact ⟨59, rfl, .inr (.inr rfl)⟩
      walk_at "w"
      refine ⟨_, _, .inl ⟨p4, rfl, e5v⟩, ewh, ?_⟩
      walk_at "w"
      refine ⟨a, wh, _, rfl, hd5, by omega, by omega, by omega, ?_⟩
      rintro v S6 v0 v1 hd6 fr6
      have x6 := x5.trans (ExtB.of fr6)
      have ep6 : S6 p = some (.lst (qs.map fr)) := by rw [fr6 p hpa]; exact ep5
      walk_at "w"
      refine ⟨_, _, .inl ⟨p, rfl, ep6⟩, atI_frs hqa, ?_⟩
      walk_at "w"
      refine ⟨a, _, _, rfl, hd6, by omega, by omega, by omega, ?_⟩
      rintro u S7 u0 u1 hd7 fr7
      have x7 := x6.trans (ExtB.of fr7)
      have ep7 : S7 p = some (.lst (qs.map fr)) := by rw [fr7 p hpa]; exact ep6
      obtain ⟨b1, b2, b3⟩ := hq.rb (List.mem_of_getElem? hqa)
      have b4 := den_pos' q
      have p64 : (2 : Nat) ^ 64 ≤ 2 ^ 3000 := Nat.pow_le_pow_right (by decide) (by decide)
      walk_at "w"
      refine ⟨q.num, (q.den : Int), 1 + u, 2 + v, rfl, b4, by omega, Nat.lt_of_lt_of_le (by omega) p64, Nat.lt_of_lt_of_le (by omega) p64, Nat.lt_of_lt_of_le (by omega) p64, Nat.lt_of_lt_of_le (by omega) p64, ?_⟩
      have eP : (((q.num * (1 + u) : Int) : Rat) / (((q.den : Int) * (2 + v) : Int) : Rat)) = q * (((1 + u : Int) : Rat) / ((2 + v : Int) : Rat)) := frac_mul q (show 0 < 2 + v by omega)
      have hpp : 0 < q * (((1 + u : Int) : Rat) / ((2 + v : Int) : Rat)) := Rat.mul_pos (hq.all q (List.mem_of_getElem? hqa)).1 (by rw [Rat.div_def]; exact Rat.mul_pos (ratPos (by omega)) (Rat.inv_pos.mpr (ratPos (by omega))))
      have hpb : RB 64 (((q.num * (1 + u) : Int) : Rat) / (((q.den : Int) * (2 + v) : Int) : Rat)) := by
        have m1 : q.num * (1 + u) ≤ 60 * 100 := Int.mul_le_mul (by omega) (by omega) (by omega) (by decide)
        have m0 : 0 < q.num * (1 + u) := Int.mul_pos b1 (by omega)
        have n1 : (q.den : Int) * (2 + v) ≤ 60 * 100 := Int.mul_le_mul (by omega) (by omega) (by omega) (by decide)
        have n0 : 0 < (q.den : Int) * (2 + v) := Int.mul_pos b4 (by omega)
        exact rb_div n0 (by omega) (by omega)
      rw [eP] at hpb ⊢
      generalize q * (((1 + u : Int) : Rat) / ((2 + v : Int) : Rat)) = pt at *
      walk_at "w"
      refine ⟨_, _, .inl ⟨p, rfl, ep7⟩, atI_frs hqa, ?_⟩
      walk_at "w"
      refine ⟨_, rfl, ?_⟩
      walk_at "w"
      refine ⟨_, rfl, ?_⟩
      obtain ⟨c1, c2⟩ := hpb
      have c3 := den_pos' pt
      walk_at "w"
      refine ⟨q.num, (q.den : Int), 0 - pt.num, (pt.den : Int), rfl, b4, c3, Nat.lt_of_lt_of_le (by omega) p64, Nat.lt_of_lt_of_le (by omega) p64, Nat.lt_of_lt_of_le (by omega) p64, Nat.lt_of_lt_of_le (by omega) p64, ?_⟩
      rw [frac_sub]
      have hsum : pt + (q - pt) = q := by grind
      generalize q - pt = rs at *
      walk_at "w"
      refine ⟨_, .inl ⟨p, rfl, ep7⟩, ?_⟩
      walk_at "w"
      rw [List.length_map]
      have keepW : ∀ o1 o2 o3 o4 o5, ∃ p' qs' o1' o2' o3' o4' o5', [some (D.ref a), some (.int (m : Int)), some (.ref p), o1, o2, o3, o4, o5] = [some (D.ref a), some (.int (m : Int)), some (.ref p'), o1', o2', o3', o4', o5'] ∧ p' ≠ a ∧ S7 p' = some (.lst (qs'.map fr)) ∧ PSh m qs' ∧ StockD S7 a (c + 1 + 4 * ((i + 1 : Nat) : Int)) ∧ ExtB a S S7 := fun o1 o2 o3 o4 o5 => ⟨p, qs, _, _, _, _, _, rfl, hpa, ep7, hq, hd7.mono (by omega), x7⟩
      refine IFB.p (fun k1 => ?_) (fun k1 => ?_)
      · walk_at "w"
        refine ⟨_, rfl, ?_⟩
        walk_at "w"
        refine IFB.p (fun k2 => ?_) (fun k2 => ?_)
        · walk_at "w"
          refine ⟨_, rfl, ?_⟩
          walk_at "w"
          refine ⟨_, rfl, ?_⟩
          walk_at "w"
          refine IFB.p (fun k3 => ?_) (fun k3 => ?_)
          · have hrs : 0 < rs := pos_of_num k2
            have k4 : pt.den ≤ 60 ∧ rs.den ≤ 60 := by
              split at k3 <;> omega
            walk_at "w"
            refine ⟨_, .inl ⟨p, rfl, ep7⟩, ?_⟩
            intro p8 hp8
            generalize h_p8 : DL.sup S7 p8 _ = S8
            obtain ⟨e8v, y8, z8⟩ := sup_of h_p8
            have y8 := y8 hp8
            have hna8 := hd7.ne hp8
            have hd8 := hd7.ext y8
            have x8 := x7.trans (ExtB.ext y8)
            clear h_p8
            have ep8 := y8 _ _ ep7
            walk_at "w"
            intro p9 hp9
            generalize h_p9 : DL.sup S8 p9 _ = S9
            obtain ⟨e9v, y9, z9⟩ := sup_of h_p9
            have y9 := y9 hp9
            have hna9 := hd8.ne hp9
            have hd9 := hd8.ext y9
            have x9 := x8.trans (ExtB.ext y9)
            clear h_p9
            have ep9 := y9 _ _ ep8
            walk_at "w"
            have hcl : (DL.cutD (qs.map fr) none (some (at_ : Int))).length ≤ qs.length := by
              rw [cut_to (by rw [List.length_map]; omega), List.length_take, List.length_map]
              omega
            refine ⟨_, _, y9 _ _ e8v, e9v, (by show _ + 2 ≤ 16777216; omega), ?_⟩
            intro p10 hp10
            generalize h_p10 : DL.sup S9 p10 _ = S10
            obtain ⟨e10v, y10, z10⟩ := sup_of h_p10
            have y10 := y10 hp10
            have hna10 := hd9.ne hp10
            have hd10 := hd9.ext y10
            have x10 := x9.trans (ExtB.ext y10)
            clear h_p10
            have ep10 := y10 _ _ ep9
            walk_at "w"
            refine ⟨_, .inl ⟨p, rfl, ep10⟩, ?_⟩
            intro p11 hp11
            generalize h_p11 : DL.sup S10 p11 _ = S11
            obtain ⟨e11v, y11, z11⟩ := sup_of h_p11
            have y11 := y11 hp11
            have hna11 := hd10.ne hp11
            have hd11 := hd10.ext y11
            have x11 := x10.trans (ExtB.ext y11)
            clear h_p11
            walk_at "w"
            rw [cut_to (by rw [List.length_map]; omega)] at e10v
            rw [show ((at_ : Int) + 1) = ((at_ + 1 : Nat) : Int) by omega, cut_from (by rw [List.length_map]; omega)] at e11v
            refine ⟨_, _, y11 _ _ e10v, e11v, by simp only [List.length_append, List.length_take, List.length_drop, List.length_map, List.length_cons, List.length_nil]; show _ ≤ 16777216; omega, ?_⟩
            intro p12 hp12
            generalize h_p12 : DL.sup S11 p12 _ = S12
            obtain ⟨e12v, y12, z12⟩ := sup_of h_p12
            have y12 := y12 hp12
            have hna12 := hd11.ne hp12
            have hd12 := hd11.ext y12
            have x12 := x11.trans (ExtB.ext y12)
            clear h_p12
            walk_at "w"
            refine ⟨p12, qs.take at_ ++ [pt, rs] ++ qs.drop (at_ + 1), _, _, _, _, _, rfl, hna12, by rw [e12v]; simp [List.map_take, List.map_drop], psh_part hq hqa hpp hrs hsum k4.1 k4.2 (by omega), hd12.mono (by omega), x12⟩
          · walk_at "g"
            exact keepW _ _ _ _ _
        · walk_at "g"
          exact keepW _ _ _ _ _
      · walk_at "g"
        exact keepW _ _ _ _ _
    · rintro _ S2 ⟨p, qs, o1, o2, o3, o4, o5, rfl, hpa, ep, hq, hd2, x2⟩
      have hql := hq.len
      have hq0 : 0 < qs.length := List.length_pos_iff.mpr hq.ne
      walk_at "w"
      refine ⟨_, .inl ⟨p, rfl, ep⟩, ?_⟩
      walk_at "w"
      refine ⟨a, _, _, rfl, hd2, by omega, by rw [List.length_map]; omega, by rw [List.length_map]; omega, ?_⟩
      rintro at_ S3 at0 at1 hd3 fr3
      rw [List.length_map] at at1
      obtain ⟨at_, rfl⟩ := Int.eq_ofNat_of_zero_le at0
      have x3 := x2.trans (ExtB.of fr3)
      have ep3 : S3 p = some (.lst (qs.map fr)) := by rw [fr3 p hpa]; exact ep
      walk_at "w"
      refine ⟨_, .inl ⟨p, rfl, ep3⟩, ?_⟩
      intro p4 hp4
      generalize h_p4 : DL.sup S3 p4 _ = S4
      obtain ⟨e4v, y4, z4⟩ := sup_of h_p4
      have y4 := y4 hp4
      have hna4 := hd3.ne hp4
      have hd4 := hd3.ext y4
      have x4 := x3.trans (ExtB.ext y4)
      clear h_p4
      have ep4 := y4 _ _ ep3
      walk_at "w"
      refine ⟨_, .inl ⟨p, rfl, ep4⟩, ?_⟩
      intro p8 hp8
      generalize h_p8 : DL.sup S4 p8 _ = S8
      obtain ⟨e8v, y8, z8⟩ := sup_of h_p8
      have y8 := y8 hp8
      have hna8 := hd4.ne hp8
      have hd8 := hd4.ext y8
      have x8 := x4.trans (ExtB.ext y8)
      clear h_p8
      walk_at "w"
      rw [cut_from (by rw [List.length_map]; omega)] at e4v
      rw [cut_to (by rw [List.length_map]; omega)] at e8v
      refine ⟨_, _, y8 _ _ e4v, e8v, by simp only [List.length_append, List.length_take, List.length_drop, List.length_map]; show _ ≤ 16777216; omega, ?_⟩
      intro p9 hp9
      generalize h_p9 : DL.sup S8 p9 _ = S9
      obtain ⟨e9v, y9, z9⟩ := sup_of h_p9
      have y9 := y9 hp9
      have hna9 := hd8.ne hp9
      have hd9 := hd8.ext y9
      have x9 := x8.trans (ExtB.ext y9)
      clear h_p9
      walk_at "w"
      refine ⟨_, .inl ⟨p9, rfl, e9v⟩, ?_⟩
      refine ⟨keepA a S S9, keepA_ext x9, ?_⟩
      have hqq := h (qs.drop at_ ++ qs.take at_) _ (psh_rot hq at_) (hd9.keep.mono (by omega)) keepA_ne
      have e : (qs.map fr).drop at_ ++ (qs.map fr).take at_ = (qs.drop at_ ++ qs.take at_).map fr := by rw [List.map_append, List.map_drop, List.map_take]
      rw [e]
      exact hqq
end K25
set_option Elab.async false
set_option linter.all false
set_option maxRecDepth 100000
set_option maxHeartbeats 4000000
namespace K25
open PySem PySem.Spec PyProof.Rows L2 DL
local macro_rules | `(tactic| walk_at "w") => `(tactic| conv => whnf)
local macro_rules | `(tactic| walk_at "g") => `(tactic| ((conv => whnf); repeat' (first | (refine IFB.t ?_ ?_; rfl; conv => whnf) | (refine IFB.f ?_ ?_; rfl; conv => whnf))))

/-- a comprehension over a range that keeps some, told by whether any is kept -/
def WE (c : Nat → Bool) (S : Sto) : Nat → List D → Sto → Prop := fun i acc S' => acc.length ≤ i ∧ acc.isEmpty = ((List.range i).all fun j => !c j) ∧ Ext S S'
theorem lc_rge {lo : Int} {n : Nat} {p : Pat} {tt : RT} {te : RE} {vs : List Nat} {ρ : Ro} {S : Sto} {G : Addr → Sto → List D → Prop} (c : Nat → Bool)
    (hs : ∀ (i : Nat) acc S', i < n → WE c S i acc S' → Pat.put p (.int (lo + (i : Int))) (dwipe ρ vs) fun ρ2 => tt ρ2 S' fun b S3 => IFB b (te ρ2 S3 fun d S4 => acc.length < sizeLine ∧ WE c S (i + 1) (acc ++ [d]) S4) (WE c S (i + 1) acc S3))
    (hd : ∀ S' q acc, Ext S S' → S' q = none → acc.isEmpty = ((List.range n).all fun j => !c j) → G q S' acc) :
    ∃ W : Nat → List D → Sto → Prop, W 0 [] S ∧ ∀ i acc S', W i acc S' → (fun (_ : Sto) => True) S' ∧
      (∀ x, (rgI lo n)[i]? = some x → Pat.put p x (dwipe ρ vs) fun ρ2 => tt ρ2 S' fun b S3 => IFB b (te ρ2 S3 fun d S4 => acc.length < sizeLine ∧ W (i + 1) (acc ++ [d]) S4) (W (i + 1) acc S3)) ∧
      (i = (rgI lo n).length → ∀ p, S' p = none → G p S' acc) := by
  refine ⟨WE c S, ⟨Nat.le_refl _, rfl, Ext.refl S⟩, fun i acc S' w => ⟨trivial, fun x hx => ?_, fun h q hq => ?_⟩⟩
  · obtain ⟨hi, rfl⟩ := rgI_inv hx
    exact hs i acc S' hi w
  · rw [rgI_len] at h
    subst h
    obtain ⟨_, e, x⟩ := w
    exact hd S' q acc x hq e
theorem we_t {c : Nat → Bool} {S S' S4 : Sto} {i : Nat} {acc : List D} {d : D} (w : WE c S i acc S') (hi : i < 16777216) (hc : c i = true) (x : Ext S' S4) : acc.length < sizeLine ∧ WE c S (i + 1) (acc ++ [d]) S4 := by
  obtain ⟨h1, h2, h3⟩ := w
  refine ⟨by show _ < 16777216; omega, by rw [List.length_append]; simp; omega, ?_, h3.trans x⟩
  rw [List.range_succ, List.all_append]
  simp [hc]
theorem we_f {c : Nat → Bool} {S S' S4 : Sto} {i : Nat} {acc : List D} (w : WE c S i acc S') (hc : c i = false) (x : Ext S' S4) : WE c S (i + 1) acc S4 := by
  obtain ⟨h1, h2, h3⟩ := w
  refine ⟨by omega, ?_, h3.trans x⟩
  rw [List.range_succ, List.all_append, h2]
  simp [hc]
/-- over items -/
def WX (xs : List D) (c : D → Bool) (S : Sto) : Nat → List D → Sto → Prop := fun i acc S' => acc.length ≤ i ∧ acc.isEmpty = ((xs.take i).all fun x => !c x) ∧ Ext S S'
theorem lc_xse {xs : List D} {src : Sto → Prop} {p : Pat} {tt : RT} {te : RE} {vs : List Nat} {ρ : Ro} {S : Sto} {G : Addr → Sto → List D → Prop} (c : D → Bool) (hq : ∀ S', Ext S S' → src S')
    (hs : ∀ (i : Nat) x acc S', xs[i]? = some x → WX xs c S i acc S' → Pat.put p x (dwipe ρ vs) fun ρ2 => tt ρ2 S' fun b S3 => IFB b (te ρ2 S3 fun d S4 => acc.length < sizeLine ∧ WX xs c S (i + 1) (acc ++ [d]) S4) (WX xs c S (i + 1) acc S3))
    (hd : ∀ S' q acc, Ext S S' → S' q = none → acc.isEmpty = (xs.all fun x => !c x) → G q S' acc) :
    ∃ W : Nat → List D → Sto → Prop, W 0 [] S ∧ ∀ i acc S', W i acc S' → src S' ∧
      (∀ x, xs[i]? = some x → Pat.put p x (dwipe ρ vs) fun ρ2 => tt ρ2 S' fun b S3 => IFB b (te ρ2 S3 fun d S4 => acc.length < sizeLine ∧ W (i + 1) (acc ++ [d]) S4) (W (i + 1) acc S3)) ∧
      (i = xs.length → ∀ p, S' p = none → G p S' acc) := by
  refine ⟨WX xs c S, ⟨Nat.le_refl _, by rw [List.take_zero]; rfl, Ext.refl S⟩, fun i acc S' w => ⟨hq S' w.2.2, fun x hx => hs i x acc S' hx w, fun h q hq => ?_⟩⟩
  subst h
  obtain ⟨_, e, x⟩ := w
  rw [List.take_length] at e
  exact hd S' q acc x hq e
theorem wx_t {xs : List D} {c : D → Bool} {S S' S4 : Sto} {i : Nat} {x : D} {acc : List D} {d : D} (hx : xs[i]? = some x) (w : WX xs c S i acc S') (hi : xs.length ≤ 16777216) (hc : c x = true) (e : Ext S' S4) : acc.length < sizeLine ∧ WX xs c S (i + 1) (acc ++ [d]) S4 := by
  obtain ⟨h1, h2, h3⟩ := w
  have := (List.getElem?_eq_some_iff.mp hx).1
  refine ⟨by show _ < 16777216; omega, by rw [List.length_append]; simp; omega, ?_, h3.trans e⟩
  rw [List.take_succ, hx, List.all_append]
  simp [hc]
theorem wx_f {xs : List D} {c : D → Bool} {S S' S4 : Sto} {i : Nat} {x : D} {acc : List D} (hx : xs[i]? = some x) (w : WX xs c S i acc S') (hc : c x = false) (e : Ext S' S4) : WX xs c S (i + 1) acc S4 := by
  obtain ⟨h1, h2, h3⟩ := w
  refine ⟨by omega, ?_, h3.trans e⟩
  rw [List.take_succ, hx, List.all_append, h2]
  simp [hc]
def sp_law_bottom : DSp := sp_joint_bottom
def sp_law_dice : DSp := fun ds S Q _ => ∃ (a : Addr) (c : Int), ds = [.ref a] ∧ StockD S a c ∧ 0 ≤ c ∧ c < 900000 ∧ ∀ ss S', DiceOk ss → StockD S' a (c + 30) → (∀ b, b ≠ a → S' b = S b) → Q (nats ss) S'
def sp_law_product : DSp := fun ds S Q _ => ∃ r : List Nat, ds = [nats r] ∧ (∀ s ∈ r, s ≤ 20) ∧ Q (.int ((prodN r : Nat) : Int)) S
def sp_law_is_bounded : DSp := sp_are_bounded
def sp_law_fewest : DSp := sp_fewest_dice
def sp_law_is_dice : DSp := sp_is_dice_told
theorem low_one (f : Nat) {b : Nat} (hb : 0 < b) : ((((f : Int) : Rat) / ((b : Int) : Rat)).den : Int) = ((b / Nat.gcd f b : Nat) : Int) := by
  rw [← low_den (t := (f : Int)) (b := (b : Int)) (by omega), Int.natAbs_natCast, Int.natAbs_natCast, Int.natCast_ediv]
theorem prodN_take {r : List Nat} {i s : Nat} (h : r[i]? = some s) : prodN (r.take (i + 1)) = prodN (r.take i) * s := by
  rw [List.take_succ, h, prodN_app]
  show _ * prodN [s] = _
  simp [prodN]
theorem nat_at {ss : List Nat} {i : Nat} {x : D} (h : (ss.map fun (s : Nat) => D.int (s : Int))[i]? = some x) : ∃ s, ss[i]? = some s ∧ x = .int (s : Int) := by
  rw [List.getElem?_map] at h
  cases e : ss[i]? with
  | none => rw [e] at h; cases h
  | some s => rw [e] at h; exact ⟨s, rfl, (Option.some.inj h).symm⟩
theorem prime_all {p : Nat} (h2 : 2 ≤ p) : ((List.range (p - 2)).all fun j => !decide ((p : Int) % (2 + (j : Int)) = 0)) = true ↔ primeB p := by
  rw [List.all_eq_true]
  constructor
  · intro h
    refine ⟨h2, fun d hd hp hdv => ?_⟩
    have := h (d - 2) (List.mem_range.mpr (by omega))
    rw [show (2 + ((d - 2 : Nat) : Int)) = (d : Int) by omega] at this
    have e : (p : Int) % (d : Int) = 0 := by
      have := Nat.mod_eq_zero_of_dvd hdv
      omega
    rw [decide_eq_true e] at this
    cases this
  · intro h j hj
    have hj := List.mem_range.mp hj
    rw [decide_eq_false (fun z => ?_)]
    · rfl
    · refine h.2 (2 + j) (by omega) (by omega) (Nat.dvd_of_mod_eq_zero ?_)
      rw [show (2 + (j : Int)) = ((2 + j : Nat) : Int) by omega] at z
      omega
def dvdD (p : Int) : D → Bool
  | .int s => decide (s % p = 0)
  | _ => false
theorem none_dvd {p : Nat} {ss : List Nat} : ((ss.map fun (s : Nat) => D.int (s : Int)).all fun x => !dvdD (p : Int) x) = true ↔ ¬ ∃ s ∈ ss, p ∣ s := by
  rw [List.all_map, List.all_eq_true]
  constructor
  · rintro h ⟨s, hs, hd⟩
    have := h s hs
    have e : (s : Int) % (p : Int) = 0 := by
      have := Nat.mod_eq_zero_of_dvd hd
      omega
    have e2 : dvdD (p : Int) (D.int (s : Int)) = true := decide_eq_true e
    have e3 : (!dvdD (p : Int) (D.int (s : Int))) = true := this
    rw [e2] at e3
    cases e3
  · intro h s hs
    have e2 : dvdD (p : Int) (D.int (s : Int)) = false := decide_eq_false fun z => h ⟨s, hs, Nat.dvd_of_mod_eq_zero (by omega)⟩
    show (!dvdD (p : Int) (D.int (s : Int))) = true
    rw [e2]
    rfl
theorem dvd_mod {n p : Nat} : decide ((n : Int) % (p : Int) = 0) = true ↔ p ∣ n := by
  rw [decide_eq_true_iff]
  constructor
  · intro h; exact Nat.dvd_of_mod_eq_zero (by omega)
  · intro h; have := Nat.mod_eq_zero_of_dvd h; omega
def notDie : D → Bool
  | .int i => decide (i < 2)
  | _ => true
theorem notDie_all (xs : List D) : (xs.all fun x => !notDie x) = (xs.map dieB).all id := by
  rw [List.all_map]
  congr 1
  funext x
  cases x <;> first | rfl | skip
  show (!decide (_ < 2)) = decide (1 < _)
  rw [← decide_not, decide_eq_decide]
  omega
theorem asc_all (is : List Int) : ((List.range ((is.length : Int) - 1).toNat).all fun j => !decide ((is[j]?.getD 0) ≥ (is[j + 1]?.getD 0))) = ascI is := by
  rw [Bool.eq_iff_iff, ascI_iff, List.all_eq_true]
  constructor
  · intro h j a b ha hb
    have hj := (List.getElem?_eq_some_iff.mp hb).1
    have := h j (List.mem_range.mpr (by omega))
    rw [ha, hb] at this
    have this : (!decide (a ≥ b)) = true := this
    rw [← decide_not] at this
    have := of_decide_eq_true this
    omega
  · intro h j hj
    have hj := List.mem_range.mp hj
    have ha : is[j]? = some is[j] := List.getElem?_eq_getElem (by omega)
    have hb : is[j + 1]? = some is[j + 1] := List.getElem?_eq_getElem (by omega)
    have := h j _ _ ha hb
    rw [ha, hb]
    show (!decide (_ ≥ _)) = true
    rw [← decide_not]
    exact decide_eq_true (by show ¬ _; simp only [Option.getD_some]; omega)
theorem ok_law_bottom {P : Program} {w : World} {K : PySem.W.Frag} {mg : Str → Option Value} {base : Heap} (T : Txt K mg) : FnOk P w K mg base (L2.CX P w) 2 T.a_law_bottom T.fd_law_bottom ["shares"] (toSp K sp_law_bottom) := by
  refine fnD T.F_law_bottom sc_law_bottom (fun ds S Q E h => ?_) (fun cdv A outer s H E RX hr => ⟨_, (pds_cons (pd_set 1 sc_law_bottom.nd pd_int)
    (pds_cons (pd_for (passes_of rfl) rfl (pdi_it (pd_var 0)) (pdg_tup rfl (pdgs_cons (pdg_name 2 sc_law_bottom.nd) (pdgs_cons (pdg_name 3 sc_law_bottom.nd) pdgs_nil))) (pds_one (pd_set 1 sc_law_bottom.nd (pd_bin od_mul (pd_var 1) (pd_ix (pd_call (takes_of rfl rfl rfl rfl) (ok_law_low T) (hr.mono (by decide)) T.m_law_low T.F_law_low.kp T.d_law_low (pda_cons (pd_var 1) (pda_cons (pd_var 3) pda_nil))) pd_int)))))
    (pds_one (pd_ret (pd_var 1))))), fun ds S Q h => ?_⟩)
  · obtain ⟨_, rfl, _⟩ := h
    rfl
  · obtain ⟨qs, rfl, hb, h⟩ := h
    walk_at "w"
    refine for_xs (fun i ρ' S' => S' = S ∧ ∃ o1 o2, ρ' = [some (shD qs), some (.int (((((denL qs).take i).foldl Nat.lcm 1 : Nat)) : Int)), o1, o2]) ⟨rfl, _, _, by rw [List.take_zero]; rfl⟩ (fun _ _ _ h => trivial) ?_ ?_
    · rintro i x _ _ hi ⟨rfl, o1, o2, rfl⟩
      obtain ⟨q, hq, rfl⟩ := fr_at hi
      have hp := take_pos hb i
      have hq6 := (hb.all q (List.mem_of_getElem? hq)).2
      have hq0 := q.den_pos
      walk_at "w"
      refine ⟨rfl, ?_⟩
      walk_at "w"
      refine ⟨_, _, rfl, by omega, by rw [Int.natAbs_natCast]; exact Nat.lt_of_le_of_lt hq6 (by decide), ?_⟩
      walk_at "w"
      refine ⟨_, rfl, ?_⟩
      walk_at "w"
      rw [low_one _ hq0]
      have hle : q.den / Nat.gcd (((denL qs).take i).foldl Nat.lcm 1) q.den ≤ q.den := Nat.div_le_self _ _
      have hlc := lcm_eq2 (n := q.den) hp
      generalize q.den / Nat.gcd (((denL qs).take i).foldl Nat.lcm 1) q.den = zz at *
      refine ⟨small_r (by omega) (by omega), ?_⟩
      walk_at "w"
      refine ⟨rfl, some (.int q.num), some (.int (q.den : Int)), ?_⟩
      rw [fold_take hq, ← hlc, Int.natCast_mul]
      rfl
    · rintro _ _ ⟨rfl, o1, o2, rfl⟩
      rw [List.length_map, List.take_of_length_le (by unfold K25.denL; rw [List.length_map]; omega)]
      walk_at "w"
      exact h

theorem ok_law_product {P : Program} {w : World} {K : PySem.W.Frag} {mg : Str → Option Value} {base : Heap} (T : Txt K mg) : FnOk P w K mg base (L2.CX P w) 1 T.a_law_product T.fd_law_product ["row"] (toSp K sp_law_product) := by
  refine fnD T.F_law_product sc_law_product (fun ds S Q E h => ?_) (fun cdv A outer s H E RX hr => ⟨_, (pds_cons (pd_set 1 sc_law_product.nd pd_int)
    (pds_cons (pd_for (passes_of rfl) rfl (pdi_it (pd_var 0)) (pdg_name 2 sc_law_product.nd) (pds_one (pd_set 1 sc_law_product.nd (pd_bin od_mul (pd_var 1) (pd_var 2)))))
    (pds_one (pd_ret (pd_var 1))))), fun ds S Q h => ?_⟩)
  · obtain ⟨_, rfl, _⟩ := h
    rfl
  · obtain ⟨r, rfl, h2, h⟩ := h
    walk_at "w"
    refine for_xs (fun i ρ' S' => S' = S ∧ ∃ o, ρ' = [some (nats r), some (.int ((prodN (r.take i) : Nat) : Int)), o]) ⟨rfl, _, by rw [List.take_zero]; rfl⟩ (fun _ _ _ h => trivial) ?_ ?_
    · rintro i x _ _ hi ⟨rfl, o, rfl⟩
      obtain ⟨s, hs, rfl⟩ := nat_at hi
      have := h2 s (List.mem_of_getElem? hs)
      walk_at "w"
      refine ⟨small_r (by omega) (by omega), ?_⟩
      walk_at "w"
      refine ⟨rfl, some (.int (s : Int)), ?_⟩
      rw [prodN_take hs, Int.natCast_mul]
      rfl
    · rintro _ _ ⟨rfl, o, rfl⟩
      rw [List.length_map, List.take_length]
      walk_at "w"
      exact h

theorem ok_law_is_bounded {P : Program} {w : World} {K : PySem.W.Frag} {mg : Str → Option Value} {base : Heap} (T : Txt K mg) : FnOk P w K mg base (L2.CX P w) 3 T.a_law_is_bounded T.fd_law_is_bounded ["shares", "dice"] (toSp K sp_law_is_bounded) := by
  refine fnE T.F_law_is_bounded sc_law_is_bounded (fun ds S Q E h => ?_) (fun cdv A outer s H E RX hr => ⟨_, (pds_cons (pd_set 2 sc_law_is_bounded.nd (pd_call (takes_of rfl rfl rfl rfl) (ok_law_bottom T) (hr.mono (by decide)) T.m_law_bottom T.F_law_bottom.kp T.d_law_bottom (pda_cons (pd_var 0) pda_nil)))
    (pds_cons (pd_for (passes_of rfl) rfl (pdi_range2 T.b_range (pda_cons pd_int (pda_cons pd_int pda_nil))) (pdg_name 3 sc_law_is_bounded.nd) (pds_one (pd_ifS (PDW.pt (pdw_and (pdt_cmp (od_eqE hr.units) (pd_lc (own := [("part", 4)]) (p := .n 4) rfl sc_law_is_bounded.nd (pdi_range2 T.b_range (pda_cons pd_int (pda_cons (pd_var 3) pda_nil))) (blkOk_by (N := ["shares", "dice", "bottom", "prime", "part", "sides"]) (sc := defScope s_law_is_bounded) (own := [("part", 4)]) (by decide +kernel)) (fun _ _ _ _ _ => (pg_name (i := 4) sc_law_is_bounded.nd rfl (by first | exact Or.inl rfl | exact Or.inr rfl))) (fun _ _ _ _ _ => (pdts_one (pdt_cmp (od_eq hr.units) (pd_bin od_mod (pd_bltTy cd_int T.b_int (by decide +kernel) (pda_cons (pd_var 3) pda_nil)) (pd_var 4)) pd_int))) (fun _ _ _ _ _ => (pd_var 4))) (pd_lst pda_nil)) (pdw_and1 (pdt_cmp (od_eq hr.units) (pd_bin od_mod (pd_bltTy cd_int T.b_int (by decide +kernel) (pda_cons (pd_var 2) pda_nil)) (pd_var 3)) pd_int)))) (pds_one (pd_ifS (pdt_cmp (od_eqE hr.units) (pd_lc (own := [("sides", 5)]) (p := .n 5) rfl sc_law_is_bounded.nd (pdi_it (pd_var 1)) (blkOk_by (N := ["shares", "dice", "bottom", "prime", "part", "sides"]) (sc := defScope s_law_is_bounded) (own := [("sides", 5)]) (by decide +kernel)) (fun _ _ _ _ _ => (pg_name (i := 5) sc_law_is_bounded.nd rfl (by first | exact Or.inl rfl | exact Or.inr rfl))) (fun _ _ _ _ _ => (pdts_one (pdt_cmp (od_eq hr.units) (pd_bin od_mod (pd_bltTy cd_int T.b_int (by decide +kernel) (pda_cons (pd_var 5) pda_nil)) (pd_var 3)) pd_int))) (fun _ _ _ _ _ => (pd_var 5))) (pd_lst pda_nil)) (pds_one (pd_ret pd_bl)) pds_nil)) pds_nil)))
    (pds_one (pd_ret pd_bl)))), fun ds S Q h => ?_⟩)
  · obtain ⟨_, _, rfl, _⟩ := h
    rfl
  · obtain ⟨qs, ss, rfl, hb, hd, h⟩ := h
    obtain ⟨n0, n36⟩ := hb.lt
    have hbi := bounded_iff (ss := ss) n0 (lcm60 hb.dens)
    have hl5 := hd.len
    walk_at "w"
    refine ⟨qs, rfl, hb, ?_⟩
    walk_at "w"
    generalize lcmN (denL qs) = n at *
    refine ⟨⟨by decide, by decide, by decide, by decide⟩, for_rg (fun i ρ' S' => Ext S S' ∧ (∀ p, primeB p → p < 2 + i → p ∣ n → ∃ s ∈ ss, p ∣ s) ∧ ∃ o1 o2 o3, ρ' = [some (shD qs), some (nats ss), some (.int ((n : Nat) : Int)), o1, o2, o3]) ⟨Ext.refl _, (fun p hp h2 => by have := hp.1; omega), _, _, _, rfl⟩ ?_ ?_⟩
    · rintro i _ S1 hi ⟨x1, hall, o1, o2, o3, rfl⟩
      have hi : i < 58 := hi
      have hnext : (primeB (2 + i) → (2 + i) ∣ n → ∃ s ∈ ss, (2 + i) ∣ s) → ∀ p, primeB p → p < 2 + (i + 1) → p ∣ n → ∃ s ∈ ss, p ∣ s := fun hh p hp h2 hdv => by
        rcases Nat.lt_or_ge p (2 + i) with z | z
        · exact hall p hp z hdv
        · have e : p = 2 + i := by omega
          subst e
          exact hh hp hdv
      walk_at "w"
      refine ⟨⟨by omega, by omega, by omega, by omega⟩, ?_⟩
      rw [show ((2 : Int) + (i : Int) - 2).toNat = (2 + i) - 2 by omega]
      refine lc_rge (fun j => decide (((2 + i : Nat) : Int) % (2 + (j : Int)) = 0)) ?_ ?_
      · rintro j acc S2 hj w2
        walk_at "w"
        refine ⟨by omega, ?_⟩
        walk_at "w"
        rw [show ((2 : Int) + (i : Int)) = ((2 + i : Nat) : Int) by omega]
        refine IFB.mk (fun c1 => ?_) (fun c1 => ?_)
        · walk_at "w"
          exact we_t w2 (by omega) c1 (Ext.refl _)
        · exact we_f w2 c1 (Ext.refl _)
      · rintro S2 v acc ex hv ha
        have x2 := (x1.trans ex).trans (Ext.new hv (.lst acc))
        have e2 : DL.sup S2 v (.lst acc) v = some (.lst acc) := sup_same
        generalize DL.sup S2 v (.lst acc) = S3 at *
        walk_at "w"
        intro p2 hp2
        have x3 := x2.trans (Ext.new hp2 (.lst []))
        have e3 := Ext.new hp2 (.lst []) _ _ e2
        have e4 : DL.sup S3 p2 (.lst []) p2 = some (.lst []) := sup_same
        generalize DL.sup S3 p2 (.lst []) = S4 at *
        walk_at "w"
        refine .inr ⟨_, .inl ⟨v, rfl, e3⟩, .inl ⟨p2, rfl, e4⟩, ?_⟩
        rw [if_neg (by decide), ha]
        refine IFB.mk (fun c1 => ?_) (fun c1 => ?_)
        · have hp := (prime_all (p := 2 + i) (by omega)).mp c1
          walk_at "w"
          refine ⟨by omega, ?_⟩
          walk_at "w"
          rw [show ((2 : Int) + (i : Int)) = ((2 + i : Nat) : Int) by omega]
          refine IFB.mk (fun c2 => ?_) (fun c2 => ?_)
          · have hdv := dvd_mod.mp c2
            walk_at "g"
            refine lc_xse (dvdD ((2 + i : Nat) : Int)) (fun _ _ => trivial) ?_ ?_
            · rintro j x acc S5 hj w5
              obtain ⟨s, hs, rfl⟩ := nat_at hj
              walk_at "w"
              refine ⟨by omega, ?_⟩
              walk_at "w"
              refine IFB.mk (fun c3 => ?_) (fun c3 => ?_)
              · walk_at "w"
                exact wx_t hj w5 (by rw [List.length_map]; omega) c3 (Ext.refl _)
              · exact wx_f hj w5 c3 (Ext.refl _)
            · rintro S5 v5 acc5 ex5 hv5 ha5
              have x5 := (x3.trans ex5).trans (Ext.new hv5 (.lst acc5))
              have e5 : DL.sup S5 v5 (.lst acc5) v5 = some (.lst acc5) := sup_same
              generalize DL.sup S5 v5 (.lst acc5) = S6 at *
              walk_at "w"
              intro p6 hp6
              have x6 := x5.trans (Ext.new hp6 (.lst []))
              have e6 := Ext.new hp6 (.lst []) _ _ e5
              have e7 : DL.sup S6 p6 (.lst []) p6 = some (.lst []) := sup_same
              generalize DL.sup S6 p6 (.lst []) = S7 at *
              walk_at "w"
              refine .inr ⟨_, .inl ⟨v5, rfl, e6⟩, .inl ⟨p6, rfl, e7⟩, ?_⟩
              rw [if_neg (by decide), ha5]
              refine IFB.mk (fun c3 => ?_) (fun c3 => ?_)
              · have hno := none_dvd.mp c3
                walk_at "w"
                exact ⟨S, x6, h false ⟨(fun z => by cases z), fun z => absurd ((hbi.mp z) _ hp (by omega) hdv) hno⟩⟩
              · have hyes : ∃ s ∈ ss, (2 + i) ∣ s := Classical.byContradiction fun z => by
                  rw [none_dvd.mpr z] at c3
                  cases c3
                walk_at "w"
                exact ⟨x6, hnext fun _ _ => hyes, _, _, _, rfl⟩
          · walk_at "g"
            exact ⟨x3, hnext fun _ z => absurd (dvd_mod.mpr z) (by rw [c2]; decide), _, _, _, rfl⟩
        · walk_at "g"
          exact ⟨x3, hnext fun z _ => absurd ((prime_all (p := 2 + i) (by omega)).mpr z) (by rw [c1]; decide), _, _, _, rfl⟩
    · rintro _ S1 ⟨x1, hall, o1, o2, o3, rfl⟩
      walk_at "w"
      exact ⟨S, x1, h true ⟨fun _ => hbi.mpr fun p hp h6 hdv => hall p hp (show p < 60 from h6) hdv, fun _ => rfl⟩⟩

theorem ok_law_is_dice {P : Program} {w : World} {K : PySem.W.Frag} {mg : Str → Option Value} {base : Heap} (T : Txt K mg) : FnOk P w K mg base (L2.CX P w) 1 T.a_law_is_dice T.fd_law_is_dice ["thing"] (toSp K sp_law_is_dice) := by
  refine fnE T.F_law_is_dice sc_law_is_dice (fun ds S Q E h => ?_) (fun cdv A outer s H E RX hr => ⟨_, (pds_cons (pd_ifS (pdt_not (pdt_tru (pd_isi1 .tup (pd_var 0) T.b_isinstance T.b_tuple))) (pds_one (pd_ret pd_bl)) pds_nil)
    (pds_cons (pd_ifS (pdt_cmp (od_neE hr.units) (pd_lc (own := [("sides", 1)]) (p := .n 1) rfl sc_law_is_dice.nd (pdi_it (pd_var 0)) (blkOk_by (N := ["thing", "sides", "at"]) (sc := defScope s_law_is_dice) (own := [("sides", 1)]) (by decide +kernel)) (fun _ _ _ _ _ => (pg_name (i := 1) sc_law_is_dice.nd rfl (by first | exact Or.inl rfl | exact Or.inr rfl))) (fun _ _ _ _ _ => (pdts_one (PDW.pt (pdw_or (pdt_not (pdt_tru (pd_isi1 .int (pd_var 1) T.b_isinstance T.b_int))) (pdw_or (pdt_tru (pd_isi1 .bool (pd_var 1) T.b_isinstance T.b_bool)) (pdw_or1 (pdt_cmp od_lt (pd_var 1) pd_int))))))) (fun _ _ _ _ _ => (pd_var 1))) (pd_lst pda_nil)) (pds_one (pd_ret pd_bl)) pds_nil)
    (pds_one (pd_ret (pd_cmp (od_eqE hr.units) (pd_lc (own := [("at", 2)]) (p := .n 2) rfl sc_law_is_dice.nd (pdi_range1 T.b_range (pda_cons (pd_bin od_sub (pd_blt cd_len T.b_len (by decide +kernel) (pda_cons (pd_var 0) pda_nil)) pd_int) pda_nil)) (blkOk_by (N := ["thing", "sides", "at"]) (sc := defScope s_law_is_dice) (own := [("at", 2)]) (by decide +kernel)) (fun _ _ _ _ _ => (pg_name (i := 2) sc_law_is_dice.nd rfl (by first | exact Or.inl rfl | exact Or.inr rfl))) (fun _ _ _ _ _ => (pdts_one (pdt_cmp od_ge (pd_ix (pd_var 0) (pd_var 2)) (pd_ix (pd_var 0) (pd_bin od_add (pd_var 2) pd_int))))) (fun _ _ _ _ _ => (pd_var 2))) (pd_lst pda_nil)))))), fun ds S Q h => ?_⟩)
  · obtain ⟨_, rfl, _⟩ := h
    rfl
  · obtain ⟨d, rfl, hk, h⟩ := h
    cases d with
    | tup xs =>
      obtain ⟨hx, hl⟩ := hk.2 xs rfl
      have eD : isDice (.tup xs) = ((xs.map dieB).all id && ascI (xs.map intOf)) := rfl
      rw [eD] at h
      walk_at "g"
      refine lc_xse notDie (fun _ _ => trivial) ?_ ?_
      · rintro i z acc S2 hi w2
        have hz := (hx z (List.mem_of_getElem? hi)).ext w2.2.2
        have hl2 : xs.length ≤ 16777216 := by omega
        cases z with
        | int n =>
          walk_at "g"
          refine IFB.mk (fun c3 => ?_) (fun c3 => ?_)
          · walk_at "g"
            exact wx_t hi w2 hl2 c3 (Ext.refl _)
          · walk_at "g"
            exact wx_f hi w2 c3 (Ext.refl _)
        | ref a =>
          rcases hz with ⟨xs, e⟩ | ⟨kvs, e⟩
          · walk_at "g"
            refine .inl ⟨xs, e, ?_⟩
            walk_at "g"
            exact wx_t hi w2 hl2 rfl (Ext.refl _)
          · walk_at "g"
            refine .inr ⟨kvs, e, ?_⟩
            walk_at "g"
            exact wx_t hi w2 hl2 rfl (Ext.refl _)
        | ty _ => exact hz.elim
        | exc _ _ => exact hz.elim
        | _ => walk_at "g"; exact wx_t hi w2 hl2 rfl (Ext.refl _)
      · rintro S2 v acc ex hv ha
        have x2 := ex.trans (Ext.new hv (.lst acc))
        have e2 : DL.sup S2 v (.lst acc) v = some (.lst acc) := sup_same
        generalize DL.sup S2 v (.lst acc) = S3 at *
        walk_at "w"
        intro p2 hp2
        have x3 := x2.trans (Ext.new hp2 (.lst []))
        have e3 := Ext.new hp2 (.lst []) _ _ e2
        have e4 : DL.sup S3 p2 (.lst []) p2 = some (.lst []) := sup_same
        generalize DL.sup S3 p2 (.lst []) = S4 at *
        walk_at "w"
        refine .inr ⟨_, .inl ⟨v, rfl, e3⟩, .inl ⟨p2, rfl, e4⟩, ?_⟩
        rw [if_pos rfl, ha, notDie_all]
        cases hn : (xs.map dieB).all id with
        | false =>
          rw [hn] at h
          walk_at "g"
          exact ⟨S, x3, h⟩
        | true =>
          rw [hn] at h
          obtain ⟨e1, -⟩ := dies_int hn
          have hl2 : (xs.map intOf).length ≤ 100000 := by rw [List.length_map]; exact hl
          generalize xs.map intOf = is at *
          subst e1
          walk_at "g"
          rw [List.length_map]
          refine ⟨⟨by omega, by omega⟩, ?_⟩
          refine lc_rge (fun j => decide ((is[j]?.getD 0) ≥ (is[j + 1]?.getD 0))) ?_ ?_
          · rintro j acc S5 hj w5
            have hb : is[j + 1]? = some is[j + 1] := List.getElem?_eq_getElem (by omega)
            have hc : is[j]? = some is[j] := List.getElem?_eq_getElem (by omega)
            walk_at "w"
            rw [show (0 : Int) + (j : Int) = (j : Int) from Int.zero_add _]
            refine ⟨.int is[j], atI_nat (by rw [List.getElem?_map, hc]; rfl), ?_⟩
            walk_at "w"
            refine ⟨.int is[j + 1], atI_nat (xs := is.map D.int) (j := j + 1) (by rw [List.getElem?_map, hb]; rfl), ?_⟩
            walk_at "w"
            have ec : decide ((is[j]?.getD 0) ≥ (is[j + 1]?.getD 0)) = decide (is[j + 1] ≤ is[j]) := by rw [hb, hc]; rfl
            refine IFB.mk (fun c3 => ?_) (fun c3 => ?_)
            · walk_at "w"
              exact we_t w5 (by omega) (ec.trans c3) (Ext.refl _)
            · exact we_f w5 (ec.trans c3) (Ext.refl _)
          · rintro S5 v5 acc5 ex5 hv5 ha5
            have x5 := (x3.trans ex5).trans (Ext.new hv5 (.lst acc5))
            have e5 : DL.sup S5 v5 (.lst acc5) v5 = some (.lst acc5) := sup_same
            generalize DL.sup S5 v5 (.lst acc5) = S6 at *
            walk_at "w"
            intro p6 hp6
            have x6 := x5.trans (Ext.new hp6 (.lst []))
            have e6 := Ext.new hp6 (.lst []) _ _ e5
            have e7 : DL.sup S6 p6 (.lst []) p6 = some (.lst []) := sup_same
            generalize DL.sup S6 p6 (.lst []) = S7 at *
            walk_at "w"
            refine .inr ⟨_, .inl ⟨v5, rfl, e6⟩, .inl ⟨p6, rfl, e7⟩, ?_⟩
            rw [if_neg (by decide), ha5, asc_all]
            exact ⟨S, x6, h⟩
    | ref a =>
      rcases hk.1 with ⟨xs, e⟩ | ⟨kvs, e⟩
      · walk_at "g"
        refine .inl ⟨xs, e, ?_⟩
        walk_at "g"
        exact ⟨S, Ext.refl _, h⟩
      · walk_at "g"
        refine .inr ⟨kvs, e, ?_⟩
        walk_at "g"
        exact ⟨S, Ext.refl _, h⟩
    | ty _ => exact hk.1.elim
    | exc _ _ => exact hk.1.elim
    | _ => walk_at "g"; exact ⟨S, Ext.refl _, h⟩
end K25
set_option Elab.async false
set_option linter.all false
set_option maxRecDepth 100000
set_option maxHeartbeats 4000000
namespace K25
open PySem PySem.Spec PyProof.Rows L2 DL
local macro_rules | `(tactic| walk_at "w") => `(tactic| conv => whnf)
local macro_rules | `(tactic| walk_at "g") => `(tactic| ((conv => whnf); repeat' (first | (refine IFB.t ?_ ?_; rfl; conv => whnf) | (refine IFB.f ?_ ?_; rfl; conv => whnf))))

def sp_law_other : DSp := fun ds S Q _ => ∃ (a : Addr) (c : Int), ds = [.ref a] ∧ StockD S a c ∧ 0 ≤ c ∧ c < 900000 ∧ ∀ d S', OddD S' d → StockD S' a (c + 1) → ExtB a S S' → Q d S'
def sp_law_near : DSp := fun ds S Q _ => ∃ (a : Addr) (ss : List Nat) (c : Int), ds = [.ref a, nats ss] ∧ DiceOk ss ∧ StockD S a c ∧ 0 ≤ c ∧ c < 800000 ∧ ∀ d S', OddD S' d → StockD S' a (c + 10) → ExtB a S S' → Q d S'
def sp_law_right : DSp := fun ds S Q _ => ∃ qs ss nm, ds = [shD qs, nats ss, .bl nm] ∧ BSh qs ∧ DiceOk ss ∧ Q (.bl true) S
theorem odd_tup {S : Sto} {xs : List D} (h : ∀ x ∈ xs, Kn S x) (hl : xs.length ≤ 100000) : OddD S (.tup xs) := ⟨trivial, fun _ e => by cases e; exact ⟨h, hl⟩⟩
theorem cut_mem {xs : List D} {lo hi : Option Int} : ∀ x ∈ DL.cutD xs lo hi, x ∈ xs := fun x h => List.mem_of_mem_drop (List.mem_of_mem_take h)
theorem cut_le {xs : List D} {lo hi : Option Int} : (DL.cutD xs lo hi).length ≤ xs.length := by
  unfold DL.cutD
  rw [List.length_take, List.length_drop]
  omega
theorem kn_nats {S : Sto} {ss : List Nat} : ∀ x ∈ ss.map (fun (s : Nat) => D.int (s : Int)), Kn S x := fun x h => by
  obtain ⟨s, _, rfl⟩ := List.mem_map.mp h
  trivial
theorem sorted_asc {ss : List Int} (h : ss.Pairwise (· ≤ ·)) (hn : ss.Nodup) : ss.Pairwise (· < ·) := by
  refine (h.and hn).imp ?_
  rintro a b ⟨h1, h2⟩
  omega
theorem kn_pk {S S' : Sto} {a : Addr} {c : Int} {d : D} (h : Kn S d) (x : ExtB a S S') (hd : StockD S' a c) : Kn S' d := by
  cases d with
  | ref r =>
    by_cases e : r = a
    · subst e
      obtain ⟨_, _, _, e, _⟩ := hd
      exact .inl ⟨_, e⟩
    · rcases h with ⟨xs, h⟩ | ⟨xs, h⟩
      · exact .inl ⟨xs, x _ _ e h⟩
      · exact .inr ⟨xs, x _ _ e h⟩
  | _ => exact h
theorem odd_pk {S S' : Sto} {a : Addr} {c : Int} {d : D} (h : OddD S d) (x : ExtB a S S') (hd : StockD S' a c) : OddD S' d := ⟨kn_pk h.1 x hd, fun xs e => ⟨fun z hz => kn_pk ((h.2 xs e).1 z hz) x hd, (h.2 xs e).2⟩⟩
theorem lst_same {S : Sto} {n : Nat} {p q : Addr} {xs : List D} (h1 : S p = some (.lst xs)) (h2 : S q = some (.lst xs)) (hl : xs.length < 1000000) (h : ∀ x ∈ xs, sameD S n x x) : sameD S (n + 1) (.ref p) (.ref q) :=
  ⟨xs, xs, .inl ⟨q, rfl, h2⟩, .inl ⟨p, rfl, h1⟩, rfl, hl, fun i y x e1 e2 => by rw [e1] at e2; cases (Option.some.inj e2); exact h _ (List.mem_of_getElem? e1)⟩
theorem tup_same {S : Sto} {n : Nat} {xs : List D} (hl : xs.length < 1000000) (h : ∀ x ∈ xs, sameD S n x x) : sameD S (n + 1) (.tup xs) (.tup xs) :=
  ⟨xs, rfl, rfl, hl, fun i y x e1 e2 => by rw [e1] at e2; cases (Option.some.inj e2); exact h _ (List.mem_of_getElem? e1)⟩
theorem fr_same {S : Sto} {n : Nat} (q : Rat) : sameD S (n + 2) (fr q) (fr q) := tup_same (by show 2 < 1000000; decide) fun x hx => by
  rcases List.mem_cons.mp hx with rfl | hx
  · rfl
  · cases List.mem_singleton.mp hx; rfl
theorem sh_same {S : Sto} {n : Nat} {qs : List Rat} (hl : qs.length < 1000000) : sameD S (n + 3) (shD qs) (shD qs) := tup_same (by rw [List.length_map]; exact hl) fun x hx => by
  obtain ⟨q, _, rfl⟩ := List.mem_map.mp hx
  exact fr_same q

theorem nats_same {S : Sto} {n : Nat} {r : List Nat} (h : r.length < 1000000) : sameD S (n + 2) (nats r) (nats r) := tup_same (by rw [List.length_map]; exact h) fun x hx => by
  obtain ⟨s, _, rfl⟩ := List.mem_map.mp hx
  rfl
theorem FewR.same {S : Sto} {n : Nat} {m : Nat} {ss : List Nat} {d : D} (h : FewR m ss d) : sameD S (n + 2) d d := by
  rcases h with ⟨_, rfl⟩ | ⟨K, r, hK, hf, _, rfl⟩
  · rfl
  · refine nats_same ?_
    have := (rows_mem K r (List.mem_of_find?_eq_some hf)).1
    omega
theorem two_same {S : Sto} {p q : Addr} {x y : D} (h1 : S p = some (.lst [x, y])) (h2 : S q = some (.lst [x, y])) (hx : sameD S 4 x x) (hy : sameD S 4 y y) : sameD S 5 (.ref p) (.ref q) :=
  lst_same h1 h2 (by show 2 < 1000000; decide) fun z hz => by
    rcases List.mem_cons.mp hz with rfl | hz
    · exact hx
    · cases List.mem_singleton.mp hz; exact hy
theorem ints_nats {ms : List Int} (h : ∀ i ∈ ms, 0 ≤ i) : ms.map D.int = (ms.map Int.toNat).map fun (s : Nat) => D.int (s : Int) := by
  rw [List.map_map]
  apply List.map_congr_left
  intro i hi
  have := h i hi
  show D.int i = D.int ((i.toNat : Nat) : Int)
  congr 1
  omega
theorem dice_sorted {ns : List Nat} {ms : List Int} (hp : ms.Perm (ns.map fun (s : Nat) => (s : Int))) (hs : ms.Pairwise (· ≤ ·)) (hn : ns.Nodup) (hl : ns.length ≤ 5) (h2 : ∀ s ∈ ns, 2 ≤ s ∧ s ≤ 20) : DiceOk (ms.map Int.toNat) := by
  have hmem : ∀ i ∈ ms, ∃ s ∈ ns, (s : Int) = i := fun i hi => by
    obtain ⟨s, hs, e⟩ := List.mem_map.mp (hp.mem_iff.mp hi)
    exact ⟨s, hs, e⟩
  have hnd : ms.Nodup := hp.nodup_iff.mpr (List.Pairwise.map _ (fun a b h e => h (by omega)) hn)
  have hasc := sorted_asc hs hnd
  refine ⟨?_, ?_, ?_, ?_⟩
  · refine List.pairwise_map.mpr (hasc.imp_of_mem ?_)
    intro a b ha hb hab
    obtain ⟨s, _, rfl⟩ := hmem a ha
    obtain ⟨t, _, rfl⟩ := hmem b hb
    omega
  · intro s hs
    obtain ⟨i, hi, rfl⟩ := List.mem_map.mp hs
    obtain ⟨t, ht, rfl⟩ := hmem i hi
    have := h2 t ht
    omega
  · rw [List.length_map, hp.length_eq, List.length_map]; exact hl
  · intro s hs
    obtain ⟨i, hi, rfl⟩ := List.mem_map.mp hs
    obtain ⟨t, ht, rfl⟩ := hmem i hi
    have := h2 t ht
    omega
theorem ok_law_dice {P : Program} {w : World} {K : PySem.W.Frag} {mg : Str → Option Value} {base : Heap} (T : Txt K mg) : FnOk P w K mg base (L2.CX P w) 2 T.a_law_dice T.fd_law_dice ["stock"] (toSp K sp_law_dice) := by
  refine fnE T.F_law_dice sc_law_dice (fun ds S Q E h => ?_) (fun cdv A outer s H E RX hr => ⟨_, (pds_cons (pd_set 1 sc_law_dice.nd (pd_lst pda_nil))
    (pds_cons (pd_for (passes_of rfl) rfl (pdi_range1 T.b_range (pda_cons (pd_call (takes_of rfl rfl rfl rfl) (ok_law_pick T) (hr.mono (by decide)) T.m_law_pick T.F_law_pick.kp T.d_law_pick (pda_cons (pd_var 0) (pda_cons pd_int pda_nil))) pda_nil)) (pdg_name 2 sc_law_dice.nd) (pds_cons (pd_set 3 sc_law_dice.nd (pd_ix (pd_lst (pda_cons (pd_ix (pd_lst (pda_cons pd_int (pda_cons pd_int (pda_cons pd_int (pda_cons pd_int (pda_cons pd_int (pda_cons pd_int (pda_cons pd_int (pda_cons pd_int (pda_cons pd_int (pda_cons pd_int pda_nil))))))))))) (pd_call (takes_of rfl rfl rfl rfl) (ok_law_pick T) (hr.mono (by decide)) T.m_law_pick T.F_law_pick.kp T.d_law_pick (pda_cons (pd_var 0) (pda_cons pd_int pda_nil)))) (pda_cons (pd_bin od_add pd_int (pd_call (takes_of rfl rfl rfl rfl) (ok_law_pick T) (hr.mono (by decide)) T.m_law_pick T.F_law_pick.kp T.d_law_pick (pda_cons (pd_var 0) (pda_cons pd_int pda_nil)))) pda_nil))) (pd_call (takes_of rfl rfl rfl rfl) (ok_law_pick T) (hr.mono (by decide)) T.m_law_pick T.F_law_pick.kp T.d_law_pick (pda_cons (pd_var 0) (pda_cons pd_int pda_nil)))))
    (pds_one (pd_ifS (pdt_cmp od_notin (pd_var 3) (pd_var 1)) (pds_one (pd_expr (pd_lm PySem.F.slot_list_append PySem.F.type_list_append md_append (pd_var 1) (pda_cons (pd_var 3) pda_nil)))) pds_nil))))
    (pds_one (pd_ret (pd_bltTy cd_tuple T.b_tuple (by decide +kernel) (pda_cons (pd_blt cd_sorted T.b_sorted (by decide +kernel) (pda_cons (pd_var 1) pda_nil)) pda_nil)))))), fun ds S Q h => ?_⟩)
  · obtain ⟨_, _, rfl, _⟩ := h
    rfl
  · obtain ⟨a, c, rfl, hd, hc0, hc, h⟩ := h
    walk_at "w"
    intro p0 hp0
    generalize hS0 : DL.sup S p0 _ = S0
    obtain ⟨e0v, y0, -⟩ := sup_of hS0
    have y0 := y0 hp0
    have hna0 := hd.ne hp0
    have hd0 := hd.ext y0
    have x0 : ExtB a S S0 := ExtB.ext y0
    clear hS0
    walk_at "w"
    refine ⟨a, 6, c, rfl, hd0, by omega, by decide, by decide, ?_⟩
    rintro t S1 t0 t1 hd1 fr1
    walk_at "w"
    refine ⟨⟨by omega, by omega⟩, for_rg (fun i ρ' S' => ∃ (p : Addr) (ns : List Nat) (o1 o2 : Option D), ρ' = [some (.ref a), some (.ref p), o1, o2] ∧ p ≠ a ∧ S p = none ∧ S' p = some (.lst (ns.map fun (s : Nat) => D.int (s : Int))) ∧ ns.Nodup ∧ ns.length ≤ i ∧ (∀ s ∈ ns, 2 ≤ s ∧ s ≤ 20) ∧ StockD S' a (c + 1 + 3 * i) ∧ ExtB a S S') ⟨p0, [], _, _, rfl, hna0, hp0, by rw [fr1 p0 hna0]; exact e0v, List.nodup_nil, Nat.le_refl _, (fun _ z => by cases z), hd1.mono (by omega), x0.trans (ExtB.of fr1)⟩ ?_ ?_⟩
    · rintro i _ S2 hi ⟨p, ns, o1, o2, rfl, hpa, hpS, ep, hnd, hnl, hn2, hd2, x2⟩
      walk_at "w"
      intro p3 hp3
      generalize h_p3 : DL.sup S2 p3 _ = S3
      obtain ⟨e3v, y3, z3⟩ := sup_of h_p3
      have y3 := y3 hp3
      have hna3 := hd2.ne hp3
      have hd3 := hd2.ext y3
      have x3 := x2.trans (ExtB.ext y3)
      clear h_p3
      walk_at "w"
      refine ⟨a, 10, _, rfl, hd3, by omega, by decide, by decide, ?_⟩
      rintro v S4 v0 v1 hd4 fr4
      have x4 := x3.trans (ExtB.of fr4)
      have ep4 : S4 p = some (.lst (ns.map fun (s : Nat) => D.int (s : Int))) := by rw [fr4 p hpa]; exact y3 _ _ ep
      have e4v := (fr4 p3 hna3).trans e3v
      obtain ⟨wh, ewh, hwh⟩ : ∃ wh : Nat, atI [D.int 2, .int 3, .int 4, .int 5, .int 6, .int 7, .int 8, .int 10, .int 12, .int 20] v = some (.int (wh : Int)) ∧ 2 ≤ wh ∧ wh ≤ 20 := by
        obtain ⟨n, rfl⟩ := Int.eq_ofNat_of_zero_le v0
        have hn3 : n < 10 := by omega
        match n, hn3 with
        | 0, _ => exact ⟨2, rfl, by decide, by decide⟩
        | 1, _ => exact ⟨3, rfl, by decide, by decide⟩
        | 2, _ => exact ⟨4, rfl, by decide, by decide⟩
        | 3, _ => exact ⟨5, rfl, by decide, by decide⟩
        | 4, _ => exact ⟨6, rfl, by decide, by decide⟩
        | 5, _ => exact ⟨7, rfl, by decide, by decide⟩
        | 6, _ => exact ⟨8, rfl, by decide, by decide⟩
        | 7, _ => exact ⟨10, rfl, by decide, by decide⟩
        | 8, _ => exact ⟨12, rfl, by decide, by decide⟩
        | 9, _ => exact ⟨20, rfl, by decide, by decide⟩
      walk_at "w"
      refine ⟨_, _, .inl ⟨p3, rfl, e4v⟩, ewh, ?_⟩
      walk_at "w"
      refine ⟨a, 19, _, rfl, hd4, by omega, by decide, by decide, ?_⟩
      rintro u S5 u0 u1 hd5 fr5
      have x5 := x4.trans (ExtB.of fr5)
      have ep5 : S5 p = some (.lst (ns.map fun (s : Nat) => D.int (s : Int))) := by rw [fr5 p hpa]; exact ep4
      obtain ⟨u, rfl⟩ := Int.eq_ofNat_of_zero_le u0
      walk_at "w"
      intro p6 hp6
      generalize h_p6 : DL.sup S5 p6 _ = S6
      obtain ⟨e6v, y6, z6⟩ := sup_of h_p6
      have y6 := y6 hp6
      have hna6 := hd5.ne hp6
      have hd6 := hd5.ext y6
      have x6 := x5.trans (ExtB.ext y6)
      clear h_p6
      walk_at "w"
      refine ⟨a, 2, _, rfl, hd6, by omega, by decide, by decide, ?_⟩
      rintro k S7 k0 k1 hd7 fr7
      have x7 := x6.trans (ExtB.of fr7)
      have ep7 : S7 p = some (.lst (ns.map fun (s : Nat) => D.int (s : Int))) := by rw [fr7 p hpa]; exact y6 _ _ ep5
      have e7v := (fr7 p6 hna6).trans e6v
      obtain ⟨sd, esd, hsd⟩ : ∃ sd : Nat, atI [D.int (wh : Int), .int (2 + (u : Int))] k = some (.int (sd : Int)) ∧ 2 ≤ sd ∧ sd ≤ 20 := by
        obtain ⟨n, rfl⟩ := Int.eq_ofNat_of_zero_le k0
        have hn3 : n < 2 := by omega
        match n, hn3 with
        | 0, _ => exact ⟨wh, rfl, hwh⟩
        | 1, _ => exact ⟨2 + u, by rw [show (((2 + u : Nat)) : Int) = 2 + (u : Int) by omega]; rfl, by omega, by omega⟩
      walk_at "w"
      refine ⟨_, _, .inl ⟨p6, rfl, e7v⟩, esd, ?_⟩
      walk_at "w"
      refine ⟨_, .inl ⟨p, rfl, ep7⟩, rfl, by simp [fb], ?_⟩
      rw [if_pos rfl, inD_nat]
      refine IFB.np (fun k2 => ?_) (fun k2 => ?_)
      · walk_at "w"
        refine ⟨⟨_, ep7⟩, ?_⟩
        walk_at "w"
        refine ⟨_, ep7, by rw [List.length_map]; show _ < 16777216; omega, ?_⟩
        walk_at "w"
        refine ⟨p, ns ++ [sd], _, _, rfl, hpa, hpS, by rw [sup_same, List.map_append]; rfl, ?_, by rw [List.length_append]; simp; omega, fun s hs => ?_, ?_, ?_⟩
        · rw [List.nodup_append]
          refine ⟨hnd, by simp, ?_⟩
          intro x hx y hy
          cases List.mem_singleton.mp hy
          intro z
          subst z
          exact k2 hx
        · rcases List.mem_append.mp hs with hs | hs
          · exact hn2 s hs
          · cases List.mem_singleton.mp hs; exact hsd
        · obtain ⟨w0, w1, w2, e, r⟩ := hd7.mono (c' := c + 1 + 3 * ((i + 1 : Nat) : Int)) (by omega)
          exact ⟨w0, w1, w2, by rw [sup_ne hpa.symm]; exact e, r⟩
        · intro b cc hb hbs
          rw [sup_ne ?_]
          · exact x7 b cc hb hbs
          · intro z
            subst z
            rw [hpS] at hbs
            cases hbs
      · walk_at "w"
        exact ⟨p, ns, _, _, rfl, hpa, hpS, ep7, hnd, by omega, hn2, hd7.mono (by omega), x7⟩
    · rintro _ S2 ⟨p, ns, o1, o2, rfl, hpa, hpS, ep, hnd, hnl, hn2, hd2, x2⟩
      walk_at "w"
      refine ⟨ns.map fun (s : Nat) => (s : Int), .inl ⟨p, rfl, by rw [ep, List.map_map]; rfl⟩, ?_⟩
      rintro ms p3 hperm hsort hp3
      have hok := dice_sorted hperm hsort hnd (by omega) hn2
      have hnn : ∀ i ∈ ms, 0 ≤ i := fun i hi => by
        obtain ⟨s, _, e⟩ := List.mem_map.mp (hperm.mem_iff.mp hi)
        omega
      rw [ints_nats hnn]
      generalize hS3 : DL.sup S2 p3 _ = S3
      obtain ⟨e3v, y3, -⟩ := sup_of hS3
      have y3 := y3 hp3
      have hd3 := hd2.ext y3
      have x3 := x2.trans (ExtB.ext y3)
      clear hS3
      walk_at "w"
      refine ⟨_, .inl ⟨p3, rfl, e3v⟩, ?_⟩
      exact ⟨keepA a S S3, keepA_ext x3, h _ _ hok (hd3.keep.mono (by omega)) keepA_ne⟩

theorem ok_law_fewest {P : Program} {w : World} {K : PySem.W.Frag} {mg : Str → Option Value} {base : Heap} (T : Txt K mg) : FnOk P w K mg base (L2.CX P w) 4 T.a_law_fewest T.fd_law_fewest ["shares", "dice"] (toSp K sp_law_fewest) := by
  refine fnE T.F_law_fewest sc_law_fewest (fun ds S Q E h => ?_) (fun cdv A outer s H E RX hr => ⟨_, (pds_cons (pd_par 2 3 rfl sc_law_fewest.nd (pda_cons (pd_call (takes_of rfl rfl rfl rfl) (ok_law_bottom T) (hr.mono (by decide)) T.m_law_bottom T.F_law_bottom.kp T.d_law_bottom (pda_cons (pd_var 0) pda_nil)) (pda_cons (pd_lst (pda_cons (pd_tup pda_nil) pda_nil)) pda_nil)) rfl)
    (pds_cons (pd_ifS (pdt_not (pdt_tru (pd_call (takes_of rfl rfl rfl rfl) (ok_law_is_bounded T) (hr.mono (by decide)) T.m_law_is_bounded T.F_law_is_bounded.kp T.d_law_is_bounded (pda_cons (pd_var 0) (pda_cons (pd_var 1) pda_nil))))) (pds_one (pd_ret pd_non)) pds_nil)
    (pds_cons (pd_for (passes_of rfl) rfl (pdi_range1 T.b_range (pda_cons pd_int pda_nil)) (pdg_name 4 sc_law_fewest.nd) (pds_cons (pd_for (passes_of rfl) rfl (pdi_it (pd_var 3)) (pdg_name 5 sc_law_fewest.nd) (pds_one (pd_ifS (pdt_cmp (od_eq hr.units) (pd_bin od_mod (pd_bltTy cd_int T.b_int (by decide +kernel) (pda_cons (pd_call (takes_of rfl rfl rfl rfl) (ok_law_product T) (hr.mono (by decide)) T.m_law_product T.F_law_product.kp T.d_law_product (pda_cons (pd_var 5) pda_nil)) pda_nil)) (pd_var 2)) pd_int) (pds_one (pd_ret (pd_var 5))) pds_nil)))
    (pds_cons (pd_set 6 sc_law_fewest.nd (pd_lst pda_nil))
    (pds_cons (pd_for (passes_of rfl) rfl (pdi_it (pd_var 3)) (pdg_name 5 sc_law_fewest.nd) (pds_one (pd_set 6 sc_law_fewest.nd (pd_bin od_add (pd_var 6) (pd_lc (own := [("sides", 7)]) (p := .n 7) rfl sc_law_fewest.nd (pdi_it (pd_var 1)) (blkOk_by (N := ["shares", "dice", "bottom", "rows", "turn", "row", "further", "sides"]) (sc := defScope s_law_fewest) (own := [("sides", 7)]) (by decide +kernel)) (fun _ _ _ _ _ => (pg_name (i := 7) sc_law_fewest.nd rfl (by first | exact Or.inl rfl | exact Or.inr rfl))) (fun _ _ _ _ _ => (pdts_one (PDW.pt (pdw_or (pdt_cmp (od_eqE hr.units) (pd_var 5) (pd_tup pda_nil)) (pdw_or1 (pdt_cmp od_ge (pd_var 7) (pd_ix (pd_var 5) (pd_neg pd_int)))))))) (fun _ _ _ _ _ => (pd_bin od_add (pd_var 5) (pd_tup (pda_cons (pd_var 7) pda_nil)))))))))
    (pds_one (pd_set 3 sc_law_fewest.nd (pd_var 6)))))))
    (pds_one (pd_ret pd_non))))), fun ds S Q h => ?_⟩)
  · obtain ⟨_, _, rfl, _⟩ := h
    rfl
  · obtain ⟨qs, ss, rfl, hb, hd, h⟩ := h
    obtain ⟨n0, n36⟩ := hb.lt
    have hl5 := hd.len
    walk_at "w"
    refine ⟨qs, rfl, hb, ?_⟩
    walk_at "w"
    intro p0 hp0
    generalize hS0 : DL.sup S p0 _ = S0
    obtain ⟨e0, x0, -⟩ := sup_of hS0
    have x0 := x0 hp0
    clear hS0
    walk_at "w"
    refine ⟨qs, ss, rfl, hb, hd, fun b hbd => ?_⟩
    generalize lcmN (denL qs) = n at *
    cases b with
    | false =>
      walk_at "g"
      exact ⟨S, x0, h _ (.inl ⟨(fun z => Bool.noConfusion (hbd.mpr z)), rfl⟩)⟩
    | true =>
      obtain ⟨K, r, hK, hf, hn⟩ := fewest_ex n0 n36 (hbd.mp rfl)
      have hq := h _ (.inr ⟨K, r, hK, hf, hn, rfl⟩)
      walk_at "g"
      refine ⟨⟨by decide, by decide⟩, for_rg (fun k ρ' S' => ∃ p o1 o2 o3 o4, k ≤ K ∧ S' p = some (.lst ((rowsN ss k).map nats)) ∧ Ext S S' ∧ ρ' = [some (shD qs), some (nats ss), some (.int (n : Int)), some (.ref p), o1, o2, o3, o4]) ⟨p0, _, _, _, _, Nat.zero_le _, e0, x0, rfl⟩ ?_ ?_⟩
      · rintro k _ S1 hk40 ⟨p, o1, o2, o3, o4, hk, e1, x1, rfl⟩
        have hlen := rows_len hd.asc hd.len (k := k) (by omega)
        have hlen1 := rows_len hd.asc hd.len (k := k + 1) (by omega)
        walk_at "w"
        refine ⟨_, .inl ⟨p, rfl, e1⟩, ?_⟩
        refine for_xs (fun i ρ' S' => S' = S1 ∧ (∀ y ∈ (rowsN ss k).take i, hit n y = false) ∧ ∃ o2, ρ' = [some (shD qs), some (nats ss), some (.int (n : Int)), some (.ref p), some (.int (0 + (k : Int))), o2, o3, o4]) ⟨rfl, (fun _ z => by simp at z), _, rfl⟩ (fun _ _ _ h => by rw [h.1]; exact .inl ⟨p, rfl, e1⟩) ?_ ?_
        · rintro i x _ _ hi ⟨rfl, hno, o2, rfl⟩
          rw [List.getElem?_map] at hi
          cases er : (rowsN ss k)[i]? with
          | none => rw [er] at hi; cases hi
          | some row =>
            rw [er] at hi
            cases (Option.some.inj hi)
            have hmem := (rows_mem k row (List.mem_of_getElem? er)).2
            walk_at "w"
            refine ⟨row, rfl, fun s hs => hd.top s (hmem s hs), ?_⟩
            walk_at "w"
            refine ⟨by omega, ?_⟩
            walk_at "w"
            refine IFB.mk (fun c1 => ?_) (fun c1 => ?_)
            · have hh : hit n row = true := decide_eq_true (dvd_mod.mp c1)
              have hfx := find_at er hh hno
              have ek : k = K := by
                rcases Nat.lt_or_ge k K with z | z
                · rw [hn k z] at hfx; cases hfx
                · omega
              subst ek
              rw [hf] at hfx
              cases hfx
              walk_at "w"
              exact ⟨S, x1, hq⟩
            · have hh : hit n row = false := decide_eq_false fun z => by rw [dvd_mod.mpr z] at c1; cases c1
              walk_at "w"
              refine ⟨rfl, fun y hy => ?_, _, rfl⟩
              rw [List.take_succ, er] at hy
              rcases List.mem_append.mp hy with hy | hy
              · exact hno y hy
              · cases List.mem_singleton.mp (show y ∈ [row] from hy); exact hh
        · rintro _ _ ⟨rfl, hno, o2, rfl⟩
          rw [List.length_map, List.take_length] at hno
          have hkK : k < K := by
            rcases Nat.lt_or_ge k K with z | z
            · exact z
            · have e : k = K := by omega
              subst e
              rw [find_no hno] at hf
              cases hf
          walk_at "w"
          intro q hq0
          generalize hSS : DL.sup _ q _ = S2
          obtain ⟨e2, x2, -⟩ := sup_of hSS
          have x2 := x2 hq0
          have e1' := x2 _ _ e1
          have xx := x1.trans x2
          clear hSS
          walk_at "w"
          refine ⟨_, .inl ⟨p, rfl, e1'⟩, ?_⟩
          refine for_xs (fun i ρ' S' => ∃ q o2 o4, S' q = some (.lst ((((rowsN ss k).take i).flatMap (kids ss)).map nats)) ∧ S' p = some (.lst ((rowsN ss k).map nats)) ∧ Ext S S' ∧ ρ' = [some (shD qs), some (nats ss), some (.int (n : Int)), some (.ref p), some (.int (0 + (k : Int))), o2, some (.ref q), o4]) ⟨q, _, _, by rw [e2]; rfl, e1', xx, rfl⟩ (fun _ _ _ h => by obtain ⟨_, _, _, _, h, _⟩ := h; exact .inl ⟨p, rfl, h⟩) ?_ ?_
          · rintro i x _ S3 hi ⟨q3, o2, o4, e3, e3p, x3, rfl⟩
            rw [List.getElem?_map] at hi
            cases er : (rowsN ss k)[i]? with
            | none => rw [er] at hi; cases hi
            | some row =>
              rw [er] at hi
              cases (Option.some.inj hi)
              have hil : i < (rowsN ss k).length := (List.getElem?_eq_some_iff.mp er).1
              have hrl : row.length = k := (rows_mem k row (List.mem_of_getElem? er)).1
              have hfl := flat_len hl5 ((rowsN ss k).take i)
              rw [List.length_take, Nat.min_eq_left (by omega)] at hfl
              walk_at "w"
              refine ⟨fun j acc S' => acc = (kids (ss.take j) row).map nats ∧ Ext S3 S', ⟨by simp [kids], Ext.refl _⟩, ?_⟩
              rintro j acc S4 ⟨rfl, x4⟩
              refine ⟨trivial, fun x hx => ?_, fun hj v hv => ?_⟩
              · obtain ⟨s, es, rfl⟩ := nat_at hx
                have hkl := kids_len (ss.take j) row
                rw [List.length_take] at hkl
                have leaf : lastN row ≤ s → ((kids (ss.take j) row).map nats).length < sizeLine ∧ ((kids (ss.take j) row).map nats ++ [D.tup ((row.map fun (s : Nat) => D.int (s : Int)) ++ [.int (s : Int)])] = (kids (ss.take (j + 1)) row).map nats ∧ Ext S3 S4) := fun hle => by
                  refine ⟨by rw [List.length_map]; show _ < 16777216; omega, ?_, x4⟩
                  rw [kids_take es, if_pos hle, List.map_append, nats_app]
                  rfl
                walk_at "w"
                refine .inl ⟨_, rfl, rfl, ?_⟩
                rw [if_neg (by decide), emp_map]
                cases hre : row.isEmpty with
                | true =>
                  have hle : lastN row ≤ s := by
                    cases row with
                    | nil => exact Nat.zero_le _
                    | cons _ _ => cases hre
                  walk_at "g"
                  refine ⟨by rw [List.length_map, hrl]; show k + 1 ≤ 16777216; omega, ?_⟩
                  walk_at "w"
                  exact leaf hle
                | false =>
                  have hne : row ≠ [] := fun z => by rw [z] at hre; cases hre
                  walk_at "g"
                  refine ⟨_, last_at hne, ?_⟩
                  walk_at "w"
                  refine IFB.p (fun c2 => ?_) (fun c2 => ?_)
                  · walk_at "g"
                    refine ⟨by rw [List.length_map, hrl]; show k + 1 ≤ 16777216; omega, ?_⟩
                    walk_at "w"
                    exact leaf (by omega)
                  · walk_at "g"
                    refine ⟨?_, x4⟩
                    rw [kids_take es, if_neg (by omega), List.append_nil]
              · rw [List.length_map] at hj
                subst hj
                rw [List.take_length]
                have hkl := kids_len ss row
                generalize hSS : DL.sup S4 v _ = S5
                obtain ⟨e5, x5, -⟩ := sup_of hSS
                have x5 := x4.trans (x5 hv)
                clear hSS
                walk_at "w"
                refine ⟨_, _, x5 _ _ e3, e5, by rw [List.length_map, List.length_map]; show _ ≤ 16777216; omega, ?_⟩
                intro q6 hq6
                generalize hSS : DL.sup S5 q6 _ = S6
                obtain ⟨e6, x6, -⟩ := sup_of hSS
                have x6 := x5.trans (x6 hq6)
                clear hSS
                walk_at "w"
                exact ⟨q6, _, _, by rw [e6, flat_take er, List.map_append], x6 _ _ e3p, x3.trans x6, rfl⟩
          · rintro _ S3 ⟨q3, o2, o4, e3, e3p, x3, rfl⟩
            rw [List.length_map, List.take_length] at e3
            walk_at "w"
            exact ⟨q3, _, _, _, _, by omega, e3, x3, rfl⟩
      · rintro _ S1 ⟨p, o1, o2, o3, o4, hk, e1, x1, rfl⟩
        exact absurd (show 40 ≤ K from hk) (by omega)
end K25
set_option Elab.async false
set_option linter.all false
set_option maxRecDepth 100000
set_option maxHeartbeats 4000000
namespace K25
open PySem PySem.Spec PyProof.Rows L2 DL
local macro_rules | `(tactic| walk_at "w") => `(tactic| conv => whnf)
local macro_rules | `(tactic| walk_at "g") => `(tactic| ((conv => whnf); repeat' (first | (refine IFB.t ?_ ?_; rfl; conv => whnf) | (refine IFB.f ?_ ?_; rfl; conv => whnf))))
theorem ok_law_other {P : Program} {w : World} {K : PySem.W.Frag} {mg : Str → Option Value} {base : Heap} (T : Txt K mg) : FnOk P w K mg base (L2.CX P w) 2 T.a_law_other T.fd_law_other ["stock"] (toSp K sp_law_other) := by
  refine fnD T.F_law_other sc_law_other (fun ds S Q E h => ?_) (fun cdv A outer s H E RX hr => ⟨_, (pds_one (pd_ret (pd_ix (pd_lst (pda_cons pd_int (pda_cons pd_int (pda_cons (pd_neg pd_int) (pda_cons pd_bl (pda_cons pd_non (pda_cons pd_str (pda_cons (pd_tup (pda_cons pd_int pda_nil)) (pda_cons (pd_lst (pda_cons pd_int pda_nil)) (pda_cons pd_bl (pda_cons (pd_neg pd_int) (pda_cons pd_str (pda_cons (pd_tup pda_nil) pda_nil))))))))))))) (pd_call (takes_of rfl rfl rfl rfl) (ok_law_pick T) (hr.mono (by decide)) T.m_law_pick T.F_law_pick.kp T.d_law_pick (pda_cons (pd_var 0) (pda_cons pd_int pda_nil)))))), fun ds S Q h => ?_⟩)
  · obtain ⟨_, _, rfl, _⟩ := h
    rfl
  · obtain ⟨a, c, rfl, hd, hc0, hc, h⟩ := h
    walk_at "w"
    intro p0 hp0
    generalize hS0 : DL.sup S p0 _ = S0
    obtain ⟨e0v, y0, -⟩ := sup_of hS0
    have y0 := y0 hp0
    have hna0 := hd.ne hp0
    have hd0 := hd.ext y0
    have x0 : ExtB a S S0 := ExtB.ext y0
    clear hS0
    walk_at "w"
    intro p1 hp1
    generalize h_p1 : DL.sup S0 p1 _ = S1
    obtain ⟨e1v, y1, z1⟩ := sup_of h_p1
    have y1 := y1 hp1
    have hna1 := hd0.ne hp1
    have hd1 := hd0.ext y1
    have x1 := x0.trans (ExtB.ext y1)
    clear h_p1
    walk_at "w"
    refine ⟨a, 12, c, rfl, hd1, by omega, by decide, by decide, ?_⟩
    rintro v S2 v0 v1 hd2 fr2
    have e6 : S2 p0 = some (.lst [.int 6]) := by rw [fr2 p0 hna0]; exact y1 _ _ e0v
    have el := (fr2 p1 hna1).trans e1v
    obtain ⟨d, ed, hod⟩ : ∃ d, atI [D.int 1, .int 0, .int (-2), .bl true, .non, .str "6", .tup [.int 6], .ref p0, .bl false, .int (-1), .str "", .tup []] v = some d ∧ OddD S2 d := by
        obtain ⟨n, rfl⟩ := Int.eq_ofNat_of_zero_le v0
        have hn3 : n < 12 := by omega
        match n, hn3 with
        | 0, _ => exact ⟨_, rfl, ⟨trivial, fun _ e => by cases e⟩⟩
        | 1, _ => exact ⟨_, rfl, ⟨trivial, fun _ e => by cases e⟩⟩
        | 2, _ => exact ⟨_, rfl, ⟨trivial, fun _ e => by cases e⟩⟩
        | 3, _ => exact ⟨_, rfl, ⟨trivial, fun _ e => by cases e⟩⟩
        | 4, _ => exact ⟨_, rfl, ⟨trivial, fun _ e => by cases e⟩⟩
        | 5, _ => exact ⟨_, rfl, ⟨trivial, fun _ e => by cases e⟩⟩
        | 6, _ => exact ⟨_, rfl, odd_tup (fun x hx => by cases List.mem_singleton.mp hx; trivial) (by decide)⟩
        | 7, _ => exact ⟨_, rfl, ⟨.inl ⟨_, e6⟩, fun _ e => by cases e⟩⟩
        | 8, _ => exact ⟨_, rfl, ⟨trivial, fun _ e => by cases e⟩⟩
        | 9, _ => exact ⟨_, rfl, ⟨trivial, fun _ e => by cases e⟩⟩
        | 10, _ => exact ⟨_, rfl, ⟨trivial, fun _ e => by cases e⟩⟩
        | 11, _ => exact ⟨_, rfl, odd_tup (fun x hx => by cases hx) (by decide)⟩
    walk_at "w"
    refine ⟨_, d, .inl ⟨p1, rfl, el⟩, ed, ?_⟩
    walk_at "w"
    exact h d S2 hod hd2 (x1.trans (ExtB.of fr2))
theorem ok_law_near {P : Program} {w : World} {K : PySem.W.Frag} {mg : Str → Option Value} {base : Heap} (T : Txt K mg) : FnOk P w K mg base (L2.CX P w) 3 T.a_law_near T.fd_law_near ["stock", "dice"] (toSp K sp_law_near) := by
  refine fnD T.F_law_near sc_law_near (fun ds S Q E h => ?_) (fun cdv A outer s H E RX hr => ⟨_, (pds_cons (pd_par 2 3 rfl sc_law_near.nd (pda_cons (pd_call (takes_of rfl rfl rfl rfl) (ok_law_pick T) (hr.mono (by decide)) T.m_law_pick T.F_law_pick.kp T.d_law_pick (pda_cons (pd_var 0) (pda_cons (pd_bin od_add (pd_blt cd_len T.b_len (by decide +kernel) (pda_cons (pd_var 1) pda_nil)) pd_int) pda_nil))) (pda_cons (pd_call (takes_of rfl rfl rfl rfl) (ok_law_other T) (hr.mono (by decide)) T.m_law_other T.F_law_other.kp T.d_law_other (pda_cons (pd_var 0) pda_nil)) pda_nil)) rfl)
    (pds_cons (pd_set 4 sc_law_near.nd (pd_lst (pda_cons (pd_bin od_add (pd_bin od_add (pd_slice (pd_var 1) pdo_none (pdo_some (pd_var 2))) (pd_tup (pda_cons (pd_var 3) pda_nil))) (pd_slice (pd_var 1) (pdo_some (pd_var 2)) pdo_none)) (pda_cons (pd_bin od_add (pd_bin od_add (pd_slice (pd_var 1) pdo_none (pdo_some (pd_var 2))) (pd_tup (pda_cons (pd_bin od_add pd_int (pd_call (takes_of rfl rfl rfl rfl) (ok_law_pick T) (hr.mono (by decide)) T.m_law_pick T.F_law_pick.kp T.d_law_pick (pda_cons (pd_var 0) (pda_cons pd_int pda_nil)))) pda_nil))) (pd_slice (pd_var 1) (pdo_some (pd_var 2)) pdo_none)) (pda_cons (pd_rev (pd_var 1)) (pda_cons (pd_bltTy cd_list T.b_list (by decide +kernel) (pda_cons (pd_var 1) pda_nil)) pda_nil))))))
    (pds_one (pd_ret (pd_ix (pd_bin od_add (pd_var 4) (pd_lst (pda_cons (pd_bin od_add (pd_slice (pd_var 1) pdo_none (pdo_some (pd_var 2))) (pd_slice (pd_var 1) (pdo_some (pd_bin od_add (pd_var 2) pd_int)) pdo_none)) (pda_cons (pd_bin od_add (pd_var 1) (pd_slice (pd_var 1) (pdo_some (pd_neg pd_int)) pdo_none)) (pda_cons (pd_var 3) (pda_cons (pd_tup pda_nil) pda_nil)))))) (pd_call (takes_of rfl rfl rfl rfl) (ok_law_pick T) (hr.mono (by decide)) T.m_law_pick T.F_law_pick.kp T.d_law_pick (pda_cons (pd_var 0) (pda_cons pd_int pda_nil)))))))), fun ds S Q h => ?_⟩)
  · obtain ⟨_, _, _, rfl, _⟩ := h
    rfl
  · obtain ⟨a, ss, c, rfl, hok, hd, hc0, hc, h⟩ := h
    have hl5 := hok.len
    obtain ⟨xs, exs, hkn, hl0⟩ : ∃ xs, nats ss = .tup xs ∧ (∀ (S : Sto), ∀ x ∈ xs, Kn S x) ∧ xs.length ≤ 5 := ⟨_, rfl, fun _ => kn_nats, by rw [List.length_map]; exact hl5⟩
    rw [exs]
    walk_at "w"
    refine ⟨a, _, c, rfl, hd, by omega, by omega, by omega, ?_⟩
    rintro at_ S1 at0 at1 hd1 fr1
    have x1 := ExtB.of fr1
    walk_at "w"
    refine ⟨a, _, rfl, hd1, by omega, by omega, ?_⟩
    rintro odd S2 hodd hd2 y2
    have x2 := x1.trans y2
    walk_at "w"
    have hc1 := @cut_le xs none (some at_)
    have hc2 := @cut_le xs (some at_) none
    refine ⟨by show _ + 1 ≤ 16777216; omega, ?_⟩
    walk_at "w"
    refine ⟨by rw [List.length_append]; show _ + 1 + _ ≤ 16777216; omega, ?_⟩
    walk_at "w"
    refine ⟨a, 19, _, rfl, hd2, by omega, by decide, by decide, ?_⟩
    rintro u S3 u0 u1 hd3 fr3
    have x3 := x2.trans (ExtB.of fr3)
    have hodd3 := odd_pk hodd (ExtB.of fr3) hd3
    walk_at "w"
    refine ⟨by show _ + 1 ≤ 16777216; omega, ?_⟩
    walk_at "w"
    refine ⟨by rw [List.length_append]; show _ + 1 + _ ≤ 16777216; omega, ?_⟩
    walk_at "w"
    intro p4 hp4
    generalize h_p4 : DL.sup S3 p4 _ = S4
    obtain ⟨e4v, y4, z4⟩ := sup_of h_p4
    have y4 := y4 hp4
    have hna4 := hd3.ne hp4
    have hd4 := hd3.ext y4
    have x4 := x3.trans (ExtB.ext y4)
    clear h_p4
    have hodd4 := hodd3.ext y4
    walk_at "w"
    intro p5 hp5
    generalize h_p5 : DL.sup S4 p5 _ = S5
    obtain ⟨e5v, y5, z5⟩ := sup_of h_p5
    have y5 := y5 hp5
    have hna5 := hd4.ne hp5
    have hd5 := hd4.ext y5
    have x5 := x4.trans (ExtB.ext y5)
    clear h_p5
    have hodd5 := hodd4.ext y5
    have e45 := y5 _ _ e4v
    walk_at "w"
    have hc3 := @cut_le xs (some (at_ + 1)) none
    have hc4 := @cut_le xs (some (-1)) none
    refine ⟨by show _ ≤ 16777216; omega, ?_⟩
    walk_at "w"
    refine ⟨by show _ ≤ 16777216; omega, ?_⟩
    walk_at "w"
    intro p6 hp6
    generalize h_p6 : DL.sup S5 p6 _ = S6
    obtain ⟨e6v, y6, z6⟩ := sup_of h_p6
    have y6 := y6 hp6
    have hna6 := hd5.ne hp6
    have hd6 := hd5.ext y6
    have x6 := x5.trans (ExtB.ext y6)
    clear h_p6
    have hodd6 := hodd5.ext y6
    have e46 := y6 _ _ e45
    walk_at "w"
    refine ⟨_, _, y6 _ _ e5v, e6v, (by show 4 + 4 ≤ 16777216; decide), ?_⟩
    intro p7 hp7
    generalize h_p7 : DL.sup S6 p7 _ = S7
    obtain ⟨e7v, y7, z7⟩ := sup_of h_p7
    have y7 := y7 hp7
    have hna7 := hd6.ne hp7
    have hd7 := hd6.ext y7
    have x7 := x6.trans (ExtB.ext y7)
    clear h_p7
    have hodd7 := hodd6.ext y7
    have e47 := y7 _ _ e46
    walk_at "w"
    refine ⟨a, 8, _, rfl, hd7, by omega, by decide, by decide, ?_⟩
    rintro k S8 k0 k1 hd8 fr8
    have x8 := x7.trans (ExtB.of fr8)
    have hodd8 := odd_pk hodd7 (ExtB.of fr8) hd8
    have e48 := (fr8 p4 hna4).trans e47
    have el := (fr8 p7 hna7).trans e7v
    have cutk : ∀ (lo hi : Option Int), ∀ x ∈ DL.cutD xs lo hi, Kn S8 x := fun lo hi x hx => hkn _ x (cut_mem x hx)
    obtain ⟨d, ed, hod⟩ : ∃ d, atI [D.tup (DL.cutD xs none (some at_) ++ [odd] ++ DL.cutD xs (some at_) none), .tup (DL.cutD xs none (some at_) ++ [.int (2 + u)] ++ DL.cutD xs (some at_) none), .tup xs.reverse, .ref p4, .tup (DL.cutD xs none (some at_) ++ DL.cutD xs (some (at_ + 1)) none), .tup (xs ++ DL.cutD xs (some (-1)) none), odd, .tup []] k = some d ∧ OddD S8 d := by
        obtain ⟨n, rfl⟩ := Int.eq_ofNat_of_zero_le k0
        have hn3 : n < 8 := by omega
        match n, hn3 with
        | 0, _ =>
          refine ⟨_, rfl, odd_tup (fun x hx => ?_) (by simp only [List.length_append, List.length_singleton]; omega)⟩
          rcases List.mem_append.mp hx with hx | hx
          · rcases List.mem_append.mp hx with hx | hx
            · exact cutk _ _ x hx
            · cases List.mem_singleton.mp hx; exact hodd8.1
          · exact cutk _ _ x hx
        | 1, _ =>
          refine ⟨_, rfl, odd_tup (fun x hx => ?_) (by simp only [List.length_append, List.length_singleton]; omega)⟩
          rcases List.mem_append.mp hx with hx | hx
          · rcases List.mem_append.mp hx with hx | hx
            · exact cutk _ _ x hx
            · cases List.mem_singleton.mp hx; trivial
          · exact cutk _ _ x hx
        | 2, _ => exact ⟨_, rfl, odd_tup (fun x hx => hkn _ x (List.mem_reverse.mp hx)) (by rw [List.length_reverse]; omega)⟩
        | 3, _ => exact ⟨_, rfl, .inl ⟨_, e48⟩, fun _ e => by cases e⟩
        | 4, _ =>
          refine ⟨_, rfl, odd_tup (fun x hx => ?_) (by simp only [List.length_append, List.length_singleton]; omega)⟩
          rcases List.mem_append.mp hx with hx | hx <;> exact cutk _ _ x hx
        | 5, _ =>
          refine ⟨_, rfl, odd_tup (fun x hx => ?_) (by simp only [List.length_append, List.length_singleton]; omega)⟩
          rcases List.mem_append.mp hx with hx | hx
          · exact hkn _ x hx
          · exact cutk _ _ x hx
        | 6, _ => exact ⟨_, rfl, hodd8⟩
        | 7, _ => exact ⟨_, rfl, odd_tup (fun x hx => by cases hx) (by decide)⟩
    walk_at "w"
    refine ⟨_, d, .inl ⟨p7, rfl, el⟩, ed, ?_⟩
    walk_at "w"
    exact h d S8 hod (hd8.mono (by omega)) x8
theorem ok_law_right {P : Program} {w : World} {K : PySem.W.Frag} {mg : Str → Option Value} {base : Heap} (T : Txt K mg) : FnOk P w K mg base (L2.CX P w) 7 T.a_law_right T.fd_law_right ["shares", "dice", "named"] (toSp K sp_law_right) := by
  refine fnE T.F_law_right sc_law_right (fun ds S Q E h => ?_) (fun cdv A outer s H E RX hr => ⟨_, (pds_cons (pd_par 3 4 rfl sc_law_right.nd (pda_cons (pd_call (takes_of rfl rfl rfl rfl) (ok_law_is_bounded T) (hr.mono (by decide)) T.m_law_is_bounded T.F_law_is_bounded.kp T.d_law_is_bounded (pda_cons (pd_var 0) (pda_cons (pd_var 1) pda_nil))) (pda_cons (pd_call (takes_of rfl rfl rfl rfl) (ok_law_fewest T) (hr.mono (by decide)) T.m_law_fewest T.F_law_fewest.kp T.d_law_fewest (pda_cons (pd_var 0) (pda_cons (pd_var 1) pda_nil))) pda_nil)) rfl)
    (pds_cons (pd_set 5 sc_law_right.nd (pd_lst (pda_cons (pd_call (takes_of rfl rfl rfl rfl) (ok_is_bounded T) (hr.mono (by decide)) T.m_is_bounded T.F_is_bounded.kp T.d_is_bounded (pda_cons (pd_var 0) (pda_cons (pd_var 1) pda_nil))) (pda_cons (pd_callK0 (takes_of rfl rfl rfl rfl) (ok_fewest_dice T) (hr.mono (by decide)) T.m_fewest_dice T.F_fewest_dice.kp (kb_fewest_dice_0_dice_shares T) (pdk_cons (pd_var 1) (pdk_cons (pd_var 0) pdk_nil))) pda_nil))))
    (pds_cons (pd_ifS (pdt_tru (pd_var 2)) (pds_one (pd_set 5 sc_law_right.nd (pd_lst (pda_cons (pd_callK0 (takes_of rfl rfl rfl rfl) (ok_is_bounded T) (hr.mono (by decide)) T.m_is_bounded T.F_is_bounded.kp (kb_is_bounded_0_dice_shares T) (pdk_cons (pd_var 1) (pdk_cons (pd_var 0) pdk_nil))) (pda_cons (pd_call (takes_of rfl rfl rfl rfl) (ok_fewest_dice T) (hr.mono (by decide)) T.m_fewest_dice T.F_fewest_dice.kp T.d_fewest_dice (pda_cons (pd_var 0) (pda_cons (pd_var 1) pda_nil))) pda_nil))))) pds_nil)
    (pds_one (pd_ret (pd_call (takes_of rfl rfl rfl rfl) (ok_law_alike T) (hr.mono (by decide)) T.m_law_alike T.F_law_alike.kp T.d_law_alike (pda_cons (pd_var 5) (pda_cons (pd_lst (pda_cons (pd_var 3) (pda_cons (pd_var 4) pda_nil))) pda_nil)))))))), fun ds S Q h => ?_⟩)
  · obtain ⟨_, _, _, rfl, _⟩ := h
    rfl
  · obtain ⟨qs, ss, nm, rfl, hb, hd, h⟩ := h
    walk_at "w"
    refine ⟨qs, ss, rfl, hb, hd, fun b1 hb1 => ?_⟩
    walk_at "w"
    refine ⟨qs, ss, rfl, hb, hd, fun d1 hf1 => ?_⟩
    walk_at "w"
    refine ⟨qs, ss, rfl, hb, hd, fun b2 hb2 => ?_⟩
    have e2 : b2 = b1 := by rw [Bool.eq_iff_iff, hb1, hb2]
    subst e2
    walk_at "w"
    refine ⟨qs, ss, rfl, hb, hd, fun d2 hf2 => ?_⟩
    cases hf1.uniq hf2
    walk_at "w"
    intro p0 hp0
    generalize hSS : DL.sup S p0 _ = S0
    obtain ⟨e0, x0, -⟩ := sup_of hSS
    have x0 := x0 hp0
    clear hSS
    walk_at "w"
    cases nm with
    | true =>
      walk_at "g"
      refine ⟨qs, ss, rfl, hb, hd, fun b3 hb3 => ?_⟩
      have e3 : b3 = b2 := by rw [Bool.eq_iff_iff, hb1, hb3]
      subst e3
      walk_at "w"
      refine ⟨qs, ss, rfl, hb, hd, fun d3 hf3 => ?_⟩
      cases hf1.uniq hf3
      walk_at "w"
      intro p3 hp3
      generalize hSS : DL.sup S0 p3 _ = S3
      obtain ⟨e3, x3, -⟩ := sup_of hSS
      have x3 := x3 hp3
      clear hSS
      walk_at "w"
      intro p1 hp1
      generalize hSS : DL.sup S3 p1 _ = S4
      obtain ⟨e4, x4, -⟩ := sup_of hSS
      have x4 := x4 hp1
      clear hSS
      walk_at "w"
      refine ⟨_, _, rfl, two_same (x4 _ _ e3) e4 rfl hf1.same, ?_⟩
      walk_at "g"
      exact ⟨S, (x0.trans x3).trans x4, h⟩
    | false =>
      walk_at "g"
      intro p1 hp1
      generalize hSS : DL.sup S0 p1 _ = S4
      obtain ⟨e4, x4, -⟩ := sup_of hSS
      have x4 := x4 hp1
      clear hSS
      walk_at "w"
      refine ⟨_, _, rfl, two_same (x4 _ _ e0) e4 rfl hf1.same, ?_⟩
      walk_at "g"
      exact ⟨S, x0.trans x4, h⟩
end K25
set_option Elab.async false
set_option linter.all false
set_option maxRecDepth 100000
set_option maxHeartbeats 4000000
namespace K25
open PySem PySem.Spec PyProof.Rows L2 DL
local macro_rules | `(tactic| walk_at "w") => `(tactic| conv => whnf)
local macro_rules | `(tactic| walk_at "g") => `(tactic| ((conv => whnf); repeat' (first | (refine IFB.t ?_ ?_; rfl; conv => whnf) | (refine IFB.f ?_ ?_; rfl; conv => whnf))))
def sp_law : DSp := fun ds S Q _ => ∃ xs : List Int, ds = [.fro (xs.map D.int)] ∧ xs.length ≤ 63 ∧ ∀ S', Q (.bl true) S'
theorem ok_law {P : Program} {w : World} {K : PySem.W.Frag} {mg : Str → Option Value} {base : Heap} (T : Txt K mg) : FnOk P w K mg base (L2.CX P w) 8 T.a_law T.fd_law ["script"] (toSp K sp_law) := by
  refine fnD T.F_law sc_law (fun ds S Q E h => ?_) (fun cdv A outer s H E RX hr => ⟨_, (pds_cons (pd_set 1 sc_law.nd pd_non)
    (pds_cons (pd_for (passes_of rfl) rfl (pdi_range1 T.b_range (pda_cons (pd_blt (cd_max2 rfl) T.b_max (by decide +kernel) (pda_cons pd_int (pda_cons (pd_blt (cd_min2 rfl) T.b_min (by decide +kernel) (pda_cons pd_int (pda_cons (pd_blt cd_len T.b_len (by decide +kernel) (pda_cons (pd_var 0) pda_nil)) pda_nil))) pda_nil))) pda_nil)) (pdg_name 2 sc_law.nd) (pds_cons (pd_set 3 sc_law.nd (pd_call (takes_of rfl rfl rfl rfl) (ok_law_stock T) (hr.mono (by decide)) T.m_law_stock T.F_law_stock.kp T.d_law_stock (pda_cons (pd_var 0) (pda_cons (pd_var 2) pda_nil))))
    (pds_one (pd_for (passes_of rfl) rfl (pdi_range1 T.b_range (pda_cons pd_int pda_nil)) (pdg_name 4 sc_law.nd) (pds_cons (pd_par 5 6 rfl sc_law.nd (pda_cons (pd_call (takes_of rfl rfl rfl rfl) (ok_law_shares T) (hr.mono (by decide)) T.m_law_shares T.F_law_shares.kp T.d_law_shares (pda_cons (pd_var 3) (pda_cons pd_int pda_nil))) (pda_cons (pd_call (takes_of rfl rfl rfl rfl) (ok_law_dice T) (hr.mono (by decide)) T.m_law_dice T.F_law_dice.kp T.d_law_dice (pda_cons (pd_var 3) pda_nil)) pda_nil)) rfl)
    (pds_cons (pd_set 1 sc_law.nd (pd_if (pdt_cmp od_is (pd_var 1) pd_non) (pd_tup (pda_cons (pd_var 5) (pda_cons (pd_var 6) pda_nil))) (pd_var 1)))
    (pds_cons (pd_ifS (PDW.pt (pdw_or (pdt_not (pdt_tru (pd_call (takes_of rfl rfl rfl rfl) (ok_law_right T) (hr.mono (by decide)) T.m_law_right T.F_law_right.kp T.d_law_right (pda_cons (pd_var 5) (pda_cons (pd_var 6) (pda_cons (pd_cmp (od_eq hr.units) (pd_var 4) pd_int) pda_nil)))))) (pdw_or (pdt_cmp od_notB (pd_call (takes_of rfl rfl rfl rfl) (ok_is_dice T) (hr.mono (by decide)) T.m_is_dice T.F_is_dice.kp T.d_is_dice (pda_cons (pd_var 6) pda_nil)) pd_bl) (pdw_or1 (pdt_cmp od_notB (pd_callK0 (takes_of rfl rfl rfl rfl) (ok_is_dice T) (hr.mono (by decide)) T.m_is_dice T.F_is_dice.kp (kb_is_dice_0_told T) (pdk_cons (pd_var 6) pdk_nil)) pd_bl))))) (pds_one (pd_ret pd_bl)) pds_nil)
    (pds_cons (pd_for (passes_of rfl) rfl (pdi_range1 T.b_range (pda_cons pd_int pda_nil)) (pdg_name 7 sc_law.nd) (pds_cons (pd_set 8 sc_law.nd (pd_call (takes_of rfl rfl rfl rfl) (ok_law_near T) (hr.mono (by decide)) T.m_law_near T.F_law_near.kp T.d_law_near (pda_cons (pd_var 3) (pda_cons (pd_var 6) pda_nil))))
    (pds_one (pd_ifS (pdt_not (pdt_tru (pd_call (takes_of rfl rfl rfl rfl) (ok_law_alike T) (hr.mono (by decide)) T.m_law_alike T.F_law_alike.kp T.d_law_alike (pda_cons (pd_call (takes_of rfl rfl rfl rfl) (ok_is_dice T) (hr.mono (by decide)) T.m_is_dice T.F_is_dice.kp T.d_is_dice (pda_cons (pd_var 8) pda_nil)) (pda_cons (pd_call (takes_of rfl rfl rfl rfl) (ok_law_is_dice T) (hr.mono (by decide)) T.m_law_is_dice T.F_law_is_dice.kp T.d_law_is_dice (pda_cons (pd_var 8) pda_nil)) pda_nil))))) (pds_one (pd_ret pd_bl)) pds_nil))))
    (pds_cons (pd_set 9 sc_law.nd (pd_bin od_add (pd_ix (pd_lst (pda_cons pd_int (pda_cons (pd_bin od_pow pd_int pd_int) (pda_cons (pd_bin od_pow pd_int pd_int) (pda_cons (pd_bin od_pow pd_int pd_int) pda_nil))))) (pd_call (takes_of rfl rfl rfl rfl) (ok_law_pick T) (hr.mono (by decide)) T.m_law_pick T.F_law_pick.kp T.d_law_pick (pda_cons (pd_var 3) (pda_cons pd_int pda_nil)))) (pd_call (takes_of rfl rfl rfl rfl) (ok_law_pick T) (hr.mono (by decide)) T.m_law_pick T.F_law_pick.kp T.d_law_pick (pda_cons (pd_var 3) (pda_cons pd_int pda_nil)))))
    (pds_one (pd_for (passes_of rfl) rfl (pdi_it (pd_lst (pda_cons (pd_bin od_add (pd_var 6) (pd_tup (pda_cons (pd_var 9) (pda_cons (pd_bin od_add (pd_var 9) pd_int) pda_nil)))) (pda_cons (pd_bin od_add (pd_var 6) (pd_tup (pda_cons (pd_var 9) (pda_cons (pd_var 9) pda_nil)))) (pda_cons (pd_bin od_add (pd_bin od_add (pd_tup (pda_cons (pd_bin od_add (pd_var 9) pd_int) pda_nil)) (pd_var 6)) (pd_tup (pda_cons (pd_var 9) pda_nil))) (pda_cons (pd_tup (pda_cons (pd_var 9) pda_nil)) pda_nil)))))) (pdg_name 8 sc_law.nd) (pds_one (pd_ifS (pdt_not (pdt_tru (pd_call (takes_of rfl rfl rfl rfl) (ok_law_alike T) (hr.mono (by decide)) T.m_law_alike T.F_law_alike.kp T.d_law_alike (pda_cons (pd_call (takes_of rfl rfl rfl rfl) (ok_is_dice T) (hr.mono (by decide)) T.m_is_dice T.F_is_dice.kp T.d_is_dice (pda_cons (pd_var 8) pda_nil)) (pda_cons (pd_call (takes_of rfl rfl rfl rfl) (ok_law_is_dice T) (hr.mono (by decide)) T.m_law_is_dice T.F_law_is_dice.kp T.d_law_is_dice (pda_cons (pd_var 8) pda_nil)) pda_nil))))) (pds_one (pd_ret pd_bl)) pds_nil)))))))))))))
    (pds_one (pd_ret (pd_call (takes_of rfl rfl rfl rfl) (ok_law_right T) (hr.mono (by decide)) T.m_law_right T.F_law_right.kp T.d_law_right (pda_cons (pd_ix (pd_var 1) pd_int) (pda_cons (pd_ix (pd_var 1) pd_int) (pda_cons pd_bl pda_nil)))))))), fun ds S Q h => ?_⟩)
  · obtain ⟨_, rfl, _⟩ := h
    rfl
  · obtain ⟨xs, rfl, hxs, h⟩ := h
    walk_at "w"
    refine ⟨_, .inr rfl, ?_⟩
    walk_at "w"
    generalize hn : (if (1 : Int) < _ then _ else (1 : Int)) = n
    have hn8 : n ≤ 63 := by rw [← hn]; split <;> (try split) <;> omega
    have hn0 : 1 ≤ n := by rw [← hn]; split <;> omega
    clear hn
    refine ⟨⟨by omega, by omega⟩, for_rg (fun i ρ' S' => ∃ o1 o2 o3 o4 o5 o6 o7 o8 o9, ρ' = [some (.fro (xs.map D.int)), some o1, o2, o3, o4, o5, o6, o7, o8, o9] ∧ ((i = 0 ∧ o1 = .non) ∨ ∃ qs ss, o1 = .tup [shD qs, nats ss] ∧ BSh qs ∧ DiceOk ss)) ⟨_, _, _, _, _, _, _, _, _, rfl, .inl ⟨rfl, rfl⟩⟩ ?_ ?_⟩
    · rintro i _ S1 hi ⟨o1, o2, o3, o4, o5, o6, o7, o8, o9, rfl, ho⟩
      walk_at "w"
      refine ⟨xs, 0 + (i : Int), rfl, by omega, by omega, ?_⟩
      rintro a S2 - hd2 -
      walk_at "w"
      refine ⟨⟨by decide, by decide⟩, for_rg (fun t ρ' S' => ∃ o1 o3 o4 o5 o6 o7 o8, ρ' = [some (.fro (xs.map D.int)), some o1, some (.int (0 + (i : Int))), some (.ref a), o3, o4, o5, o6, o7, o8] ∧ ((i = 0 ∧ t = 0 ∧ o1 = .non) ∨ ∃ qs ss, o1 = .tup [shD qs, nats ss] ∧ BSh qs ∧ DiceOk ss) ∧ StockD S' a (300 * t)) ⟨_, _, _, _, _, _, _, rfl, (by rcases ho with ⟨h1, h2⟩ | h1; exact .inl ⟨h1, rfl, h2⟩; exact .inr h1), hd2.mono (by omega)⟩ ?_ ?_⟩
      · rintro t _ S3 ht ⟨p1, p3, p4, p5, p6, p7, p8, rfl, hp, hd3⟩
        have ht : t < 3 := ht
        walk_at "w"
        refine ⟨a, 6, _, rfl, hd3, by omega, by omega, by decide, by decide, ?_⟩
        rintro qs S4 hqs hd4 -
        walk_at "w"
        refine ⟨a, _, rfl, hd4, by omega, by omega, ?_⟩
        rintro ss S5 hss hd5 -
        walk_at "w"
        rcases hp with ⟨-, -, rfl⟩ | ⟨fqs, fss, rfl, hfq, hfs⟩
        · walk_at "g"
          refine ⟨qs, ss, _, rfl, hqs, hss, ?_⟩
          walk_at "g"
          refine ⟨_, rfl, hss.odd, ?_⟩
          rw [hss.isDice]
          walk_at "g"
          refine ⟨_, rfl, hss.odd, ?_⟩
          rw [hss.isDice]
          walk_at "g"
          refine ⟨⟨by decide, by decide⟩, for_rg (fun k ρ' S' => ∃ o6 o7 o8, ρ' = [some (.fro (xs.map D.int)), some (.tup [shD qs, nats ss]), some (.int (0 + (i : Int))), some (.ref a), some (.int (0 + (t : Int))), some (shD qs), some (nats ss), o6, o7, o8] ∧ StockD S' a (300 * t + 230 + 10 * k)) ⟨_, _, _, rfl, hd5.mono (by omega)⟩ ?_ ?_⟩
          · rintro k _ S6 hk ⟨q6, q7, q8, rfl, hd6⟩
            have hk : k < 4 := hk
            walk_at "w"
            refine ⟨a, ss, _, rfl, hss, hd6, by omega, by omega, ?_⟩
            rintro d S7 hod hd7 -
            walk_at "w"
            refine ⟨d, rfl, hod, ?_⟩
            walk_at "w"
            refine ⟨d, rfl, hod, ?_⟩
            walk_at "w"
            refine ⟨_, _, rfl, (show sameD _ 5 (D.bl _) (D.bl _) from rfl), ?_⟩
            walk_at "g"
            exact ⟨_, _, _, rfl, hd7.mono (by omega)⟩
          · rintro _ S6 ⟨q6, q7, q8, rfl, hd6⟩
            have hd6 : StockD S6 a (300 * t + 230 + 10 * (4 : Nat)) := hd6
            walk_at "w"
            refine ⟨by decide, ?_⟩
            walk_at "w"
            refine ⟨by decide, ?_⟩
            walk_at "w"
            refine ⟨by decide, ?_⟩
            walk_at "w"
            intro p7 hp7
            have hna7 := hd6.ne hp7
            generalize hSS : DL.sup S6 p7 _ = S7
            obtain ⟨e7, x7, -⟩ := sup_of hSS
            have hd7 := hd6.ext (x7 hp7)
            clear hSS
            walk_at "w"
            refine ⟨a, 4, _, rfl, hd7, by omega, by decide, by decide, ?_⟩
            rintro v S8 v0 v1 hd8 fr8
            have e8 := (fr8 p7 hna7).trans e7
            obtain ⟨g0, eg⟩ : ∃ g0 : Int, atI [D.int 100, .int (10 ^ (9 : Int).toNat), .int (10 ^ (30 : Int).toNat), .int (10 ^ (60 : Int).toNat)] v = some (.int g0) := by
              obtain ⟨n, rfl⟩ := Int.eq_ofNat_of_zero_le v0
              have hn3 : n < 4 := by omega
              match n, hn3 with
              | 0, _ => exact ⟨_, rfl⟩
              | 1, _ => exact ⟨_, rfl⟩
              | 2, _ => exact ⟨_, rfl⟩
              | 3, _ => exact ⟨_, rfl⟩
            walk_at "w"
            refine ⟨_, _, .inl ⟨p7, rfl, e8⟩, eg, ?_⟩
            walk_at "w"
            refine ⟨a, 1000, _, rfl, hd8, by omega, by decide, by decide, ?_⟩
            rintro u S9 u0 u1 hd9 fr9
            have hl5 := hss.len
            have hl0 : (ss.map (fun (s : Nat) => D.int (s : Int))).length ≤ 5 := by rw [List.length_map]; exact hl5
            have hkn : ∀ {S : Sto}, ∀ x ∈ ss.map (fun (s : Nat) => D.int (s : Int)), Kn S x := kn_nats
            walk_at "w"
            generalize g0 + u = gr at *
            refine ⟨by show _ + 2 ≤ 16777216; omega, ?_⟩
            walk_at "w"
            refine ⟨by show _ + 2 ≤ 16777216; omega, ?_⟩
            walk_at "w"
            refine ⟨by show 1 + _ ≤ 16777216; omega, ?_⟩
            walk_at "w"
            refine ⟨by rw [List.length_append]; show 1 + _ + 1 ≤ 16777216; omega, ?_⟩
            walk_at "w"
            intro p10 hp10
            have hna10 := hd9.ne hp10
            generalize hSS : DL.sup S9 p10 _ = S10
            obtain ⟨e10, x10, -⟩ := sup_of hSS
            have hd10 := hd9.ext (x10 hp10)
            clear hSS
            have hall : ∀ {S : Sto}, ∀ z ∈ [D.tup (ss.map (fun (s : Nat) => D.int (s : Int)) ++ [.int gr, .int (gr + 1)]), .tup (ss.map (fun (s : Nat) => D.int (s : Int)) ++ [.int gr, .int gr]), .tup ([.int (gr + 1)] ++ ss.map (fun (s : Nat) => D.int (s : Int)) ++ [.int gr]), .tup [.int gr]], OddD S z := by
              intro S z hz
              have h1 : ∀ x ∈ [D.int gr, .int (gr + 1)], Kn S x := fun x hx => by
                rcases List.mem_cons.mp hx with rfl | hx
                · trivial
                · cases List.mem_singleton.mp hx; trivial
              have h2 : ∀ x ∈ [D.int gr, .int gr], Kn S x := fun x hx => by
                rcases List.mem_cons.mp hx with rfl | hx
                · trivial
                · cases List.mem_singleton.mp hx; trivial
              have h3 : ∀ y : Int, ∀ x ∈ [D.int y], Kn S x := fun y x hx => by cases List.mem_singleton.mp hx; trivial
              rcases List.mem_cons.mp hz with rfl | hz
              · exact odd_tup (fun x hx => (List.mem_append.mp hx).elim (hkn x) (h1 x)) (by simp only [List.length_append, List.length_cons, List.length_nil]; omega)
              rcases List.mem_cons.mp hz with rfl | hz
              · exact odd_tup (fun x hx => (List.mem_append.mp hx).elim (hkn x) (h2 x)) (by simp only [List.length_append, List.length_cons, List.length_nil]; omega)
              rcases List.mem_cons.mp hz with rfl | hz
              · exact odd_tup (fun x hx => (List.mem_append.mp hx).elim (fun hx => (List.mem_append.mp hx).elim (h3 _ x) (hkn x)) (h3 _ x)) (by simp only [List.length_append, List.length_cons, List.length_nil]; omega)
              · cases List.mem_singleton.mp hz
                exact odd_tup (h3 _) (by show 1 ≤ 100000; decide)
            walk_at "w"
            refine ⟨_, .inl ⟨p10, rfl, e10⟩, ?_⟩
            refine for_xs (fun k ρ' S' => S' = S10 ∧ ∃ o6 o7 o8, ρ' = [some (.fro (xs.map D.int)), some (.tup [shD qs, nats ss]), some (.int (0 + (i : Int))), some (.ref a), some (.int (0 + (t : Int))), some (shD qs), some (nats ss), o6, o7, o8]) ⟨rfl, _, _, _, rfl⟩ (fun _ _ _ h => by rw [h.1]; exact .inl ⟨p10, rfl, e10⟩) ?_ ?_
            · rintro k z _ _ hz ⟨rfl, r6, r7, r8, rfl⟩
              have hoz := fun S => @hall S z (List.mem_of_getElem? hz)
              walk_at "w"
              refine ⟨z, rfl, hoz _, ?_⟩
              walk_at "w"
              refine ⟨z, rfl, hoz _, ?_⟩
              walk_at "w"
              refine ⟨_, _, rfl, (show sameD _ 5 (D.bl _) (D.bl _) from rfl), ?_⟩
              walk_at "g"
              exact ⟨rfl, _, _, _, rfl⟩
            · rintro _ _ ⟨rfl, r6, r7, r8, rfl⟩
              walk_at "w"
              exact ⟨_, _, _, _, _, _, _, rfl, .inr ⟨_, _, rfl, hqs, hss⟩, hd10.mono (by omega)⟩
        · walk_at "g"
          refine ⟨qs, ss, _, rfl, hqs, hss, ?_⟩
          walk_at "g"
          refine ⟨_, rfl, hss.odd, ?_⟩
          rw [hss.isDice]
          walk_at "g"
          refine ⟨_, rfl, hss.odd, ?_⟩
          rw [hss.isDice]
          walk_at "g"
          refine ⟨⟨by decide, by decide⟩, for_rg (fun k ρ' S' => ∃ o6 o7 o8, ρ' = [some (.fro (xs.map D.int)), some (.tup [shD fqs, nats fss]), some (.int (0 + (i : Int))), some (.ref a), some (.int (0 + (t : Int))), some (shD qs), some (nats ss), o6, o7, o8] ∧ StockD S' a (300 * t + 230 + 10 * k)) ⟨_, _, _, rfl, hd5.mono (by omega)⟩ ?_ ?_⟩
          · rintro k _ S6 hk ⟨q6, q7, q8, rfl, hd6⟩
            have hk : k < 4 := hk
            walk_at "w"
            refine ⟨a, ss, _, rfl, hss, hd6, by omega, by omega, ?_⟩
            rintro d S7 hod hd7 -
            walk_at "w"
            refine ⟨d, rfl, hod, ?_⟩
            walk_at "w"
            refine ⟨d, rfl, hod, ?_⟩
            walk_at "w"
            refine ⟨_, _, rfl, (show sameD _ 5 (D.bl _) (D.bl _) from rfl), ?_⟩
            walk_at "g"
            exact ⟨_, _, _, rfl, hd7.mono (by omega)⟩
          · rintro _ S6 ⟨q6, q7, q8, rfl, hd6⟩
            have hd6 : StockD S6 a (300 * t + 230 + 10 * (4 : Nat)) := hd6
            walk_at "w"
            refine ⟨by decide, ?_⟩
            walk_at "w"
            refine ⟨by decide, ?_⟩
            walk_at "w"
            refine ⟨by decide, ?_⟩
            walk_at "w"
            intro p7 hp7
            have hna7 := hd6.ne hp7
            generalize hSS : DL.sup S6 p7 _ = S7
            obtain ⟨e7, x7, -⟩ := sup_of hSS
            have hd7 := hd6.ext (x7 hp7)
            clear hSS
            walk_at "w"
            refine ⟨a, 4, _, rfl, hd7, by omega, by decide, by decide, ?_⟩
            rintro v S8 v0 v1 hd8 fr8
            have e8 := (fr8 p7 hna7).trans e7
            obtain ⟨g0, eg⟩ : ∃ g0 : Int, atI [D.int 100, .int (10 ^ (9 : Int).toNat), .int (10 ^ (30 : Int).toNat), .int (10 ^ (60 : Int).toNat)] v = some (.int g0) := by
              obtain ⟨n, rfl⟩ := Int.eq_ofNat_of_zero_le v0
              have hn3 : n < 4 := by omega
              match n, hn3 with
              | 0, _ => exact ⟨_, rfl⟩
              | 1, _ => exact ⟨_, rfl⟩
              | 2, _ => exact ⟨_, rfl⟩
              | 3, _ => exact ⟨_, rfl⟩
            walk_at "w"
            refine ⟨_, _, .inl ⟨p7, rfl, e8⟩, eg, ?_⟩
            walk_at "w"
            refine ⟨a, 1000, _, rfl, hd8, by omega, by decide, by decide, ?_⟩
            rintro u S9 u0 u1 hd9 fr9
            have hl5 := hss.len
            have hl0 : (ss.map (fun (s : Nat) => D.int (s : Int))).length ≤ 5 := by rw [List.length_map]; exact hl5
            have hkn : ∀ {S : Sto}, ∀ x ∈ ss.map (fun (s : Nat) => D.int (s : Int)), Kn S x := kn_nats
            walk_at "w"
            generalize g0 + u = gr at *
            refine ⟨by show _ + 2 ≤ 16777216; omega, ?_⟩
            walk_at "w"
            refine ⟨by show _ + 2 ≤ 16777216; omega, ?_⟩
            walk_at "w"
            refine ⟨by show 1 + _ ≤ 16777216; omega, ?_⟩
            walk_at "w"
            refine ⟨by rw [List.length_append]; show 1 + _ + 1 ≤ 16777216; omega, ?_⟩
            walk_at "w"
            intro p10 hp10
            have hna10 := hd9.ne hp10
            generalize hSS : DL.sup S9 p10 _ = S10
            obtain ⟨e10, x10, -⟩ := sup_of hSS
            have hd10 := hd9.ext (x10 hp10)
            clear hSS
            have hall : ∀ {S : Sto}, ∀ z ∈ [D.tup (ss.map (fun (s : Nat) => D.int (s : Int)) ++ [.int gr, .int (gr + 1)]), .tup (ss.map (fun (s : Nat) => D.int (s : Int)) ++ [.int gr, .int gr]), .tup ([.int (gr + 1)] ++ ss.map (fun (s : Nat) => D.int (s : Int)) ++ [.int gr]), .tup [.int gr]], OddD S z := by
              intro S z hz
              have h1 : ∀ x ∈ [D.int gr, .int (gr + 1)], Kn S x := fun x hx => by
                rcases List.mem_cons.mp hx with rfl | hx
                · trivial
                · cases List.mem_singleton.mp hx; trivial
              have h2 : ∀ x ∈ [D.int gr, .int gr], Kn S x := fun x hx => by
                rcases List.mem_cons.mp hx with rfl | hx
                · trivial
                · cases List.mem_singleton.mp hx; trivial
              have h3 : ∀ y : Int, ∀ x ∈ [D.int y], Kn S x := fun y x hx => by cases List.mem_singleton.mp hx; trivial
              rcases List.mem_cons.mp hz with rfl | hz
              · exact odd_tup (fun x hx => (List.mem_append.mp hx).elim (hkn x) (h1 x)) (by simp only [List.length_append, List.length_cons, List.length_nil]; omega)
              rcases List.mem_cons.mp hz with rfl | hz
              · exact odd_tup (fun x hx => (List.mem_append.mp hx).elim (hkn x) (h2 x)) (by simp only [List.length_append, List.length_cons, List.length_nil]; omega)
              rcases List.mem_cons.mp hz with rfl | hz
              · exact odd_tup (fun x hx => (List.mem_append.mp hx).elim (fun hx => (List.mem_append.mp hx).elim (h3 _ x) (hkn x)) (h3 _ x)) (by simp only [List.length_append, List.length_cons, List.length_nil]; omega)
              · cases List.mem_singleton.mp hz
                exact odd_tup (h3 _) (by show 1 ≤ 100000; decide)
            walk_at "w"
            refine ⟨_, .inl ⟨p10, rfl, e10⟩, ?_⟩
            refine for_xs (fun k ρ' S' => S' = S10 ∧ ∃ o6 o7 o8, ρ' = [some (.fro (xs.map D.int)), some (.tup [shD fqs, nats fss]), some (.int (0 + (i : Int))), some (.ref a), some (.int (0 + (t : Int))), some (shD qs), some (nats ss), o6, o7, o8]) ⟨rfl, _, _, _, rfl⟩ (fun _ _ _ h => by rw [h.1]; exact .inl ⟨p10, rfl, e10⟩) ?_ ?_
            · rintro k z _ _ hz ⟨rfl, r6, r7, r8, rfl⟩
              have hoz := fun S => @hall S z (List.mem_of_getElem? hz)
              walk_at "w"
              refine ⟨z, rfl, hoz _, ?_⟩
              walk_at "w"
              refine ⟨z, rfl, hoz _, ?_⟩
              walk_at "w"
              refine ⟨_, _, rfl, (show sameD _ 5 (D.bl _) (D.bl _) from rfl), ?_⟩
              walk_at "g"
              exact ⟨rfl, _, _, _, rfl⟩
            · rintro _ _ ⟨rfl, r6, r7, r8, rfl⟩
              walk_at "w"
              exact ⟨_, _, _, _, _, _, _, rfl, .inr ⟨_, _, rfl, hfq, hfs⟩, hd10.mono (by omega)⟩
      · rintro _ S3 ⟨p1, p3, p4, p5, p6, p7, p8, rfl, hp, hd3⟩
        walk_at "w"
        refine ⟨_, _, _, _, _, _, _, _, _, rfl, .inr ?_⟩
        rcases hp with ⟨_, h2, _⟩ | h2
        · exact absurd (show (3 : Nat) = 0 from h2) (by decide)
        · exact h2
    · rintro _ S1 ⟨o1, o2, o3, o4, o5, o6, o7, o8, o9, rfl, ho⟩
      have hok : ∃ qs ss, o1 = .tup [shD qs, nats ss] ∧ BSh qs ∧ DiceOk ss := by
        rcases ho with ⟨h1, _⟩ | h1
        · omega
        · exact h1
      obtain ⟨qs, ss, rfl, hqs, hss⟩ := hok
      walk_at "w"
      refine ⟨_, rfl, ?_⟩
      walk_at "w"
      refine ⟨_, rfl, ?_⟩
      walk_at "w"
      refine ⟨qs, ss, true, rfl, hqs, hss, ?_⟩
      walk_at "w"
      exact h S1
end K25
set_option Elab.async false
set_option linter.all false
set_option maxRecDepth 100000
set_option maxHeartbeats 4000000
namespace K25
open PySem PySem.Spec PyProof.Rows L2 DL
local macro_rules | `(tactic| walk_at "w") => `(tactic| conv => whnf)
local macro_rules | `(tactic| walk_at "g") => `(tactic| ((conv => whnf); repeat' (first | (refine IFB.t ?_ ?_; rfl; conv => whnf) | (refine IFB.f ?_ ?_; rfl; conv => whnf))))
theorem end_law (ns : List Int) (h : ns.length ≤ 63) (S : Sto) : sp_law [.fro (ns.map D.int)] S (fun d _ => d = .bl true) (fun _ _ _ => False) := ⟨ns, rfl, h, fun _ => rfl⟩
theorem all_of {l : PySem.W.OpenLaw} {w : World} {K : PySem.W.Frag} {mg : Str → Option Value} {fa : Addr} (T : Txt K mg) (hfa : mg "law" = some (.ref fa)) :
    ∃ fd : FuncData, (∀ (s : Shared) (u : Value), BindsTo s fd ⟨[u], []⟩ [("script", u)]) ∧ ∀ base : Heap, K.In base → base.Ns mainGlobals mg → FnOk l.prog w K mg base (L2.CX l.prog w) 8 fa fd ["script"] (toSp K sp_law) := by
  have e := hfa.symm.trans T.m_law
  cases e
  exact ⟨T.fd_law, law_binds T.F_law fun _ _ _ _ _ _ _ => rfl, fun base _ _ => ok_law T⟩
theorem all_mk {l : PySem.W.OpenLaw} {w : World} {K : PySem.W.Frag} {h : Heap} {mg : Str → Option Value} {fa : Addr} (X : K.In h) (G : h.Ns mainGlobals mg) (hfa : mg "law" = some (.ref fa))
    {g0 : Addr} {od0 an0 : Option Addr} {sl0 : Array (Option Value)} {oc0 kV0 dc0 pm0 cd0 ct0 : Value}
    {g1 : Addr} {od1 an1 : Option Addr} {sl1 : Array (Option Value)} {oc1 kV1 dc1 pm1 cd1 ct1 : Value}
    {g2 : Addr} {od2 an2 : Option Addr} {sl2 : Array (Option Value)} {oc2 kV2 dc2 pm2 cd2 ct2 : Value}
    {g3 : Addr} {od3 an3 : Option Addr} {sl3 : Array (Option Value)} {oc3 kV3 dc3 pm3 cd3 ct3 : Value}
    {g4 : Addr} {od4 an4 : Option Addr} {sl4 : Array (Option Value)} {oc4 kV4 dc4 pm4 cd4 ct4 : Value}
    {g5 : Addr} {od5 an5 : Option Addr} {sl5 : Array (Option Value)} {oc5 kV5 dc5 pm5 cd5 ct5 : Value}
    {g6 : Addr} {od6 an6 : Option Addr} {sl6 : Array (Option Value)} {oc6 kV6 dc6 pm6 cd6 ct6 : Value}
    {g7 : Addr} {od7 an7 : Option Addr} {sl7 : Array (Option Value)} {oc7 kV7 dc7 pm7 cd7 ct7 : Value}
    {g8 : Addr} {od8 an8 : Option Addr} {sl8 : Array (Option Value)} {oc8 kV8 dc8 pm8 cd8 ct8 : Value}
    {g9 : Addr} {od9 an9 : Option Addr} {sl9 : Array (Option Value)} {oc9 kV9 dc9 pm9 cd9 ct9 : Value}
    {g10 : Addr} {od10 an10 : Option Addr} {sl10 : Array (Option Value)} {oc10 kV10 dc10 pm10 cd10 ct10 : Value}
    {g11 : Addr} {od11 an11 : Option Addr} {sl11 : Array (Option Value)} {oc11 kV11 dc11 pm11 cd11 ct11 : Value}
    {g12 : Addr} {od12 an12 : Option Addr} {sl12 : Array (Option Value)} {oc12 kV12 dc12 pm12 cd12 ct12 : Value}
    {g13 : Addr} {od13 an13 : Option Addr} {sl13 : Array (Option Value)} {oc13 kV13 dc13 pm13 cd13 ct13 : Value}
    {g14 : Addr} {od14 an14 : Option Addr} {sl14 : Array (Option Value)} {oc14 kV14 dc14 pm14 cd14 ct14 : Value}
    {g15 : Addr} {od15 an15 : Option Addr} {sl15 : Array (Option Value)} {oc15 kV15 dc15 pm15 cd15 ct15 : Value}
    {g16 : Addr} {od16 an16 : Option Addr} {sl16 : Array (Option Value)} {oc16 kV16 dc16 pm16 cd16 ct16 : Value}
    {g17 : Addr} {od17 an17 : Option Addr} {sl17 : Array (Option Value)} {oc17 kV17 dc17 pm17 cd17 ct17 : Value}
    {g18 : Addr} {od18 an18 : Option Addr} {sl18 : Array (Option Value)} {oc18 kV18 dc18 pm18 cd18 ct18 : Value}
    {g19 : Addr} {od19 an19 : Option Addr} {sl19 : Array (Option Value)} {oc19 kV19 dc19 pm19 cd19 ct19 : Value}
    {g20 : Addr} {od20 an20 : Option Addr} {sl20 : Array (Option Value)} {oc20 kV20 dc20 pm20 cd20 ct20 : Value}
    {g21 : Addr} {od21 an21 : Option Addr} {sl21 : Array (Option Value)} {oc21 kV21 dc21 pm21 cd21 ct21 : Value}
    {g22 : Addr} {od22 an22 : Option Addr} {sl22 : Array (Option Value)} {oc22 kV22 dc22 pm22 cd22 ct22 : Value}
    {g23 : Addr} {od23 an23 : Option Addr} {sl23 : Array (Option Value)} {oc23 kV23 dc23 pm23 cd23 ct23 : Value}
    {g24 : Addr} {od24 an24 : Option Addr} {sl24 : Array (Option Value)} {oc24 kV24 dc24 pm24 cd24 ct24 : Value}
    {g25 : Addr} {od25 an25 : Option Addr} {sl25 : Array (Option Value)} {oc25 kV25 dc25 pm25 cd25 ct25 : Value}
    {g26 : Addr} {od26 an26 : Option Addr} {sl26 : Array (Option Value)} {oc26 kV26 dc26 pm26 cd26 ct26 : Value}
    {g27 : Addr} {od27 an27 : Option Addr} {sl27 : Array (Option Value)} {oc27 kV27 dc27 pm27 cd27 ct27 : Value}
    {g28 : Addr} {od28 an28 : Option Addr} {sl28 : Array (Option Value)} {oc28 kV28 dc28 pm28 cd28 ct28 : Value}
    {g29 : Addr} {od29 an29 : Option Addr} {sl29 : Array (Option Value)} {oc29 kV29 dc29 pm29 cd29 ct29 : Value}
    {g30 : Addr} {od30 an30 : Option Addr} {sl30 : Array (Option Value)} {oc30 kV30 dc30 pm30 cd30 ct30 : Value}
    {g31 : Addr} {od31 an31 : Option Addr} {sl31 : Array (Option Value)} {oc31 kV31 dc31 pm31 cd31 ct31 : Value}
    {g32 : Addr} {od32 an32 : Option Addr} {sl32 : Array (Option Value)} {oc32 kV32 dc32 pm32 cd32 ct32 : Value}
    {g33 : Addr} {od33 an33 : Option Addr} {sl33 : Array (Option Value)} {oc33 kV33 dc33 pm33 cd33 ct33 : Value}
    {g34 : Addr} {od34 an34 : Option Addr} {sl34 : Array (Option Value)} {oc34 kV34 dc34 pm34 cd34 ct34 : Value}
    {zONE : Addr} {odONE : Option Addr} {nONE : Nat} {slONE : Array (Option Value)} {tONE0 : Tok} {tONE1 : Tok}
    {zZERO : Addr} {odZERO : Option Addr} {nZERO : Nat} {slZERO : Array (Option Value)} {tZERO0 : Tok} {tZERO1 : Tok}
    (a0 : PySem.W.nsIn K mainGlobals "is_integer" = some (some (.ref g0))) (l0 : K.lookup g0 = some ⟨oc0, od0, .func (PySem.W.fnOf "is_integer" "is_integer" (defArgs s_is_integer) (defBody s_is_integer) (defScope s_is_integer) .none kV0 dc0 pm0 an0 cd0 ct0), sl0⟩) (c0 : PySem.W.codeIn K cd0 "is_integer" = true) (k0 : PySem.W.keepIn K (.ref g0) = true)
    (a1 : PySem.W.nsIn K mainGlobals "is_pair" = some (some (.ref g1))) (l1 : K.lookup g1 = some ⟨oc1, od1, .func (PySem.W.fnOf "is_pair" "is_pair" (defArgs s_is_pair) (defBody s_is_pair) (defScope s_is_pair) .none kV1 dc1 pm1 an1 cd1 ct1), sl1⟩) (c1 : PySem.W.codeIn K cd1 "is_pair" = true) (k1 : PySem.W.keepIn K (.ref g1) = true)
    (a2 : PySem.W.nsIn K mainGlobals "lowest" = some (some (.ref g2))) (l2 : K.lookup g2 = some ⟨oc2, od2, .func (PySem.W.fnOf "lowest" "lowest" (defArgs s_lowest) (defBody s_lowest) (defScope s_lowest) .none kV2 dc2 pm2 an2 cd2 ct2), sl2⟩) (c2 : PySem.W.codeIn K cd2 "lowest" = true) (k2 : PySem.W.keepIn K (.ref g2) = true)
    (a3 : PySem.W.nsIn K mainGlobals "is_number_of" = some (some (.ref g3))) (l3 : K.lookup g3 = some ⟨oc3, od3, .func (PySem.W.fnOf "is_number_of" "is_number_of" (defArgs s_is_number_of) (defBody s_is_number_of) (defScope s_is_number_of) .none kV3 dc3 pm3 an3 cd3 ct3), sl3⟩) (c3 : PySem.W.codeIn K cd3 "is_number_of" = true) (k3 : PySem.W.keepIn K (.ref g3) = true)
    (a4 : PySem.W.nsIn K mainGlobals "sum_of_two" = some (some (.ref g4))) (l4 : K.lookup g4 = some ⟨oc4, od4, .func (PySem.W.fnOf "sum_of_two" "sum_of_two" (defArgs s_sum_of_two) (defBody s_sum_of_two) (defScope s_sum_of_two) .none kV4 dc4 pm4 an4 cd4 ct4), sl4⟩) (c4 : PySem.W.codeIn K cd4 "sum_of_two" = true) (k4 : PySem.W.keepIn K (.ref g4) = true)
    (a5 : PySem.W.nsIn K mainGlobals "sum_of_all" = some (some (.ref g5))) (l5 : K.lookup g5 = some ⟨oc5, od5, .func (PySem.W.fnOf "sum_of_all" "sum_of_all" (defArgs s_sum_of_all) (defBody s_sum_of_all) (defScope s_sum_of_all) .none kV5 dc5 pm5 an5 cd5 ct5), sl5⟩) (c5 : PySem.W.codeIn K cd5 "sum_of_all" = true) (k5 : PySem.W.keepIn K (.ref g5) = true)
    (a6 : PySem.W.nsIn K mainGlobals "is_shares_of" = some (some (.ref g6))) (l6 : K.lookup g6 = some ⟨oc6, od6, .func (PySem.W.fnOf "is_shares_of" "is_shares_of" (defArgs s_is_shares_of) (defBody s_is_shares_of) (defScope s_is_shares_of) .none kV6 dc6 pm6 an6 cd6 ct6), sl6⟩) (c6 : PySem.W.codeIn K cd6 "is_shares_of" = true) (k6 : PySem.W.keepIn K (.ref g6) = true)
    (a7 : PySem.W.nsIn K mainGlobals "check_shares" = some (some (.ref g7))) (l7 : K.lookup g7 = some ⟨oc7, od7, .func (PySem.W.fnOf "check_shares" "check_shares" (defArgs s_check_shares) (defBody s_check_shares) (defScope s_check_shares) .none kV7 dc7 pm7 an7 cd7 ct7), sl7⟩) (c7 : PySem.W.codeIn K cd7 "check_shares" = true) (k7 : PySem.W.keepIn K (.ref g7) = true)
    (a8 : PySem.W.nsIn K mainGlobals "is_dice_told" = some (some (.ref g8))) (l8 : K.lookup g8 = some ⟨oc8, od8, .func (PySem.W.fnOf "is_dice_told" "is_dice_told" (defArgs s_is_dice_told) (defBody s_is_dice_told) (defScope s_is_dice_told) .none kV8 dc8 pm8 an8 cd8 ct8), sl8⟩) (c8 : PySem.W.codeIn K cd8 "is_dice_told" = true) (k8 : PySem.W.keepIn K (.ref g8) = true)
    (a9 : PySem.W.nsIn K mainGlobals "check_dice" = some (some (.ref g9))) (l9 : K.lookup g9 = some ⟨oc9, od9, .func (PySem.W.fnOf "check_dice" "check_dice" (defArgs s_check_dice) (defBody s_check_dice) (defScope s_check_dice) .none kV9 dc9 pm9 an9 cd9 ct9), sl9⟩) (c9 : PySem.W.codeIn K cd9 "check_dice" = true) (k9 : PySem.W.keepIn K (.ref g9) = true)
    (a10 : PySem.W.nsIn K mainGlobals "common_part" = some (some (.ref g10))) (l10 : K.lookup g10 = some ⟨oc10, od10, .func (PySem.W.fnOf "common_part" "common_part" (defArgs s_common_part) (defBody s_common_part) (defScope s_common_part) .none kV10 dc10 pm10 an10 cd10 ct10), sl10⟩) (c10 : PySem.W.codeIn K cd10 "common_part" = true) (k10 : PySem.W.keepIn K (.ref g10) = true)
    (a11 : PySem.W.nsIn K mainGlobals "joint_bottom" = some (some (.ref g11))) (l11 : K.lookup g11 = some ⟨oc11, od11, .func (PySem.W.fnOf "joint_bottom" "joint_bottom" (defArgs s_joint_bottom) (defBody s_joint_bottom) (defScope s_joint_bottom) .none kV11 dc11 pm11 an11 cd11 ct11), sl11⟩) (c11 : PySem.W.codeIn K cd11 "joint_bottom" = true) (k11 : PySem.W.keepIn K (.ref g11) = true)
    (a12 : PySem.W.nsIn K mainGlobals "left_of" = some (some (.ref g12))) (l12 : K.lookup g12 = some ⟨oc12, od12, .func (PySem.W.fnOf "left_of" "left_of" (defArgs s_left_of) (defBody s_left_of) (defScope s_left_of) .none kV12 dc12 pm12 an12 cd12 ct12), sl12⟩) (c12 : PySem.W.codeIn K cd12 "left_of" = true) (k12 : PySem.W.keepIn K (.ref g12) = true)
    (a13 : PySem.W.nsIn K mainGlobals "are_bounded" = some (some (.ref g13))) (l13 : K.lookup g13 = some ⟨oc13, od13, .func (PySem.W.fnOf "are_bounded" "are_bounded" (defArgs s_are_bounded) (defBody s_are_bounded) (defScope s_are_bounded) .none kV13 dc13 pm13 an13 cd13 ct13), sl13⟩) (c13 : PySem.W.codeIn K cd13 "are_bounded" = true) (k13 : PySem.W.keepIn K (.ref g13) = true)
    (a14 : PySem.W.nsIn K mainGlobals "shortest_row" = some (some (.ref g14))) (l14 : K.lookup g14 = some ⟨oc14, od14, .func (PySem.W.fnOf "shortest_row" "shortest_row" (defArgs s_shortest_row) (defBody s_shortest_row) (defScope s_shortest_row) .none kV14 dc14 pm14 an14 cd14 ct14), sl14⟩) (c14 : PySem.W.codeIn K cd14 "shortest_row" = true) (k14 : PySem.W.keepIn K (.ref g14) = true)
    (a15 : PySem.W.nsIn K mainGlobals "is_dice" = some (some (.ref g15))) (l15 : K.lookup g15 = some ⟨oc15, od15, .func (PySem.W.fnOf "is_dice" "is_dice" (defArgs s_is_dice) (defBody s_is_dice) (defScope s_is_dice) .none kV15 dc15 pm15 an15 cd15 ct15), sl15⟩) (c15 : PySem.W.codeIn K cd15 "is_dice" = true) (k15 : PySem.W.keepIn K (.ref g15) = true)
    (a16 : PySem.W.nsIn K mainGlobals "is_bounded" = some (some (.ref g16))) (l16 : K.lookup g16 = some ⟨oc16, od16, .func (PySem.W.fnOf "is_bounded" "is_bounded" (defArgs s_is_bounded) (defBody s_is_bounded) (defScope s_is_bounded) .none kV16 dc16 pm16 an16 cd16 ct16), sl16⟩) (c16 : PySem.W.codeIn K cd16 "is_bounded" = true) (k16 : PySem.W.keepIn K (.ref g16) = true)
    (a17 : PySem.W.nsIn K mainGlobals "fewest_dice" = some (some (.ref g17))) (l17 : K.lookup g17 = some ⟨oc17, od17, .func (PySem.W.fnOf "fewest_dice" "fewest_dice" (defArgs s_fewest_dice) (defBody s_fewest_dice) (defScope s_fewest_dice) .none kV17 dc17 pm17 an17 cd17 ct17), sl17⟩) (c17 : PySem.W.codeIn K cd17 "fewest_dice" = true) (k17 : PySem.W.keepIn K (.ref g17) = true)
    (a18 : PySem.W.nsIn K mainGlobals "_law_stock" = some (some (.ref g18))) (l18 : K.lookup g18 = some ⟨oc18, od18, .func (PySem.W.fnOf "_law_stock" "_law_stock" (defArgs s_law_stock) (defBody s_law_stock) (defScope s_law_stock) .none kV18 dc18 pm18 an18 cd18 ct18), sl18⟩) (c18 : PySem.W.codeIn K cd18 "_law_stock" = true) (k18 : PySem.W.keepIn K (.ref g18) = true)
    (a19 : PySem.W.nsIn K mainGlobals "_law_pick" = some (some (.ref g19))) (l19 : K.lookup g19 = some ⟨oc19, od19, .func (PySem.W.fnOf "_law_pick" "_law_pick" (defArgs s_law_pick) (defBody s_law_pick) (defScope s_law_pick) .none kV19 dc19 pm19 an19 cd19 ct19), sl19⟩) (c19 : PySem.W.codeIn K cd19 "_law_pick" = true) (k19 : PySem.W.keepIn K (.ref g19) = true)
    (a20 : PySem.W.nsIn K mainGlobals "_law_alike" = some (some (.ref g20))) (l20 : K.lookup g20 = some ⟨oc20, od20, .func (PySem.W.fnOf "_law_alike" "_law_alike" (defArgs s_law_alike) (defBody s_law_alike) (defScope s_law_alike) .none kV20 dc20 pm20 an20 cd20 ct20), sl20⟩) (c20 : PySem.W.codeIn K cd20 "_law_alike" = true) (k20 : PySem.W.keepIn K (.ref g20) = true)
    (a21 : PySem.W.nsIn K mainGlobals "_law_low" = some (some (.ref g21))) (l21 : K.lookup g21 = some ⟨oc21, od21, .func (PySem.W.fnOf "_law_low" "_law_low" (defArgs s_law_low) (defBody s_law_low) (defScope s_law_low) .none kV21 dc21 pm21 an21 cd21 ct21), sl21⟩) (c21 : PySem.W.codeIn K cd21 "_law_low" = true) (k21 : PySem.W.keepIn K (.ref g21) = true)
    (a22 : PySem.W.nsIn K mainGlobals "_law_plus" = some (some (.ref g22))) (l22 : K.lookup g22 = some ⟨oc22, od22, .func (PySem.W.fnOf "_law_plus" "_law_plus" (defArgs s_law_plus) (defBody s_law_plus) (defScope s_law_plus) .none kV22 dc22 pm22 an22 cd22 ct22), sl22⟩) (c22 : PySem.W.codeIn K cd22 "_law_plus" = true) (k22 : PySem.W.keepIn K (.ref g22) = true)
    (a23 : PySem.W.nsIn K mainGlobals "_law_times" = some (some (.ref g23))) (l23 : K.lookup g23 = some ⟨oc23, od23, .func (PySem.W.fnOf "_law_times" "_law_times" (defArgs s_law_times) (defBody s_law_times) (defScope s_law_times) .none kV23 dc23 pm23 an23 cd23 ct23), sl23⟩) (c23 : PySem.W.codeIn K cd23 "_law_times" = true) (k23 : PySem.W.keepIn K (.ref g23) = true)
    (a24 : PySem.W.nsIn K mainGlobals "_law_shares" = some (some (.ref g24))) (l24 : K.lookup g24 = some ⟨oc24, od24, .func (PySem.W.fnOf "_law_shares" "_law_shares" (defArgs s_law_shares) (defBody s_law_shares) (defScope s_law_shares) .none kV24 dc24 pm24 an24 cd24 ct24), sl24⟩) (c24 : PySem.W.codeIn K cd24 "_law_shares" = true) (k24 : PySem.W.keepIn K (.ref g24) = true)
    (a25 : PySem.W.nsIn K mainGlobals "_law_bottom" = some (some (.ref g25))) (l25 : K.lookup g25 = some ⟨oc25, od25, .func (PySem.W.fnOf "_law_bottom" "_law_bottom" (defArgs s_law_bottom) (defBody s_law_bottom) (defScope s_law_bottom) .none kV25 dc25 pm25 an25 cd25 ct25), sl25⟩) (c25 : PySem.W.codeIn K cd25 "_law_bottom" = true) (k25 : PySem.W.keepIn K (.ref g25) = true)
    (a26 : PySem.W.nsIn K mainGlobals "_law_dice" = some (some (.ref g26))) (l26 : K.lookup g26 = some ⟨oc26, od26, .func (PySem.W.fnOf "_law_dice" "_law_dice" (defArgs s_law_dice) (defBody s_law_dice) (defScope s_law_dice) .none kV26 dc26 pm26 an26 cd26 ct26), sl26⟩) (c26 : PySem.W.codeIn K cd26 "_law_dice" = true) (k26 : PySem.W.keepIn K (.ref g26) = true)
    (a27 : PySem.W.nsIn K mainGlobals "_law_product" = some (some (.ref g27))) (l27 : K.lookup g27 = some ⟨oc27, od27, .func (PySem.W.fnOf "_law_product" "_law_product" (defArgs s_law_product) (defBody s_law_product) (defScope s_law_product) .none kV27 dc27 pm27 an27 cd27 ct27), sl27⟩) (c27 : PySem.W.codeIn K cd27 "_law_product" = true) (k27 : PySem.W.keepIn K (.ref g27) = true)
    (a28 : PySem.W.nsIn K mainGlobals "_law_is_bounded" = some (some (.ref g28))) (l28 : K.lookup g28 = some ⟨oc28, od28, .func (PySem.W.fnOf "_law_is_bounded" "_law_is_bounded" (defArgs s_law_is_bounded) (defBody s_law_is_bounded) (defScope s_law_is_bounded) .none kV28 dc28 pm28 an28 cd28 ct28), sl28⟩) (c28 : PySem.W.codeIn K cd28 "_law_is_bounded" = true) (k28 : PySem.W.keepIn K (.ref g28) = true)
    (a29 : PySem.W.nsIn K mainGlobals "_law_fewest" = some (some (.ref g29))) (l29 : K.lookup g29 = some ⟨oc29, od29, .func (PySem.W.fnOf "_law_fewest" "_law_fewest" (defArgs s_law_fewest) (defBody s_law_fewest) (defScope s_law_fewest) .none kV29 dc29 pm29 an29 cd29 ct29), sl29⟩) (c29 : PySem.W.codeIn K cd29 "_law_fewest" = true) (k29 : PySem.W.keepIn K (.ref g29) = true)
    (a30 : PySem.W.nsIn K mainGlobals "_law_is_dice" = some (some (.ref g30))) (l30 : K.lookup g30 = some ⟨oc30, od30, .func (PySem.W.fnOf "_law_is_dice" "_law_is_dice" (defArgs s_law_is_dice) (defBody s_law_is_dice) (defScope s_law_is_dice) .none kV30 dc30 pm30 an30 cd30 ct30), sl30⟩) (c30 : PySem.W.codeIn K cd30 "_law_is_dice" = true) (k30 : PySem.W.keepIn K (.ref g30) = true)
    (a31 : PySem.W.nsIn K mainGlobals "_law_other" = some (some (.ref g31))) (l31 : K.lookup g31 = some ⟨oc31, od31, .func (PySem.W.fnOf "_law_other" "_law_other" (defArgs s_law_other) (defBody s_law_other) (defScope s_law_other) .none kV31 dc31 pm31 an31 cd31 ct31), sl31⟩) (c31 : PySem.W.codeIn K cd31 "_law_other" = true) (k31 : PySem.W.keepIn K (.ref g31) = true)
    (a32 : PySem.W.nsIn K mainGlobals "_law_near" = some (some (.ref g32))) (l32 : K.lookup g32 = some ⟨oc32, od32, .func (PySem.W.fnOf "_law_near" "_law_near" (defArgs s_law_near) (defBody s_law_near) (defScope s_law_near) .none kV32 dc32 pm32 an32 cd32 ct32), sl32⟩) (c32 : PySem.W.codeIn K cd32 "_law_near" = true) (k32 : PySem.W.keepIn K (.ref g32) = true)
    (a33 : PySem.W.nsIn K mainGlobals "_law_right" = some (some (.ref g33))) (l33 : K.lookup g33 = some ⟨oc33, od33, .func (PySem.W.fnOf "_law_right" "_law_right" (defArgs s_law_right) (defBody s_law_right) (defScope s_law_right) .none kV33 dc33 pm33 an33 cd33 ct33), sl33⟩) (c33 : PySem.W.codeIn K cd33 "_law_right" = true) (k33 : PySem.W.keepIn K (.ref g33) = true)
    (a34 : PySem.W.nsIn K mainGlobals "law" = some (some (.ref g34))) (l34 : K.lookup g34 = some ⟨oc34, od34, .func (PySem.W.fnOf "law" "law" (defArgs s_law) (defBody s_law) (defScope s_law) .none kV34 dc34 pm34 an34 cd34 ct34), sl34⟩) (c34 : PySem.W.codeIn K cd34 "law" = true) (k34 : PySem.W.keepIn K (.ref g34) = true)
    (z_abs : PySem.W.nsIn K mainGlobals "abs" = some none)
    (z_all : PySem.W.nsIn K mainGlobals "all" = some none)
    (z_bool : PySem.W.nsIn K mainGlobals "bool" = some none)
    (z_int : PySem.W.nsIn K mainGlobals "int" = some none)
    (z_isinstance : PySem.W.nsIn K mainGlobals "isinstance" = some none)
    (z_len : PySem.W.nsIn K mainGlobals "len" = some none)
    (z_list : PySem.W.nsIn K mainGlobals "list" = some none)
    (z_max : PySem.W.nsIn K mainGlobals "max" = some none)
    (z_min : PySem.W.nsIn K mainGlobals "min" = some none)
    (z_range : PySem.W.nsIn K mainGlobals "range" = some none)
    (z_sorted : PySem.W.nsIn K mainGlobals "sorted" = some none)
    (z_str : PySem.W.nsIn K mainGlobals "str" = some none)
    (z_tuple : PySem.W.nsIn K mainGlobals "tuple" = some none)
    (z_zip : PySem.W.nsIn K mainGlobals "zip" = some none)
    (yONE : PySem.W.nsIn K mainGlobals "ONE" = some (some (.ref zONE))) (xONE : K.lookup zONE = some ⟨.type "tuple", odONE, .seq #[.int 1 tONE0, .int 1 tONE1] nONE, slONE⟩)
    (yZERO : PySem.W.nsIn K mainGlobals "ZERO" = some (some (.ref zZERO))) (xZERO : K.lookup zZERO = some ⟨.type "tuple", odZERO, .seq #[.int 0 tZERO0, .int 1 tZERO1] nZERO, slZERO⟩)
    (i_gcd : PySem.W.nsIn K mainGlobals "gcd" = some (some (.builtin "math.gcd"))) :
    ∃ fd : FuncData, (∀ (s : Shared) (u : Value), BindsTo s fd ⟨[u], []⟩ [("script", u)]) ∧ ∀ base : Heap, K.In base → base.Ns mainGlobals mg → FnOk l.prog w K mg base (L2.CX l.prog w) 8 fa fd ["script"] (toSp K sp_law) := by
  exact all_of {
    a_is_integer := g0, fd_is_integer := _, m_is_integer := PySem.W.mg_of X G a0, F_is_integer := fun_mk (st := s_is_integer) l0 c0 k0, d_is_integer := (fun_mk (st := s_is_integer) l0 c0 k0).binds (ps := ["value"]) (fun _ _ _ _ _ _ us hl => match us, hl with | [_], _ => rfl),
    a_is_pair := g1, fd_is_pair := _, m_is_pair := PySem.W.mg_of X G a1, F_is_pair := fun_mk (st := s_is_pair) l1 c1 k1, d_is_pair := (fun_mk (st := s_is_pair) l1 c1 k1).binds (ps := ["value"]) (fun _ _ _ _ _ _ us hl => match us, hl with | [_], _ => rfl),
    a_lowest := g2, fd_lowest := _, m_lowest := PySem.W.mg_of X G a2, F_lowest := fun_mk (st := s_lowest) l2 c2 k2, d_lowest := (fun_mk (st := s_lowest) l2 c2 k2).binds (ps := ["top", "bottom"]) (fun _ _ _ _ _ _ us hl => match us, hl with | [_, _], _ => rfl),
    a_is_number_of := g3, fd_is_number_of := _, m_is_number_of := PySem.W.mg_of X G a3, F_is_number_of := fun_mk (st := s_is_number_of) l3 c3 k3, d_is_number_of := (fun_mk (st := s_is_number_of) l3 c3 k3).binds (ps := ["told"]) (fun _ _ _ _ _ _ us hl => match us, hl with | [_], _ => rfl),
    a_sum_of_two := g4, fd_sum_of_two := _, m_sum_of_two := PySem.W.mg_of X G a4, F_sum_of_two := fun_mk (st := s_sum_of_two) l4 c4 k4, d_sum_of_two := (fun_mk (st := s_sum_of_two) l4 c4 k4).binds (ps := ["a", "b"]) (fun _ _ _ _ _ _ us hl => match us, hl with | [_, _], _ => rfl),
    a_sum_of_all := g5, fd_sum_of_all := _, m_sum_of_all := PySem.W.mg_of X G a5, F_sum_of_all := fun_mk (st := s_sum_of_all) l5 c5 k5, d_sum_of_all := (fun_mk (st := s_sum_of_all) l5 c5 k5).binds (ps := ["numbers"]) (fun _ _ _ _ _ _ us hl => match us, hl with | [_], _ => rfl),
    a_is_shares_of := g6, fd_is_shares_of := _, m_is_shares_of := PySem.W.mg_of X G a6, F_is_shares_of := fun_mk (st := s_is_shares_of) l6 c6 k6, d_is_shares_of := (fun_mk (st := s_is_shares_of) l6 c6 k6).binds (ps := ["told"]) (fun _ _ _ _ _ _ us hl => match us, hl with | [_], _ => rfl),
    a_check_shares := g7, fd_check_shares := _, m_check_shares := PySem.W.mg_of X G a7, F_check_shares := fun_mk (st := s_check_shares) l7 c7 k7, d_check_shares := (fun_mk (st := s_check_shares) l7 c7 k7).binds (ps := ["shares"]) (fun _ _ _ _ _ _ us hl => match us, hl with | [_], _ => rfl),
    a_is_dice_told := g8, fd_is_dice_told := _, m_is_dice_told := PySem.W.mg_of X G a8, F_is_dice_told := fun_mk (st := s_is_dice_told) l8 c8 k8, d_is_dice_told := (fun_mk (st := s_is_dice_told) l8 c8 k8).binds (ps := ["told"]) (fun _ _ _ _ _ _ us hl => match us, hl with | [_], _ => rfl),
    a_check_dice := g9, fd_check_dice := _, m_check_dice := PySem.W.mg_of X G a9, F_check_dice := fun_mk (st := s_check_dice) l9 c9 k9, d_check_dice := (fun_mk (st := s_check_dice) l9 c9 k9).binds (ps := ["dice"]) (fun _ _ _ _ _ _ us hl => match us, hl with | [_], _ => rfl),
    a_common_part := g10, fd_common_part := _, m_common_part := PySem.W.mg_of X G a10, F_common_part := fun_mk (st := s_common_part) l10 c10 k10, d_common_part := (fun_mk (st := s_common_part) l10 c10 k10).binds (ps := ["a", "b"]) (fun _ _ _ _ _ _ us hl => match us, hl with | [_, _], _ => rfl),
    a_joint_bottom := g11, fd_joint_bottom := _, m_joint_bottom := PySem.W.mg_of X G a11, F_joint_bottom := fun_mk (st := s_joint_bottom) l11 c11 k11, d_joint_bottom := (fun_mk (st := s_joint_bottom) l11 c11 k11).binds (ps := ["shares"]) (fun _ _ _ _ _ _ us hl => match us, hl with | [_], _ => rfl),
    a_left_of := g12, fd_left_of := _, m_left_of := PySem.W.mg_of X G a12, F_left_of := fun_mk (st := s_left_of) l12 c12 k12, d_left_of := (fun_mk (st := s_left_of) l12 c12 k12).binds (ps := ["number", "sides"]) (fun _ _ _ _ _ _ us hl => match us, hl with | [_, _], _ => rfl),
    a_are_bounded := g13, fd_are_bounded := _, m_are_bounded := PySem.W.mg_of X G a13, F_are_bounded := fun_mk (st := s_are_bounded) l13 c13 k13, d_are_bounded := (fun_mk (st := s_are_bounded) l13 c13 k13).binds (ps := ["shares", "dice"]) (fun _ _ _ _ _ _ us hl => match us, hl with | [_, _], _ => rfl),
    a_shortest_row := g14, fd_shortest_row := _, m_shortest_row := PySem.W.mg_of X G a14, F_shortest_row := fun_mk (st := s_shortest_row) l14 c14 k14, d_shortest_row := (fun_mk (st := s_shortest_row) l14 c14 k14).binds (ps := ["bottom", "dice"]) (fun _ _ _ _ _ _ us hl => match us, hl with | [_, _], _ => rfl),
    a_is_dice := g15, fd_is_dice := _, m_is_dice := PySem.W.mg_of X G a15, F_is_dice := fun_mk (st := s_is_dice) l15 c15 k15, d_is_dice := (fun_mk (st := s_is_dice) l15 c15 k15).binds (ps := ["told"]) (fun _ _ _ _ _ _ us hl => match us, hl with | [_], _ => rfl),
    a_is_bounded := g16, fd_is_bounded := _, m_is_bounded := PySem.W.mg_of X G a16, F_is_bounded := fun_mk (st := s_is_bounded) l16 c16 k16, d_is_bounded := (fun_mk (st := s_is_bounded) l16 c16 k16).binds (ps := ["shares", "dice"]) (fun _ _ _ _ _ _ us hl => match us, hl with | [_, _], _ => rfl),
    a_fewest_dice := g17, fd_fewest_dice := _, m_fewest_dice := PySem.W.mg_of X G a17, F_fewest_dice := fun_mk (st := s_fewest_dice) l17 c17 k17, d_fewest_dice := (fun_mk (st := s_fewest_dice) l17 c17 k17).binds (ps := ["shares", "dice"]) (fun _ _ _ _ _ _ us hl => match us, hl with | [_, _], _ => rfl),
    a_law_stock := g18, fd_law_stock := _, m_law_stock := PySem.W.mg_of X G a18, F_law_stock := fun_mk (st := s_law_stock) l18 c18 k18, d_law_stock := (fun_mk (st := s_law_stock) l18 c18 k18).binds (ps := ["script", "spot"]) (fun _ _ _ _ _ _ us hl => match us, hl with | [_, _], _ => rfl),
    a_law_pick := g19, fd_law_pick := _, m_law_pick := PySem.W.mg_of X G a19, F_law_pick := fun_mk (st := s_law_pick) l19 c19 k19, d_law_pick := (fun_mk (st := s_law_pick) l19 c19 k19).binds (ps := ["stock", "many"]) (fun _ _ _ _ _ _ us hl => match us, hl with | [_, _], _ => rfl),
    a_law_alike := g20, fd_law_alike := _, m_law_alike := PySem.W.mg_of X G a20, F_law_alike := fun_mk (st := s_law_alike) l20 c20 k20, d_law_alike := (fun_mk (st := s_law_alike) l20 c20 k20).binds (ps := ["thing", "due"]) (fun _ _ _ _ _ _ us hl => match us, hl with | [_, _], _ => rfl),
    a_law_low := g21, fd_law_low := _, m_law_low := PySem.W.mg_of X G a21, F_law_low := fun_mk (st := s_law_low) l21 c21 k21, d_law_low := (fun_mk (st := s_law_low) l21 c21 k21).binds (ps := ["top", "bottom"]) (fun _ _ _ _ _ _ us hl => match us, hl with | [_, _], _ => rfl),
    a_law_plus := g22, fd_law_plus := _, m_law_plus := PySem.W.mg_of X G a22, F_law_plus := fun_mk (st := s_law_plus) l22 c22 k22, d_law_plus := (fun_mk (st := s_law_plus) l22 c22 k22).binds (ps := ["one", "other"]) (fun _ _ _ _ _ _ us hl => match us, hl with | [_, _], _ => rfl),
    a_law_times := g23, fd_law_times := _, m_law_times := PySem.W.mg_of X G a23, F_law_times := fun_mk (st := s_law_times) l23 c23 k23, d_law_times := (fun_mk (st := s_law_times) l23 c23 k23).binds (ps := ["one", "other"]) (fun _ _ _ _ _ _ us hl => match us, hl with | [_, _], _ => rfl),
    a_law_shares := g24, fd_law_shares := _, m_law_shares := PySem.W.mg_of X G a24, F_law_shares := fun_mk (st := s_law_shares) l24 c24 k24, d_law_shares := (fun_mk (st := s_law_shares) l24 c24 k24).binds (ps := ["stock", "most"]) (fun _ _ _ _ _ _ us hl => match us, hl with | [_, _], _ => rfl),
    a_law_bottom := g25, fd_law_bottom := _, m_law_bottom := PySem.W.mg_of X G a25, F_law_bottom := fun_mk (st := s_law_bottom) l25 c25 k25, d_law_bottom := (fun_mk (st := s_law_bottom) l25 c25 k25).binds (ps := ["shares"]) (fun _ _ _ _ _ _ us hl => match us, hl with | [_], _ => rfl),
    a_law_dice := g26, fd_law_dice := _, m_law_dice := PySem.W.mg_of X G a26, F_law_dice := fun_mk (st := s_law_dice) l26 c26 k26, d_law_dice := (fun_mk (st := s_law_dice) l26 c26 k26).binds (ps := ["stock"]) (fun _ _ _ _ _ _ us hl => match us, hl with | [_], _ => rfl),
    a_law_product := g27, fd_law_product := _, m_law_product := PySem.W.mg_of X G a27, F_law_product := fun_mk (st := s_law_product) l27 c27 k27, d_law_product := (fun_mk (st := s_law_product) l27 c27 k27).binds (ps := ["row"]) (fun _ _ _ _ _ _ us hl => match us, hl with | [_], _ => rfl),
    a_law_is_bounded := g28, fd_law_is_bounded := _, m_law_is_bounded := PySem.W.mg_of X G a28, F_law_is_bounded := fun_mk (st := s_law_is_bounded) l28 c28 k28, d_law_is_bounded := (fun_mk (st := s_law_is_bounded) l28 c28 k28).binds (ps := ["shares", "dice"]) (fun _ _ _ _ _ _ us hl => match us, hl with | [_, _], _ => rfl),
    a_law_fewest := g29, fd_law_fewest := _, m_law_fewest := PySem.W.mg_of X G a29, F_law_fewest := fun_mk (st := s_law_fewest) l29 c29 k29, d_law_fewest := (fun_mk (st := s_law_fewest) l29 c29 k29).binds (ps := ["shares", "dice"]) (fun _ _ _ _ _ _ us hl => match us, hl with | [_, _], _ => rfl),
    a_law_is_dice := g30, fd_law_is_dice := _, m_law_is_dice := PySem.W.mg_of X G a30, F_law_is_dice := fun_mk (st := s_law_is_dice) l30 c30 k30, d_law_is_dice := (fun_mk (st := s_law_is_dice) l30 c30 k30).binds (ps := ["thing"]) (fun _ _ _ _ _ _ us hl => match us, hl with | [_], _ => rfl),
    a_law_other := g31, fd_law_other := _, m_law_other := PySem.W.mg_of X G a31, F_law_other := fun_mk (st := s_law_other) l31 c31 k31, d_law_other := (fun_mk (st := s_law_other) l31 c31 k31).binds (ps := ["stock"]) (fun _ _ _ _ _ _ us hl => match us, hl with | [_], _ => rfl),
    a_law_near := g32, fd_law_near := _, m_law_near := PySem.W.mg_of X G a32, F_law_near := fun_mk (st := s_law_near) l32 c32 k32, d_law_near := (fun_mk (st := s_law_near) l32 c32 k32).binds (ps := ["stock", "dice"]) (fun _ _ _ _ _ _ us hl => match us, hl with | [_, _], _ => rfl),
    a_law_right := g33, fd_law_right := _, m_law_right := PySem.W.mg_of X G a33, F_law_right := fun_mk (st := s_law_right) l33 c33 k33, d_law_right := (fun_mk (st := s_law_right) l33 c33 k33).binds (ps := ["shares", "dice", "named"]) (fun _ _ _ _ _ _ us hl => match us, hl with | [_, _, _], _ => rfl),
    a_law := g34, fd_law := _, m_law := PySem.W.mg_of X G a34, F_law := fun_mk (st := s_law) l34 c34 k34, d_law := (fun_mk (st := s_law) l34 c34 k34).binds (ps := ["script"]) (fun _ _ _ _ _ _ us hl => match us, hl with | [_], _ => rfl),
    b_abs := PySem.W.mg_none_of X G z_abs,
    b_all := PySem.W.mg_none_of X G z_all,
    b_bool := PySem.W.mg_none_of X G z_bool,
    b_int := PySem.W.mg_none_of X G z_int,
    b_isinstance := PySem.W.mg_none_of X G z_isinstance,
    b_len := PySem.W.mg_none_of X G z_len,
    b_list := PySem.W.mg_none_of X G z_list,
    b_max := PySem.W.mg_none_of X G z_max,
    b_min := PySem.W.mg_none_of X G z_min,
    b_range := PySem.W.mg_none_of X G z_range,
    b_sorted := PySem.W.mg_none_of X G z_sorted,
    b_str := PySem.W.mg_none_of X G z_str,
    b_tuple := PySem.W.mg_none_of X G z_tuple,
    b_zip := PySem.W.mg_none_of X G z_zip,
    z_ONE := zONE, m_ONE := PySem.W.mg_of X G yONE, v_ONE := const_tup2 xONE,
    z_ZERO := zZERO, m_ZERO := PySem.W.mg_of X G yZERO, v_ZERO := const_tup2 xZERO,
    i_gcd := PySem.W.mg_of X G i_gcd } hfa
theorem walk {l : PySem.W.OpenLaw} {q : Program} {loose : List Str} {XP : (Str → Option Value) → Heap → Prop} {YP : World → Heap → Prop} {d : DefRec} {K : Params → PySem.W.Frag} (hn : l.most = some 63) (hdf : d.params.defaults = [])
    (hY : ∀ (w : World) (h : Heap), YP w h → (K w.params).In h)
    (F : ∀ (w : World) (mg : Str → Option Value) (fa : Addr) (h : Heap), (K w.params).In h → h.Ns mainGlobals mg → mg d.name = some (.ref fa) →
      ∃ fd : FuncData, (∀ (s : Shared) (u : Value), BindsTo s fd ⟨[u], []⟩ [("script", u)]) ∧ ∀ base : Heap, (K w.params).In base → base.Ns mainGlobals mg → FnOk l.prog w (K w.params) mg base (L2.CX l.prog w) 8 fa fd ["script"] (toSp (K w.params) sp_law)) :
    PySem.W.WalkO q loose XP YP l.row.toRowW d [] (fun f vs => PySem.call f vs) :=
  L2.walk_of (n := 63) (k := 8) (x := "script") (CX := fun w => L2.CX l.prog w) (sp := fun w => toSp (K w.params) sp_law) hn (by decide) hdf ⟨rfl, by decide, by decide⟩ hY F (fun _ _ a ns hl hO hS => law_end hO hS (end_law ns hl)) fun w H s e s' => cx_end l.prog w H s e s'
end K25
open PySem PySem.W PyProof.Rows in
set_option maxRecDepth 100000 in
set_option maxHeartbeats 0 in
theorem PySem.Challenge.cw_wholeplays_k25_whole_bounded_by_dice_holds : PySem.Challenge.rw_wholeplays_k25_whole_bounded_by_dice.Holds := by
  w_on; o_law; k_head; (case hw => w_witness2)
  k_fill
  refine K25.walk (l := PySem.Challenge.rw_wholeplays_k25_whole_bounded_by_dice) rfl rfl (fun w h Y => PySem.W.kIn_of Y) ?F
  case F =>
    intro w mg fa h KX G hmg
    refine' K25.all_mk KX G hmg ?a0 ?l0 ?c0 ?k0 ?a1 ?l1 ?c1 ?k1 ?a2 ?l2 ?c2 ?k2 ?a3 ?l3 ?c3 ?k3 ?a4 ?l4 ?c4 ?k4 ?a5 ?l5 ?c5 ?k5 ?a6 ?l6 ?c6 ?k6 ?a7 ?l7 ?c7 ?k7 ?a8 ?l8 ?c8 ?k8 ?a9 ?l9 ?c9 ?k9 ?a10 ?l10 ?c10 ?k10 ?a11 ?l11 ?c11 ?k11 ?a12 ?l12 ?c12 ?k12 ?a13 ?l13 ?c13 ?k13 ?a14 ?l14 ?c14 ?k14 ?a15 ?l15 ?c15 ?k15 ?a16 ?l16 ?c16 ?k16 ?a17 ?l17 ?c17 ?k17 ?a18 ?l18 ?c18 ?k18 ?a19 ?l19 ?c19 ?k19 ?a20 ?l20 ?c20 ?k20 ?a21 ?l21 ?c21 ?k21 ?a22 ?l22 ?c22 ?k22 ?a23 ?l23 ?c23 ?k23 ?a24 ?l24 ?c24 ?k24 ?a25 ?l25 ?c25 ?k25 ?a26 ?l26 ?c26 ?k26 ?a27 ?l27 ?c27 ?k27 ?a28 ?l28 ?c28 ?k28 ?a29 ?l29 ?c29 ?k29 ?a30 ?l30 ?c30 ?k30 ?a31 ?l31 ?c31 ?k31 ?a32 ?l32 ?c32 ?k32 ?a33 ?l33 ?c33 ?k33 ?a34 ?l34 ?c34 ?k34 ?z_abs ?z_all ?z_bool ?z_int ?z_isinstance ?z_len ?z_list ?z_max ?z_min ?z_range ?z_sorted ?z_str ?z_tuple ?z_zip ?yONE ?xONE ?yZERO ?xZERO ?i_gcd
    (case a0 => k_is)
    (case l0 => k_is)
    (case c0 => k_is)
    (case k0 => k_is)
    (case a1 => k_is)
    (case l1 => k_is)
    (case c1 => k_is)
    (case k1 => k_is)
    (case a2 => k_is)
    (case l2 => k_is)
    (case c2 => k_is)
    (case k2 => k_is)
    (case a3 => k_is)
    (case l3 => k_is)
    (case c3 => k_is)
    (case k3 => k_is)
    (case a4 => k_is)
    (case l4 => k_is)
    (case c4 => k_is)
    (case k4 => k_is)
    (case a5 => k_is)
    (case l5 => k_is)
    (case c5 => k_is)
    (case k5 => k_is)
    (case a6 => k_is)
    (case l6 => k_is)
    (case c6 => k_is)
    (case k6 => k_is)
    (case a7 => k_is)
    (case l7 => k_is)
    (case c7 => k_is)
    (case k7 => k_is)
    (case a8 => k_is)
    (case l8 => k_is)
    (case c8 => k_is)
    (case k8 => k_is)
    (case a9 => k_is)
    (case l9 => k_is)
    (case c9 => k_is)
    (case k9 => k_is)
    (case a10 => k_is)
    (case l10 => k_is)
    (case c10 => k_is)
    (case k10 => k_is)
    (case a11 => k_is)
    (case l11 => k_is)
    (case c11 => k_is)
    (case k11 => k_is)
    (case a12 => k_is)
    (case l12 => k_is)
    (case c12 => k_is)
    (case k12 => k_is)
    (case a13 => k_is)
    (case l13 => k_is)
    (case c13 => k_is)
    (case k13 => k_is)
    (case a14 => k_is)
    (case l14 => k_is)
    (case c14 => k_is)
    (case k14 => k_is)
    (case a15 => k_is)
    (case l15 => k_is)
    (case c15 => k_is)
    (case k15 => k_is)
    (case a16 => k_is)
    (case l16 => k_is)
    (case c16 => k_is)
    (case k16 => k_is)
    (case a17 => k_is)
    (case l17 => k_is)
    (case c17 => k_is)
    (case k17 => k_is)
    (case a18 => k_is)
    (case l18 => k_is)
    (case c18 => k_is)
    (case k18 => k_is)
    (case a19 => k_is)
    (case l19 => k_is)
    (case c19 => k_is)
    (case k19 => k_is)
    (case a20 => k_is)
    (case l20 => k_is)
    (case c20 => k_is)
    (case k20 => k_is)
    (case a21 => k_is)
    (case l21 => k_is)
    (case c21 => k_is)
    (case k21 => k_is)
    (case a22 => k_is)
    (case l22 => k_is)
    (case c22 => k_is)
    (case k22 => k_is)
    (case a23 => k_is)
    (case l23 => k_is)
    (case c23 => k_is)
    (case k23 => k_is)
    (case a24 => k_is)
    (case l24 => k_is)
    (case c24 => k_is)
    (case k24 => k_is)
    (case a25 => k_is)
    (case l25 => k_is)
    (case c25 => k_is)
    (case k25 => k_is)
    (case a26 => k_is)
    (case l26 => k_is)
    (case c26 => k_is)
    (case k26 => k_is)
    (case a27 => k_is)
    (case l27 => k_is)
    (case c27 => k_is)
    (case k27 => k_is)
    (case a28 => k_is)
    (case l28 => k_is)
    (case c28 => k_is)
    (case k28 => k_is)
    (case a29 => k_is)
    (case l29 => k_is)
    (case c29 => k_is)
    (case k29 => k_is)
    (case a30 => k_is)
    (case l30 => k_is)
    (case c30 => k_is)
    (case k30 => k_is)
    (case a31 => k_is)
    (case l31 => k_is)
    (case c31 => k_is)
    (case k31 => k_is)
    (case a32 => k_is)
    (case l32 => k_is)
    (case c32 => k_is)
    (case k32 => k_is)
    (case a33 => k_is)
    (case l33 => k_is)
    (case c33 => k_is)
    (case k33 => k_is)
    (case a34 => k_is)
    (case l34 => k_is)
    (case c34 => k_is)
    (case k34 => k_is)
    (case z_abs => k_is)
    (case z_all => k_is)
    (case z_bool => k_is)
    (case z_int => k_is)
    (case z_isinstance => k_is)
    (case z_len => k_is)
    (case z_list => k_is)
    (case z_max => k_is)
    (case z_min => k_is)
    (case z_range => k_is)
    (case z_sorted => k_is)
    (case z_str => k_is)
    (case z_tuple => k_is)
    (case z_zip => k_is)
    (case yONE => k_is)
    (case xONE => k_is)
    (case yZERO => k_is)
    (case xZERO => k_is)
    (case i_gcd => k_is)
