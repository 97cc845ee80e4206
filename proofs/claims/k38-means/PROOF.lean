import PyProof.Rows.All
import Wide.All
import OpenK.AllK
import Wide.FinOn
import HandS.ForMost
import HandS.Exc
import HandS.ExcOwn
import HandS.Wide
import HandS.WordsExc
import HandS.ExcInit
import HandS.Gcd
import HandS.IsInst
import HandS.More
import HandS.Conv
import HandS.WideBits
import KE.KMathGC
import HandS.Style
import PySem.Challenge.RW_wholeplays_k38_whole_means_of_even_thing
set_option Elab.async false
set_option linter.all false
set_option maxRecDepth 100000
set_option maxHeartbeats 4000000
/-! DL: a layer of plain values over HandS: tuples (and what never changes) by their contents, lists and dicts by address in a small store. -/
namespace DL
open PySem PySem.Spec PyProof.Rows L2

/-! ### values -/
inductive D where
  | non | bl (b : Bool) | int (i : Int) | str (x : Str) | ty (n : String) | ref (a : Addr)
  | tup (xs : List D)
  | fro (xs : List D)
  | exc (C : Addr) (d : D)
  deriving Inhabited

/-- a list that never changes: locked, or of the written part -/
def StL (K : PySem.W.Frag) (H : Hp) (a : Addr) (xs : List V) : Prop :=
  (∃ o, H a = some (.frz o (.lst xs))) ∨
    ∃ (o : Obj) (its : Array Value) (n : Nat), K.lookup a = some o ∧ o.cls = .type "list" ∧ o.dict = none ∧ o.data = .seq its n ∧ its.size ≤ sizeLine ∧ Vals xs its.toList
theorem StL.sq {K : PySem.W.Frag} {H : Hp} {a : Addr} {xs : List V} (h : StL K H a xs) : SqL K H a xs := by
  rcases h with ⟨o, h⟩ | h
  · exact .inl (.inr ⟨o, h⟩)
  · exact .inr h
/-- a tuple -/
def StT (K : PySem.W.Frag) (H : Hp) (a : Addr) (xs : List V) : Prop :=
  H a = some (.tup xs) ∨
    ∃ (o : Obj) (its : Array Value) (n : Nat), K.lookup a = some o ∧ o.cls = .type "tuple" ∧ o.data = .seq its n ∧ its.size ≤ sizeLine ∧ Vals xs its.toList
theorem StT.sq {K : PySem.W.Frag} {H : Hp} {a : Addr} {xs : List V} (h : StT K H a xs) : SqT K H a xs := by
  rcases h with h | h
  · exact .inl (.inl h)
  · exact .inr h
/-- an exception object -/
def XO (a C dx : Addr) : HO := .ext fun h => ∃ oe vs, h.get? a = some oe ∧ Zc (.ref C) (some dx) oe ∧ oe.data = .fields vs

mutual
def DV (K : PySem.W.Frag) (H : Hp) : D → V → Prop
  | .non, v => v = .non
  | .bl b, v => v = .bl b
  | .int i, v => v = .int i
  | .str x, v => v = .str x
  | .ty n, v => v = .ty n
  | .ref a, v => v = .ref a
  | .tup xs, v => ∃ a vs, v = .ref a ∧ StT K H a vs ∧ DVs K H xs vs
  | .fro xs, v => ∃ a vs, v = .ref a ∧ StL K H a vs ∧ DVs K H xs vs
  | .exc C d, v => ∃ a dx w, v = .ref a ∧ H a = some (XO a C dx) ∧ H dx = some (.xd [(("value" : Str), w)]) ∧ DV K H d w
def DVs (K : PySem.W.Frag) (H : Hp) : List D → List V → Prop
  | [], vs => vs = []
  | d :: ds, vs => ∃ v ws, vs = v :: ws ∧ DV K H d v ∧ DVs K H ds ws
end

/-! ### the store -/
inductive Cell where
  | lst (xs : List D)
  | dK (kvs : List (Key × D))
abbrev Sto := Addr → Option Cell
def sup (S : Sto) (a : Addr) (c : Cell) : Sto := fun b => if b = a then some c else S b
theorem sup_same {S : Sto} {a : Addr} {c : Cell} : sup S a c a = some c := by unfold sup; rw [if_pos rfl]
theorem sup_ne {S : Sto} {a b : Addr} {c : Cell} (h : b ≠ a) : sup S a c b = S b := by unfold sup; rw [if_neg h]
theorem sup_sup {S : Sto} {a : Addr} {c c' : Cell} : sup (sup S a c) a c' = sup S a c' := by
  funext b; unfold sup; split <;> rfl
inductive DKs (K : PySem.W.Frag) (H : Hp) : List (Key × D) → List (Key × V) → Prop
  | nil : DKs K H [] []
  | cons {k : Key} {d : D} {v : V} {ds : List (Key × D)} {vs : List (Key × V)} : DV K H d v → DKs K H ds vs → DKs K H ((k, d) :: ds) ((k, v) :: vs)
def CellOk (K : PySem.W.Frag) (H : Hp) (a : Addr) : Cell → Prop
  | .lst xs => ∃ vs, H a = some (.lst vs) ∧ DVs K H xs vs
  | .dK kvs => ∃ vs, H a = some (.dK vs) ∧ DKs K H kvs vs
def SOk (K : PySem.W.Frag) (H : Hp) (S : Sto) : Prop := ∀ a c, S a = some c → CellOk K H a c
theorem SOk.free {K : PySem.W.Frag} {H : Hp} {S : Sto} (h : SOk K H S) {a : Addr} (e : H a = none) : S a = none := by
  cases q : S a with
  | none => rfl
  | some c =>
    have := h a c q
    cases c with
    | lst xs => obtain ⟨vs, e2, _⟩ := this; rw [e] at e2; cases e2
    | dK kvs => obtain ⟨vs, e2, _⟩ := this; rw [e] at e2; cases e2
/-- whatever is tracked and is not a cell's kind is not in the store -/
theorem SOk.out {K : PySem.W.Frag} {H : Hp} {S : Sto} (h : SOk K H S) {a : Addr} {o : HO} (e : H a = some o) (h1 : ∀ xs, o ≠ .lst xs) (h2 : ∀ xs, o ≠ .dK xs) : S a = none := by
  cases q : S a with
  | none => rfl
  | some c =>
    have := h a c q
    cases c with
    | lst xs => obtain ⟨vs, e2, _⟩ := this; rw [e] at e2; exact absurd (Option.some.inj e2) (h1 _)
    | dK kvs => obtain ⟨vs, e2, _⟩ := this; rw [e] at e2; exact absurd (Option.some.inj e2) (h2 _)

/-- the step from one heap and store to another: what is tracked beside the store stays; the store grows at new places alone -/
structure Go (K : PySem.W.Frag) (H : Hp) (S : Sto) (H' : Hp) (S' : Sto) : Prop where
  ok0 : SOk K H S
  ok : SOk K H' S'
  frame : ∀ a o, S a = none → H a = some o → H' a = some o
  ex : ∀ a o, S a = none → H a = some o → S' a = none
section
variable {K : PySem.W.Frag} {H H1 H2 : Hp} {S S1 S2 : Sto}
theorem Go.refl (h : SOk K H S) : Go K H S H S := ⟨h, h, fun _ _ _ e => e, fun _ _ e _ => e⟩
theorem Go.trans (g : Go K H S H1 S1) (g' : Go K H1 S1 H2 S2) : Go K H S H2 S2 :=
  ⟨g.ok0, g'.ok, fun a o e h => g'.frame a o (g.ex a o e h) (g.frame a o e h), fun a o e h => g'.ex a o (g.ex a o e h) (g.frame a o e h)⟩
theorem Go.tup (g : Go K H S H1 S1) {a : Addr} {vs : List V} (h : StT K H a vs) : StT K H1 a vs := by
  rcases h with h | h
  · exact .inl (g.frame a _ (g.ok0.out h (fun _ q => by cases q) (fun _ q => by cases q)) h)
  · exact .inr h
theorem Go.fro (g : Go K H S H1 S1) {a : Addr} {vs : List V} (h : StL K H a vs) : StL K H1 a vs := by
  rcases h with ⟨o, h⟩ | h
  · exact .inl ⟨o, g.frame a _ (g.ok0.out h (fun _ q => by cases q) (fun _ q => by cases q)) h⟩
  · exact .inr h
mutual
theorem DV.go (g : Go K H S H1 S1) : ∀ (d : D) (v : V), DV K H d v → DV K H1 d v
  | .non, _, h => h
  | .bl _, _, h => h
  | .int _, _, h => h
  | .str _, _, h => h
  | .ty _, _, h => h
  | .ref _, _, h => h
  | .tup xs, v, h => by
    obtain ⟨a, vs, e, q, r⟩ := h
    exact ⟨a, vs, e, g.tup q, DVs.go g xs vs r⟩
  | .fro xs, v, h => by
    obtain ⟨a, vs, e, q, r⟩ := h
    exact ⟨a, vs, e, g.fro q, DVs.go g xs vs r⟩
  | .exc C d, v, h => by
    obtain ⟨a, dx, w, e, q1, q2, r⟩ := h
    exact ⟨a, dx, w, e, g.frame a _ (g.ok0.out q1 (fun _ q => by cases q) (fun _ q => by cases q)) q1, g.frame dx _ (g.ok0.out q2 (fun _ q => by cases q) (fun _ q => by cases q)) q2, DV.go g d w r⟩
theorem DVs.go (g : Go K H S H1 S1) : ∀ (ds : List D) (vs : List V), DVs K H ds vs → DVs K H1 ds vs
  | [], _, h => h
  | d :: ds, vs, h => by
    obtain ⟨v, ws, e, r, q⟩ := h
    exact ⟨v, ws, e, DV.go g d v r, DVs.go g ds ws q⟩
end
theorem DKs.go (g : Go K H S H1 S1) {ds : List (Key × D)} {vs : List (Key × V)} (h : DKs K H ds vs) : DKs K H1 ds vs := by
  induction h with
  | nil => exact .nil
  | cons r _ ih => exact .cons (DV.go g _ _ r) ih

theorem DVs.length : ∀ {ds : List D} {vs : List V}, DVs K H ds vs → ds.length = vs.length
  | [], _, h => by cases (show _ = [] from h); rfl
  | d :: ds, vs, h => by
    obtain ⟨v, ws, rfl, _, q⟩ := h
    rw [List.length_cons, List.length_cons, DVs.length q]
theorem DVs.get : ∀ {ds : List D} {vs : List V} {i : Nat} {d : D}, DVs K H ds vs → ds[i]? = some d → ∃ v, vs[i]? = some v ∧ DV K H d v
  | [], _, _, _, _, e => by simp at e
  | d :: ds, vs, 0, x, h, e => by
    obtain ⟨v, ws, rfl, r, q⟩ := h
    have e : d = x := by simpa using e
    subst e
    exact ⟨v, rfl, r⟩
  | d :: ds, vs, i + 1, x, h, e => by
    obtain ⟨v, ws, rfl, r, q⟩ := h
    exact DVs.get (i := i) q (by simpa using e)
theorem DVs.nil : DVs K H [] [] := rfl
theorem DVs.cons {d : D} {v : V} {ds : List D} {vs : List V} (h : DV K H d v) (t : DVs K H ds vs) : DVs K H (d :: ds) (v :: vs) := ⟨v, vs, rfl, h, t⟩
theorem DVs.append : ∀ {ds es : List D} {vs ws : List V}, DVs K H ds vs → DVs K H es ws → DVs K H (ds ++ es) (vs ++ ws)
  | [], _, _, _, h, t => by cases (show _ = [] from h); exact t
  | d :: ds, es, vs, ws, h, t => by
    obtain ⟨v, us, rfl, r, q⟩ := h
    exact DVs.cons r (DVs.append q t)
theorem DVs.take : ∀ {ds : List D} {vs : List V} (n : Nat), DVs K H ds vs → DVs K H (ds.take n) (vs.take n)
  | _, _, 0, _ => by simp [DVs]
  | [], _, _ + 1, h => by cases (show _ = [] from h); exact DVs.nil
  | d :: ds, vs, n + 1, h => by
    obtain ⟨v, us, rfl, r, q⟩ := h
    exact DVs.cons r (DVs.take n q)
theorem DVs.drop : ∀ {ds : List D} {vs : List V} (n : Nat), DVs K H ds vs → DVs K H (ds.drop n) (vs.drop n)
  | _, _, 0, h => h
  | [], _, _ + 1, h => by cases (show _ = [] from h); exact DVs.nil
  | d :: ds, vs, n + 1, h => by
    obtain ⟨v, us, rfl, r, q⟩ := h
    exact DVs.drop n q
theorem DVs.set : ∀ {ds : List D} {vs : List V} {d : D} {v : V} (i : Nat), DVs K H ds vs → DV K H d v → DVs K H (ds.set i d) (vs.set i v)
  | [], _, _, _, _, h, _ => by cases (show _ = [] from h); exact DVs.nil
  | d :: ds, vs, x, y, 0, h, t => by
    obtain ⟨v, us, rfl, r, q⟩ := h
    exact DVs.cons t q
  | d :: ds, vs, x, y, i + 1, h, t => by
    obtain ⟨v, us, rfl, r, q⟩ := h
    exact DVs.cons r (DVs.set i q t)
theorem DVs.rev : ∀ {ds : List D} {vs : List V}, DVs K H ds vs → DVs K H ds.reverse vs.reverse
  | [], _, h => by cases (show _ = [] from h); exact DVs.nil
  | d :: ds, vs, h => by
    obtain ⟨v, us, rfl, r, q⟩ := h
    rw [List.reverse_cons, List.reverse_cons]
    exact DVs.append (DVs.rev q) (DVs.cons r DVs.nil)
theorem DVs.ints : ∀ {ns : List Int} {vs : List V}, DVs K H (ns.map D.int) vs → vs = ns.map V.int
  | [], _, h => h
  | n :: ns, vs, h => by
    obtain ⟨v, us, rfl, r, q⟩ := h
    rw [List.map_cons, ← DVs.ints q, show v = V.int n from r]
theorem DVs.of_ints : ∀ {ns : List Int}, DVs K H (ns.map D.int) (ns.map V.int)
  | [] => DVs.nil
  | n :: ns => DVs.cons (show DV K H (.int n) (.int n) from rfl) DVs.of_ints
theorem DVs.bls : ∀ {ns : List Bool} {vs : List V}, DVs K H (ns.map D.bl) vs → vs = ns.map V.bl
  | [], _, h => h
  | n :: ns, vs, h => by
    obtain ⟨v, us, rfl, r, q⟩ := h
    rw [List.map_cons, ← DVs.bls q, show v = V.bl n from r]
theorem DVs.strs : ∀ {ns : List Str} {vs : List V}, DVs K H (ns.map D.str) vs → vs = ns.map V.str
  | [], _, h => h
  | n :: ns, vs, h => by
    obtain ⟨v, us, rfl, r, q⟩ := h
    rw [List.map_cons, ← DVs.strs q, show v = V.str n from r]

/-- a new object beside the store -/
theorem Go.new (h : SOk K H S) {p : Addr} {o : HO} (hp : H p = none) : Go K H S (upd H p o) S := by
  have sok : ∀ a c, S a = some c → a ≠ p := fun a c e z => by
    subst z
    rw [h.free hp] at e
    cases e
  have g0 : ∀ a u, H a = some u → upd H p o a = some u := fun a u e => by rw [upd_ne (ne_of_none e hp)]; exact e
  -- through an empty store
  have gE : Go K H (fun _ => none) (upd H p o) (fun _ => none) := ⟨fun _ _ e => by simp at e, fun _ _ e => by simp at e, fun a u _ e => g0 a u e, fun _ _ _ _ => rfl⟩
  refine ⟨h, fun a c e => ?_, fun a u _ e => g0 a u e, fun _ _ e _ => e⟩
  have := h a c e
  cases c with
  | lst xs => obtain ⟨vs, e1, r⟩ := this; exact ⟨vs, g0 _ _ e1, DVs.go gE _ _ r⟩
  | dK kvs => obtain ⟨vs, e1, r⟩ := this; exact ⟨vs, g0 _ _ e1, DKs.go gE r⟩
theorem Go.newLst (h : SOk K H S) {p : Addr} {xs : List D} {vs : List V} (hp : H p = none) (r : DVs K H xs vs) : Go K H S (upd H p (.lst vs)) (sup S p (.lst xs)) := by
  have g := Go.new (o := .lst vs) h hp
  refine ⟨h, fun a c e => ?_, g.frame, fun a o e q => by rw [sup_ne (ne_of_none q hp)]; exact e⟩
  by_cases ha : a = p
  · subst ha
    rw [sup_same] at e; cases e
    exact ⟨vs, upd_same, DVs.go g _ _ r⟩
  · rw [sup_ne ha] at e
    exact g.ok a c e
theorem Go.newDK (h : SOk K H S) {p : Addr} {xs : List (Key × D)} {vs : List (Key × V)} (hp : H p = none) (r : DKs K H xs vs) : Go K H S (upd H p (.dK vs)) (sup S p (.dK xs)) := by
  have g := Go.new (o := .dK vs) h hp
  refine ⟨h, fun a c e => ?_, g.frame, fun a o e q => by rw [sup_ne (ne_of_none q hp)]; exact e⟩
  by_cases ha : a = p
  · subst ha
    rw [sup_same] at e; cases e
    exact ⟨vs, upd_same, DKs.go g r⟩
  · rw [sup_ne ha] at e
    exact g.ok a c e
theorem tup_wr {p : Addr} {o o' : HO} (hp : H p = some o) (hc : (∃ xs, o = .lst xs) ∨ ∃ xs, o = .dK xs) {a : Addr} {vs : List V} (h : StT K H a vs) : StT K (upd H p o') a vs := by
  have ne : ∀ {b u}, H b = some u → (∀ xs, u ≠ .lst xs) → (∀ xs, u ≠ .dK xs) → b ≠ p := fun {b u} e h1 h2 z => by
    subst z
    rw [hp] at e
    rcases hc with ⟨xs, q⟩ | ⟨xs, q⟩
    · exact h1 xs ((Option.some.inj e).symm.trans q)
    · exact h2 xs ((Option.some.inj e).symm.trans q)
  rcases h with h | h
  · exact .inl (by rw [upd_ne (ne h (fun _ q => by cases q) (fun _ q => by cases q))]; exact h)
  · exact .inr h
mutual
theorem DV.wr {p : Addr} {o o' : HO} (hp : H p = some o) (hc : (∃ xs, o = .lst xs) ∨ ∃ xs, o = .dK xs) : ∀ (d : D) (v : V), DV K H d v → DV K (upd H p o') d v
  | .non, _, h => h
  | .bl _, _, h => h
  | .int _, _, h => h
  | .str _, _, h => h
  | .ty _, _, h => h
  | .ref _, _, h => h
  | .tup xs, v, h => by
    obtain ⟨a, vs, e, q, r⟩ := h
    exact ⟨a, vs, e, tup_wr hp hc q, DVs.wr hp hc xs vs r⟩
  | .fro xs, v, h => by
    obtain ⟨a, vs, e, q, r⟩ := h
    refine ⟨a, vs, e, ?_, DVs.wr hp hc xs vs r⟩
    rcases q with ⟨u, q⟩ | q
    · refine .inl ⟨u, ?_⟩
      rw [upd_ne (fun z => ?_)]
      · exact q
      · subst z
        rw [hp] at q
        rcases hc with ⟨xs, z⟩ | ⟨xs, z⟩ <;> (rw [z] at q; cases q)
    · exact .inr q
  | .exc C d, v, h => by
    obtain ⟨a, dx, w, e, q1, q2, r⟩ := h
    refine ⟨a, dx, w, e, ?_, ?_, DV.wr hp hc d w r⟩
    · rw [upd_ne (fun z => ?_)]
      · exact q1
      · subst z
        rw [hp] at q1
        rcases hc with ⟨xs, z⟩ | ⟨xs, z⟩ <;> (rw [z] at q1; cases q1)
    · rw [upd_ne (fun z => ?_)]
      · exact q2
      · subst z
        rw [hp] at q2
        rcases hc with ⟨xs, z⟩ | ⟨xs, z⟩ <;> (rw [z] at q2; cases q2)
theorem DVs.wr {p : Addr} {o o' : HO} (hp : H p = some o) (hc : (∃ xs, o = .lst xs) ∨ ∃ xs, o = .dK xs) : ∀ (ds : List D) (vs : List V), DVs K H ds vs → DVs K (upd H p o') ds vs
  | [], _, h => h
  | d :: ds, vs, h => by
    obtain ⟨v, ws, e, r, q⟩ := h
    exact ⟨v, ws, e, DV.wr hp hc d v r, DVs.wr hp hc ds ws q⟩
end
theorem DKs.wr {p : Addr} {o o' : HO} (hp : H p = some o) (hc : (∃ xs, o = .lst xs) ∨ ∃ xs, o = .dK xs) {ds : List (Key × D)} {vs : List (Key × V)} (h : DKs K H ds vs) : DKs K (upd H p o') ds vs := by
  induction h with
  | nil => exact .nil
  | cons r _ ih => exact .cons (DV.wr hp hc _ _ r) ih
theorem Go.setLst (h : SOk K H S) {p : Addr} {xs0 xs : List D} {vs : List V} (hp : S p = some (.lst xs0)) (r : DVs K H xs vs) : Go K H S (upd H p (.lst vs)) (sup S p (.lst xs)) := by
  obtain ⟨vs0, e0, _⟩ := h p _ hp
  refine ⟨h, fun a c e => ?_, fun a o e q => ?_, fun a o e q => ?_⟩
  · by_cases ha : a = p
    · subst ha
      rw [sup_same] at e; cases e
      exact ⟨vs, upd_same, DVs.wr e0 (.inl ⟨_, rfl⟩) _ _ r⟩
    · rw [sup_ne ha] at e
      have := h a c e
      cases c with
      | lst xs => obtain ⟨ws, e1, r⟩ := this; exact ⟨ws, by rw [upd_ne ha]; exact e1, DVs.wr e0 (.inl ⟨_, rfl⟩) _ _ r⟩
      | dK kvs => obtain ⟨ws, e1, r⟩ := this; exact ⟨ws, by rw [upd_ne ha]; exact e1, DKs.wr e0 (.inl ⟨_, rfl⟩) r⟩
  · rw [upd_ne (fun z => ?_)]
    · exact q
    · subst z; rw [hp] at e; cases e
  · rw [sup_ne (fun z => ?_)]
    · exact e
    · subst z; rw [hp] at e; cases e
theorem Go.setDK (h : SOk K H S) {p : Addr} {xs0 xs : List (Key × D)} {vs : List (Key × V)} (hp : S p = some (.dK xs0)) (r : DKs K H xs vs) : Go K H S (upd H p (.dK vs)) (sup S p (.dK xs)) := by
  obtain ⟨vs0, e0, _⟩ := h p _ hp
  refine ⟨h, fun a c e => ?_, fun a o e q => ?_, fun a o e q => ?_⟩
  · by_cases ha : a = p
    · subst ha
      rw [sup_same] at e; cases e
      exact ⟨vs, upd_same, DKs.wr e0 (.inr ⟨_, rfl⟩) r⟩
    · rw [sup_ne ha] at e
      have := h a c e
      cases c with
      | lst xs => obtain ⟨ws, e1, r⟩ := this; exact ⟨ws, by rw [upd_ne ha]; exact e1, DVs.wr e0 (.inr ⟨_, rfl⟩) _ _ r⟩
      | dK kvs => obtain ⟨ws, e1, r⟩ := this; exact ⟨ws, by rw [upd_ne ha]; exact e1, DKs.wr e0 (.inr ⟨_, rfl⟩) r⟩
  · rw [upd_ne (fun z => ?_)]
    · exact q
    · subst z; rw [hp] at e; cases e
  · rw [sup_ne (fun z => ?_)]
    · exact e
    · subst z; rw [hp] at e; cases e
/-- a list that is read: a cell, or one that never changes -/
def RdL (S : Sto) (d : D) (xs : List D) : Prop := (∃ a, d = .ref a ∧ S a = some (.lst xs)) ∨ d = .fro xs
theorem RdL.sq (h : SOk K H S) {d : D} {xs : List D} {v : V} (r : RdL S d xs) (dv : DV K H d v) : ∃ a vs, v = .ref a ∧ SqL K H a vs ∧ DVs K H xs vs := by
  rcases r with ⟨a, rfl, e⟩ | rfl
  · obtain ⟨vs, e1, q⟩ := h a _ e
    exact ⟨a, vs, dv, SqL.of e1, q⟩
  · obtain ⟨a, vs, e, q, r⟩ := dv
    exact ⟨a, vs, e, q.sq, r⟩
/-- a slot map -/
def SRv (K : PySem.W.Frag) (σ : L2.St) (H : Hp) (ρ : List (Option D)) : Prop := ρ.length = σ.length ∧ ∀ (i : Nat) (d : D), ρ[i]? = some (some d) → ∃ v, σ[i]? = some (some v) ∧ DV K H d v
theorem SRv.go {σ : L2.St} {ρ : List (Option D)} (r : SRv K σ H ρ) (g : Go K H S H1 S1) : SRv K σ H1 ρ := ⟨r.1, fun i d e => by
  obtain ⟨v, e1, q⟩ := r.2 i d e
  exact ⟨v, e1, DV.go g _ _ q⟩⟩
theorem SRv.set {σ : L2.St} {ρ : List (Option D)} (r : SRv K σ H ρ) {d : D} {v : V} (q : DV K H d v) (i : Nat) : SRv K (σ.set i (some v)) H (ρ.set i (some d)) := by
  refine ⟨by rw [List.length_set, List.length_set]; exact r.1, fun j e h => ?_⟩
  by_cases hj : i = j
  · subst hj
    have hl : i < ρ.length := by
      have := (List.getElem?_eq_some_iff.mp h).1
      rwa [List.length_set] at this
    rw [List.getElem?_set_self hl] at h
    have e2 : d = e := Option.some.inj (Option.some.inj h)
    subst e2
    exact ⟨v, by rw [List.getElem?_set_self (by rw [← r.1]; exact hl)], q⟩
  · rw [List.getElem?_set_ne hj] at h
    obtain ⟨u, e1, q1⟩ := r.2 j e h
    exact ⟨u, by rw [List.getElem?_set_ne hj]; exact e1, q1⟩
end
end DL
set_option Elab.async false
set_option linter.all false
set_option maxRecDepth 100000
set_option maxHeartbeats 4000000
namespace DL
open PySem PySem.Spec PyProof.Rows L2

/-! ### readings of plain values -/
abbrev Ro := List (Option D)
abbrev RE := Ro → Sto → (D → Sto → Prop) → Prop
abbrev RT := Ro → Sto → (Bool → Sto → Prop) → Prop
abbrev RA := Ro → Sto → (List D → Sto → Prop) → Prop
/-- what is wanted of an exception: its class, its value, the slots, the store -/
abbrev DWX := Addr → D → Ro → Sto → Prop
structure DXw where
  W : WX
  d : DWX
def XOk (K : PySem.W.Frag) (y : DXw) (H : Hp) (S : Sto) : Prop := ∀ C d ρ S' dx w σ H', Go K H S H' S' → SRv K σ H' ρ → H' dx = some (.xd [(("value" : Str), w)]) → DV K H' d w → y.d C d ρ S' → y.W (.ref C) (some dx) σ H'
structure SX (K : PySem.W.Frag) (y : DXw) (H : Hp) (S : Sto) : Prop where
  so : SOk K H S
  xo : XOk K y H S
theorem SX.go {K : PySem.W.Frag} {y : DXw} {H H' : Hp} {S S' : Sto} (h : SX K y H S) (g : Go K H S H' S') : SX K y H' S' :=
  ⟨g.ok, fun C d ρ S2 dx w σ H2 g2 => h.xo C d ρ S2 dx w σ H2 (g.trans g2)⟩
def lE (K : PySem.W.Frag) (y : DXw) (t : RE) : TE := fun σ H Q => ∃ ρ S R, SRv K σ H ρ ∧ SX K y H S ∧ t ρ S R ∧ ∀ d S' v H', Go K H S H' S' → DV K H' d v → R d S' → Q v H'
def lT (K : PySem.W.Frag) (y : DXw) (t : RT) : TT := fun σ H Q => ∃ ρ S R, SRv K σ H ρ ∧ SX K y H S ∧ t ρ S R ∧ ∀ b S' H', Go K H S H' S' → R b S' → Q b H'
def lA (K : PySem.W.Frag) (y : DXw) (n : Nat) (t : RA) : TA := fun σ H Q => ∃ ρ S R, SRv K σ H ρ ∧ SX K y H S ∧ t ρ S R ∧ ∀ ds S' vs H', Go K H S H' S' → DVs K H' ds vs → ds.length = n → R ds S' → Q vs H'
def PD (X : Cx) (y : DXw) (e : Expr) (t : RE) : Prop := PE X e (lE X.K y t)
def PDT (X : Cx) (y : DXw) (e : Expr) (t : RT) : Prop := PT X e (lT X.K y t)
def PDW (X : Cx) (y : DXw) (e : Expr) (t : RT) : Prop := PW X e (lT X.K y t)
def PDA (X : Cx) (y : DXw) (es : List Expr) (t : RA) : Prop := PA X es (lA X.K y es.length t)
/-- an if that stands still until it is looked at -/
@[irreducible] def IFB (b : Bool) (A B : Prop) : Prop := if b = true then A else B
theorem IFB.mk {b : Bool} {A B : Prop} (h1 : b = true → A) (h2 : b = false → B) : IFB b A B := by
  unfold IFB
  cases b with
  | true => rw [if_pos rfl]; exact h1 rfl
  | false => rw [if_neg Bool.false_ne_true]; exact h2 rfl
theorem IFB.t {b : Bool} {A B : Prop} (h : b = true) (h1 : A) : IFB b A B := IFB.mk (fun _ => h1) fun z => by rw [h] at z; cases z
theorem IFB.f {b : Bool} {A B : Prop} (h : b = false) (h1 : B) : IFB b A B := IFB.mk (fun z => by rw [h] at z; cases z) fun _ => h1
theorem IFB.of {b : Bool} {A B : Prop} (h : IFB b A B) : (b = true → A) ∧ (b = false → B) := by
  unfold IFB at h
  cases b with
  | true => rw [if_pos rfl] at h; exact ⟨fun _ => h, fun z => (by cases z)⟩
  | false => rw [if_neg Bool.false_ne_true] at h; exact ⟨fun z => (by cases z), fun _ => h⟩
theorem IFB.p {p : Prop} [Decidable p] {A B : Prop} (h1 : p → A) (h2 : ¬ p → B) : IFB (decide p) A B := IFB.mk (fun z => h1 (of_decide_eq_true z)) fun z => h2 (of_decide_eq_false z)
theorem IFB.np {p : Prop} [Decidable p] {A B : Prop} (h1 : ¬ p → A) (h2 : p → B) : IFB (!decide p) A B := IFB.mk (fun z => h1 (by simpa using z)) fun z => h2 (by simpa using z)

section
variable {X : Cx} {y : DXw}
theorem PD.of {e : Expr} {t0 : TE} {t : RE} (h : PE X e t0) (w : ∀ σ H Q, lE X.K y t σ H Q → t0 σ H Q) : PD X y e t := ⟨fun pins s σ H Q I q => h.run pins s σ H Q I (w σ H Q q)⟩
theorem PDT.of {e : Expr} {t0 : TT} {t : RT} (h : PT X e t0) (w : ∀ σ H Q, lT X.K y t σ H Q → t0 σ H Q) : PDT X y e t := ⟨fun pins s σ H Q I q => h.run pins s σ H Q I (w σ H Q q)⟩
theorem PDA.of {e : List Expr} {t0 : TA} {t : RA} (h : PA X e t0) (w : ∀ σ H Q, lA X.K y e.length t σ H Q → t0 σ H Q) : PDA X y e t := ⟨fun pos pins s σ H Q I q => h.run pos pins s σ H Q I (w σ H Q q)⟩

/-! ### names, constants -/
def rVar (i : Nat) : RE := fun ρ S Q => match ρ[i]? with
  | some (some d) => Q d S
  | _ => False
def rC (d : D) : RE := fun _ S Q => Q d S
theorem pd_var (i : Nat) {x : Str} {pos : Pos} (hN : X.N[i]? = some x := by rfl) (hv : Vis X.env.scope x := by first | exact Or.inl rfl | exact Or.inr (Or.inl rfl) | exact Or.inr (Or.inr rfl)) (hd : (x == ("__debug__" : Str)) = false := by decide)
    (hcd : (x == ("__classdict__" : Str)) = false := by decide) : PD X y (.Name x pos) (rVar i) := by
  refine PD.of (pe_var hN hv hd hcd) fun σ H Q h => ?_
  obtain ⟨ρ, S, R, sr, so, h, k⟩ := h
  unfold rVar at h
  split at h
  · rename_i d e
    obtain ⟨v, e1, q⟩ := sr.2 i d e
    exact ⟨v, e1, k d S v H (Go.refl so.so) q h⟩
  · exact h.elim
theorem pd_c {e : Expr} {v : V} {d : D} (h : PE X e (tC v)) (hd : ∀ H, DV X.K H d v) : PD X y e (rC d) := by
  refine PD.of h fun σ H Q h => ?_
  obtain ⟨ρ, S, R, sr, so, h, k⟩ := h
  exact k d S v H (Go.refl so.so) (hd H) h
theorem pd_int {i j pos} : PD X y (.Constant (.int i) j pos) (rC (.int i)) := pd_c pe_int fun _ => rfl
theorem pd_bl {i j pos} : PD X y (.Constant (.bool i) j pos) (rC (.bl i)) := pd_c pe_bl fun _ => rfl
theorem pd_non {j pos} : PD X y (.Constant .none j pos) (rC .non) := pd_c pe_non fun _ => rfl
theorem pd_str {x j pos} : PD X y (.Constant (.str x) j pos) (rC (.str x)) := pd_c pe_str fun _ => rfl
/-- a module's constant -/
theorem pd_glob {x : Str} {v : V} {u : Value} {d : D} {pos : Pos} (hm : X.mg x = some u) (r : RelV v u) (hd' : ∀ H, DV X.K H d v) (hg : Gl X x := by rfl) (hd : (x == ("__debug__" : Str)) = false := by decide) : PD X y (.Name x pos) (rC d) :=
  pd_c (pe_glob hg hm r hd) hd'

/-! ### two-place operators, by values -/
abbrev ROp := D → D → Sto → (D → Sto → Prop) → Prop
def lop (K : PySem.W.Frag) (p : ROp) : R2 := fun v w H Q => ∃ x y S R, DV K H x v ∧ DV K H y w ∧ SOk K H S ∧ p x y S R ∧ ∀ d S' z H', Go K H S H' S' → DV K H' d z → R d S' → Q z H'
def rBin (p : ROp) (ta tb : RE) : RE := fun ρ S Q => ta ρ S fun x S1 => tb ρ S1 fun y S2 => p x y S2 Q
theorem bin_of {r : R2} {p : ROp} {ta tb : RE} {σ : L2.St} {H : Hp} {Q : VK} (hr : ∀ v w H Q, lop X.K p v w H Q → r v w H Q) (h : lE X.K y (rBin p ta tb) σ H Q) : tOp r (lE X.K y ta) (lE X.K y tb) σ H Q := by
  obtain ⟨ρ, S, R, sr, so, h, k⟩ := h
  refine ⟨ρ, S, _, sr, so, h, fun x S1 v H1 g1 dv1 h1 => ⟨ρ, S1, _, sr.go g1, so.go g1, h1, fun y S2 w H2 g2 dv2 h2 => ?_⟩⟩
  exact hr _ _ _ _ ⟨x, y, S2, R, DV.go g2 _ _ dv1, dv2, g2.ok, h2, fun d S' z H' g dz hz => k d S' z H' (g1.trans (g2.trans g)) dz hz⟩
theorem pd_bin {op : Operator} {p : ROp} {a b : Expr} {ta tb : RE} {pos : Pos} (ho : OpR X (binaryOp op) (lop X.K p)) (ha : PD X y a ta) (hb : PD X y b tb) : PD X y (.BinOp a op b pos) (rBin p ta tb) :=
  PD.of (pe_op ho ha hb) fun _ _ _ h => bin_of (fun _ _ _ _ z => z) h
theorem pd_cmp {op : CmpOp} {p : ROp} {a b : Expr} {ta tb : RE} {pos : Pos} (ho : OpR X (compareOp op) (lop X.K p)) (ha : PD X y a ta) (hb : PD X y b tb) (hm : behindInMarks op b = false := by first | rfl | exact nomark _) : PD X y (.Compare a [op] [b] pos) (rBin p ta tb) :=
  PD.of (pe_cmpR ho ha hb hm) fun _ _ _ h => bin_of (fun _ _ _ _ z => z) h
/-- a value's truth, where it is a bool -/
def dBl : D → (Bool → Prop) → Prop
  | .bl b, k => k b
  | _, _ => False
def rTst (t : RE) : RT := fun ρ S Q => t ρ S fun d S1 => dBl d fun b => Q b S1
theorem tst_of {t0 : TE} {t : RE} {σ : L2.St} {H : Hp} {Q : Bool → Hp → Prop} (ht : ∀ σ H Q, lE X.K y t σ H Q → t0 σ H Q) (h : lT X.K y (rTst t) σ H Q) : t0 σ H (fun x H' => ∃ k, x = .bl k ∧ Q k H') := by
  obtain ⟨ρ, S, R, sr, so, h, k⟩ := h
  refine ht _ _ _ ⟨ρ, S, _, sr, so, h, fun d S' v H' g dv hd => ?_⟩
  cases d with
  | bl b => exact ⟨b, dv, k b S' H' g hd⟩
  | _ => exact False.elim hd
theorem pdt_cmp {op : CmpOp} {p : ROp} {a b : Expr} {ta tb : RE} {pos : Pos} (ho : OpR X (compareOp op) (lop X.K p)) (ha : PD X y a ta) (hb : PD X y b tb) (hm : behindInMarks op b = false := by first | rfl | exact nomark _) : PDT X y (.Compare a [op] [b] pos) (rTst (rBin p ta tb)) :=
  PDT.of (pt_cmpR ho ha hb hm) fun _ _ _ h => tst_of (fun _ _ _ h => bin_of (fun _ _ _ _ z => z) h) h
theorem pdt_val {e : Expr} {t : RE} (h : PD X y e t) (he : ∀ whole, isTrue e X.env whole = (do let v ← whole; standAt e.pos; holding [v] (truthy v)) := by intro _; rfl) : PDT X y e (rTst t) :=
  PDT.of (pt_val h he) fun _ _ _ h => tst_of (fun _ _ _ h => h) h
/-- a value's truth -/
def dTru : D → Sto → (Bool → Prop) → Prop
  | .non, _, k => k false
  | .bl b, _, k => k b
  | .int i, _, k => k (i != 0)
  | .str x, _, k => x.length ≤ sizeLine ∧ k ((x.length : Int) != 0)
  | .tup xs, _, k => k (!xs.isEmpty)
  | .fro xs, _, k => k (!xs.isEmpty)
  | .ref a, S, k => (∃ xs, S a = some (.lst xs) ∧ k (!xs.isEmpty)) ∨ ∃ kvs, S a = some (.dK kvs) ∧ k (!kvs.isEmpty)
  | _, _, _ => False
theorem DVs.empty {K : PySem.W.Frag} {H : Hp} {ds : List D} {vs : List V} (h : DVs K H ds vs) : ds.isEmpty = vs.isEmpty := by
  have := h.length
  cases ds <;> cases vs <;> simp_all
theorem DKs.length {K : PySem.W.Frag} {H : Hp} {ds : List (Key × D)} {vs : List (Key × V)} (h : DKs K H ds vs) : ds.length = vs.length := by
  induction h with
  | nil => rfl
  | cons _ _ ih => simp [ih]
theorem DKs.empty {K : PySem.W.Frag} {H : Hp} {ds : List (Key × D)} {vs : List (Key × V)} (h : DKs K H ds vs) : ds.isEmpty = vs.isEmpty := by
  cases h <;> rfl
theorem dTru_of {K : PySem.W.Frag} {H : Hp} {S : Sto} (so : SOk K H S) : ∀ {d : D} {v : V} {k : Bool → Prop}, DV K H d v → dTru d S k → ∃ b, TruV K v H b ∧ k b
  | .non, _, _, h, q => by cases (show _ = V.non from h); exact ⟨false, rfl, q⟩
  | .bl b, _, _, h, q => by cases (show _ = V.bl b from h); exact ⟨b, rfl, q⟩
  | .int i, _, _, h, q => by cases (show _ = V.int i from h); exact ⟨_, rfl, q⟩
  | .str x, _, _, h, q => by cases (show _ = V.str x from h); exact ⟨_, ⟨q.1, rfl⟩, q.2⟩
  | .tup xs, _, _, h, q => by
    obtain ⟨a, vs, rfl, e, r⟩ := h
    exact ⟨_, .inr (.inl ⟨vs, e.sq, rfl⟩), by rw [← r.empty]; exact q⟩
  | .fro xs, _, _, h, q => by
    obtain ⟨a, vs, rfl, e, r⟩ := h
    exact ⟨_, .inl ⟨vs, e.sq, rfl⟩, by rw [← r.empty]; exact q⟩
  | .ref a, _, _, h, q => by
    cases (show _ = V.ref a from h)
    rcases q with ⟨xs, e, q⟩ | ⟨xs, e, q⟩
    · obtain ⟨vs, e1, r⟩ := so a _ e
      exact ⟨_, .inl ⟨vs, SqL.of e1, rfl⟩, by rw [← r.empty]; exact q⟩
    · obtain ⟨vs, e1, r⟩ := so a _ e
      exact ⟨_, .inr (.inr ⟨vs, e1, rfl⟩), by rw [← r.empty]; exact q⟩
  | .ty _, _, _, _, q => q.elim
  | .exc _ _, _, _, _, q => q.elim
def rTru (t : RE) : RT := fun ρ S Q => t ρ S fun d S1 => dTru d S1 fun b => Q b S1
theorem pdt_tru {e : Expr} {t : RE} (h : PD X y e t) (he : ∀ whole, isTrue e X.env whole = (do let v ← whole; standAt e.pos; holding [v] (truthy v)) := by intro _; rfl) : PDT X y e (rTru t) := by
  refine PDT.of (pt_truth h he) fun σ H Q h => ?_
  obtain ⟨ρ, S, R, sr, so, h, k⟩ := h
  refine ⟨ρ, S, _, sr, so, h, fun d S' v H' g dv hd => ?_⟩
  obtain ⟨b, h1, h2⟩ := dTru_of g.ok dv hd
  exact ⟨b, h1, k b S' H' g h2⟩

/-! ### and, or, not, if -/
def rAnd (t u : RT) : RT := fun ρ S Q => t ρ S fun c S1 => IFB c (u ρ S1 Q) (Q false S1)
def rOr (t u : RT) : RT := fun ρ S Q => t ρ S fun c S1 => IFB c (Q true S1) (u ρ S1 Q)
def rNot (t : RT) : RT := fun ρ S Q => t ρ S fun c S1 => Q (!c) S1
theorem ite_of_IFB {b : Bool} {A B A' B' : Prop} (h : IFB b A B) (h1 : A → A') (h2 : B → B') : if b = true then A' else B' := by
  have q := h.of
  cases b with
  | true => rw [if_pos rfl]; exact h1 (q.1 rfl)
  | false => rw [if_neg Bool.false_ne_true]; exact h2 (q.2 rfl)
variable {a b : Expr} {rest : List Expr} {pos : Pos}
theorem pdw_and1 {t : RT} (h : PDT X y a t) : PDW X y (.BoolOp .And [a] pos) t := pw_and1 h
theorem pdw_or1 {t : RT} (h : PDT X y a t) : PDW X y (.BoolOp .Or [a] pos) t := pw_or1 h
theorem PDW.of {e : Expr} {t0 : TT} {t : RT} (h : PW X e t0) (w : ∀ σ H Q, lT X.K y t σ H Q → t0 σ H Q) : PDW X y e t := ⟨fun wh pins s σ H Q I q => h.run wh pins s σ H Q I (w σ H Q q)⟩
theorem pdw_and {t u : RT} (ha : PDT X y a t) (hb : PDW X y (.BoolOp .And (b :: rest) pos) u) : PDW X y (.BoolOp .And (a :: b :: rest) pos) (rAnd t u) := by
  refine PDW.of (pw_and ha hb) fun σ H Q h => ?_
  obtain ⟨ρ, S, R, sr, so, h, k⟩ := h
  refine ⟨ρ, S, _, sr, so, h, fun c S' H' g hd => ?_⟩
  exact ite_of_IFB hd (fun z => ⟨ρ, S', R, sr.go g, so.go g, z, fun b S2 H2 g2 q => k b S2 H2 (g.trans g2) q⟩) fun z => k false S' H' g z
theorem pdw_or {t u : RT} (ha : PDT X y a t) (hb : PDW X y (.BoolOp .Or (b :: rest) pos) u) : PDW X y (.BoolOp .Or (a :: b :: rest) pos) (rOr t u) := by
  refine PDW.of (pw_or ha hb) fun σ H Q h => ?_
  obtain ⟨ρ, S, R, sr, so, h, k⟩ := h
  refine ⟨ρ, S, _, sr, so, h, fun c S' H' g hd => ?_⟩
  exact ite_of_IFB hd (fun z => k true S' H' g z) fun z => ⟨ρ, S', R, sr.go g, so.go g, z, fun b S2 H2 g2 q => k b S2 H2 (g.trans g2) q⟩
theorem PDW.pt {e : Expr} {t : RT} (h : PDW X y e t) : PDT X y e t := PW.pt h
theorem pdt_not {t : RT} (ha : PDT X y a t) : PDT X y (.UnaryOp .Not a pos) (rNot t) := by
  refine PDT.of (pt_not ha) fun σ H Q h => ?_
  obtain ⟨ρ, S, R, sr, so, h, k⟩ := h
  exact ⟨ρ, S, _, sr, so, h, fun c S' H' g hd => k _ S' H' g hd⟩
def rAndV (t u : RE) : RE := fun ρ S Q => t ρ S fun d S1 => dBl d fun c => IFB c (u ρ S1 Q) (Q (.bl false) S1)
def rOrV (t u : RE) : RE := fun ρ S Q => t ρ S fun d S1 => dBl d fun c => IFB c (Q (.bl true) S1) (u ρ S1 Q)
def rNotV (t : RE) : RE := fun ρ S Q => t ρ S fun d S1 => dBl d fun c => Q (.bl (!c)) S1
theorem pd_one {op : BoolOp} {t : RE} (h : PD X y a t) : PD X y (.BoolOp op [a] pos) t := pe_one h
theorem pd_and {t u : RE} (ha : PD X y a t) (hb : PD X y (.BoolOp .And (b :: rest) pos) u) : PD X y (.BoolOp .And (a :: b :: rest) pos) (rAndV t u) := by
  refine PD.of (pe_and ha hb) fun σ H Q h => ?_
  obtain ⟨ρ, S, R, sr, so, h, k⟩ := h
  refine ⟨ρ, S, _, sr, so, h, fun d S' v H' g dv hd => ?_⟩
  cases d with
  | bl c =>
    refine ⟨c, dv, ite_of_IFB hd (fun z => ⟨ρ, S', R, sr.go g, so.go g, z, fun d S2 v H2 g2 dv q => k d S2 v H2 (g.trans g2) dv q⟩) fun z => k (.bl false) S' _ H' g rfl z⟩
  | _ => exact False.elim hd
theorem pd_or {t u : RE} (ha : PD X y a t) (hb : PD X y (.BoolOp .Or (b :: rest) pos) u) : PD X y (.BoolOp .Or (a :: b :: rest) pos) (rOrV t u) := by
  refine PD.of (pe_or ha hb) fun σ H Q h => ?_
  obtain ⟨ρ, S, R, sr, so, h, k⟩ := h
  refine ⟨ρ, S, _, sr, so, h, fun d S' v H' g dv hd => ?_⟩
  cases d with
  | bl c =>
    refine ⟨c, dv, ite_of_IFB hd (fun z => k (.bl true) S' _ H' g rfl z) fun z => ⟨ρ, S', R, sr.go g, so.go g, z, fun d S2 v H2 g2 dv q => k d S2 v H2 (g.trans g2) dv q⟩⟩
  | _ => exact False.elim hd
theorem pd_not {t : RE} (ha : PD X y a t) : PD X y (.UnaryOp .Not a pos) (rNotV t) := by
  refine PD.of (pe_not ha) fun σ H Q h => ?_
  obtain ⟨ρ, S, R, sr, so, h, k⟩ := h
  refine ⟨ρ, S, _, sr, so, h, fun d S' v H' g dv hd => ?_⟩
  cases d with
  | bl c => exact ⟨c, dv, k (.bl (!c)) S' _ H' g rfl hd⟩
  | _ => exact False.elim hd
def rIf (t : RT) (u w : RE) : RE := fun ρ S Q => t ρ S fun c S1 => IFB c (u ρ S1 Q) (w ρ S1 Q)
theorem pd_if {c : Expr} {t : RT} {u w : RE} (hc : PDT X y c t) (ha : PD X y a u) (hb : PD X y b w) : PD X y (.IfExp c a b pos) (rIf t u w) := by
  refine PD.of (pe_ifExp hc ha hb) fun σ H Q h => ?_
  obtain ⟨ρ, S, R, sr, so, h, k⟩ := h
  refine ⟨ρ, S, _, sr, so, h, fun c S' H' g hd => ?_⟩
  exact ite_of_IFB hd (fun z => ⟨ρ, S', R, sr.go g, so.go g, z, fun d S2 v H2 g2 dv q => k d S2 v H2 (g.trans g2) dv q⟩) fun z => ⟨ρ, S', R, sr.go g, so.go g, z, fun d S2 v H2 g2 dv q => k d S2 v H2 (g.trans g2) dv q⟩

/-! ### arguments, displays -/
def rNil : RA := fun _ S Q => Q [] S
def rCons (t : RE) (u : RA) : RA := fun ρ S Q => t ρ S fun d S1 => u ρ S1 fun ds S2 => Q (d :: ds) S2
variable {e : Expr} {es : List Expr}
theorem pda_nil : PDA X y [] rNil := PDA.of pa_nil fun σ H Q h => by
  obtain ⟨ρ, S, R, sr, so, h, k⟩ := h
  exact k [] S [] H (Go.refl so.so) DVs.nil rfl h
theorem pda_cons {t : RE} {u : RA} (he : PD X y e t) (hr : PDA X y es u) (hs : starEach (e :: es) X.env = (false, eval e X.env) :: starEach es X.env := by rfl) : PDA X y (e :: es) (rCons t u) := by
  refine PDA.of (pa_cons he hr hs) fun σ H Q h => ?_
  obtain ⟨ρ, S, R, sr, so, h, k⟩ := h
  refine ⟨ρ, S, _, sr, so, h, fun d S1 v H1 g1 dv h1 => ⟨ρ, S1, _, sr.go g1, so.go g1, h1, fun ds S2 vs H2 g2 dvs hn h2 => ?_⟩⟩
  exact k _ S2 _ H2 (g1.trans g2) (DVs.cons (DV.go g2 _ _ dv) dvs) (by rw [List.length_cons, List.length_cons, hn]) h2
def rTup (t : RA) : RE := fun ρ S Q => t ρ S fun ds S1 => Q (.tup ds) S1
def rLst (t : RA) : RE := fun ρ S Q => t ρ S fun ds S1 => ∀ p, S1 p = none → Q (.ref p) (sup S1 p (.lst ds))
theorem pd_tup {t : RA} {k : Nat} (h : PDA X y es t) (hl : es.length ≤ sizeLine := by decide) : PD X y (.Tuple es k pos) (rTup t) := by
  refine PD.of (pe_tup h) fun σ H Q h => ?_
  obtain ⟨ρ, S, R, sr, so, h, k⟩ := h
  refine ⟨ρ, S, _, sr, so, h, fun ds S1 vs H1 g1 dvs hn h1 => ⟨by rw [← dvs.length, hn]; exact hl, fun p hp => ?_⟩⟩
  have g2 := Go.new (o := .tup vs) g1.ok hp
  exact k (.tup ds) S1 _ _ (g1.trans g2) ⟨p, vs, rfl, .inl upd_same, DVs.go g2 _ _ dvs⟩ h1
theorem pd_lst {t : RA} (h : PDA X y es t) (hl : es.length ≤ sizeLine := by decide) : PD X y (.List es pos) (rLst t) := by
  refine PD.of (pe_lst h) fun σ H Q h => ?_
  obtain ⟨ρ, S, R, sr, so, h, k⟩ := h
  refine ⟨ρ, S, _, sr, so, h, fun ds S1 vs H1 g1 dvs hn h1 => ⟨by rw [← dvs.length, hn]; exact hl, fun p hp => ?_⟩⟩
  have g2 := Go.newLst g1.ok hp dvs
  exact k (.ref p) _ _ _ (g1.trans g2) rfl (h1 p (g1.ok.free hp))
end
end DL
set_option Elab.async false
set_option linter.all false
set_option maxRecDepth 100000
set_option maxHeartbeats 4000000
namespace DL
open PySem PySem.Spec PyProof.Rows L2

/-! ### statements -/
structure DEnds where
  nx : Ro → Sto → Prop
  rt : D → Sto → Prop
  bk : Ro → Sto → Prop := fun _ _ => False
  ct : Ro → Sto → Prop := fun _ _ => False
abbrev RS := DEnds → Ro → Sto → Prop
structure EOk (K : PySem.W.Frag) (H : Hp) (S : Sto) (E : DEnds) (D : Ends) : Prop where
  nx : ∀ ρ S' σ H', Go K H S H' S' → SRv K σ H' ρ → E.nx ρ S' → D.nx σ H'
  rt : ∀ d S' v H', Go K H S H' S' → DV K H' d v → E.rt d S' → D.rt v H'
  bk : ∀ ρ S' σ H', Go K H S H' S' → SRv K σ H' ρ → E.bk ρ S' → D.bk σ H'
  ct : ∀ ρ S' σ H', Go K H S H' S' → SRv K σ H' ρ → E.ct ρ S' → D.ct σ H'
theorem EOk.go {K : PySem.W.Frag} {H H1 : Hp} {S S1 : Sto} {E : DEnds} {D : Ends} (h : EOk K H S E D) (g : Go K H S H1 S1) : EOk K H1 S1 E D :=
  ⟨fun ρ S' σ H' g' => h.nx ρ S' σ H' (g.trans g'), fun d S' v H' g' => h.rt d S' v H' (g.trans g'), fun ρ S' σ H' g' => h.bk ρ S' σ H' (g.trans g'), fun ρ S' σ H' g' => h.ct ρ S' σ H' (g.trans g')⟩
def lS (K : PySem.W.Frag) (y : DXw) (t : RS) : TS := fun D σ H => ∃ ρ S E, SRv K σ H ρ ∧ SX K y H S ∧ t E ρ S ∧ EOk K H S E D
def PDS (X : Cx) (y : DXw) (st : Stmt) (t : RS) : Prop := PS X st (lS X.K y t)
def PDSs (X : Cx) (y : DXw) (st : List Stmt) (t : RS) : Prop := PSs X st (lS X.K y t)
section
variable {X : Cx} {y : DXw} {st : Stmt} {rest : List Stmt} {t u : RS} {e : Expr} {te : RE} {pos : Pos}
theorem PDS.of {t0 : TS} (h : PS X st t0) (w : ∀ D σ H, lS X.K y t D σ H → t0 D σ H) : PDS X y st t := ⟨fun pins s σ H D I q => h.run pins s σ H D I (w D σ H q)⟩
theorem PDSs.of {sts : List Stmt} {t0 : TS} (h : PSs X sts t0) (w : ∀ D σ H, lS X.K y t D σ H → t0 D σ H) : PDSs X y sts t := ⟨fun pins s σ H D I q => h.run pins s σ H D I (w D σ H q)⟩
def rNext : RS := fun E ρ S => E.nx ρ S
def rSeq (t u : RS) : RS := fun E ρ S => t { E with nx := u E } ρ S
def rBreak : RS := fun E ρ S => E.bk ρ S
def rCont : RS := fun E ρ S => E.ct ρ S
def rNever : RS := fun _ _ _ => False
theorem pds_nil : PDSs X y [] rNext := PDSs.of pss_nil fun D σ H h => by
  obtain ⟨ρ, S, E, sr, so, h, eo⟩ := h
  exact eo.nx ρ S σ H (Go.refl so.so) sr h
theorem pds_one (h : PDS X y st t) : PDSs X y [st] t := pss_one h
theorem pds_cons (h1 : PDS X y st t) (h2 : PDSs X y rest u) : PDSs X y (st :: rest) (rSeq t u) := PDSs.of (pss_cons h1 h2) fun D σ H h => by
  obtain ⟨ρ, S, E, sr, so, h, eo⟩ := h
  exact ⟨ρ, S, { E with nx := u E }, sr, so, h, ⟨fun ρ' S' σ' H' g sr' q => ⟨ρ', S', E, sr', so.go g, q, eo.go g⟩, eo.rt, eo.bk, eo.ct⟩⟩
theorem pd_pass : PDS X y (.Pass pos) rNext := PDS.of ps_pass fun D σ H h => by
  obtain ⟨ρ, S, E, sr, so, h, eo⟩ := h
  exact eo.nx ρ S σ H (Go.refl so.so) sr h
theorem pd_break : PDS X y (.Break pos) rBreak := PDS.of ps_break fun D σ H h => by
  obtain ⟨ρ, S, E, sr, so, h, eo⟩ := h
  exact eo.bk ρ S σ H (Go.refl so.so) sr h
theorem pd_cont : PDS X y (.Continue pos) rCont := PDS.of ps_continue fun D σ H h => by
  obtain ⟨ρ, S, E, sr, so, h, eo⟩ := h
  exact eo.ct ρ S σ H (Go.refl so.so) sr h
theorem pd_never : PDS X y st rNever := PDS.of ps_never fun D σ H h => by
  obtain ⟨ρ, S, E, sr, so, h, eo⟩ := h
  exact h
theorem pds_never {sts : List Stmt} : PDSs X y sts rNever := PDSs.of pss_never fun D σ H h => by
  obtain ⟨ρ, S, E, sr, so, h, eo⟩ := h
  exact h
def rDrop (te : RE) : RS := fun E ρ S => te ρ S fun _ S1 => E.nx ρ S1
theorem pd_expr (he : PD X y e te) (hs : swapsWith e none pos.line X.env = pure false := by rfl) : PDS X y (.Expr e pos) (rDrop te) := PDS.of (ps_expr he hs) fun D σ H h => by
  obtain ⟨ρ, S, E, sr, so, h, eo⟩ := h
  exact ⟨ρ, S, _, sr, so, h, fun d S' v H' g dv q => eo.nx ρ S' σ H' g (sr.go g) q⟩
def rRet (te : RE) : RS := fun E ρ S => te ρ S E.rt
theorem pd_ret (he : PD X y e te) : PDS X y (.Return (some e) pos) (rRet te) := PDS.of (ps_ret he) fun D σ H h => by
  obtain ⟨ρ, S, E, sr, so, h, eo⟩ := h
  exact ⟨ρ, S, _, sr, so, h, fun d S' v H' g dv q => eo.rt d S' v H' g dv q⟩
def rRetN : RS := fun E _ S => E.rt .non S
theorem pd_retN : PDS X y (.Return none pos) rRetN := PDS.of ps_retN fun D σ H h => by
  obtain ⟨ρ, S, E, sr, so, h, eo⟩ := h
  exact eo.rt .non S .non H (Go.refl so.so) rfl h
def rIfS (c : RT) (t u : RS) : RS := fun E ρ S => c ρ S fun b S1 => IFB b (t E ρ S1) (u E ρ S1)
theorem pd_ifS {c : Expr} {a b : List Stmt} {tc : RT} (hc : PDT X y c tc) (ha : PDSs X y a t) (hb : PDSs X y b u) : PDS X y (.If c a b pos) (rIfS tc t u) := PDS.of (ps_if hc ha hb) fun D σ H h => by
  obtain ⟨ρ, S, E, sr, so, h, eo⟩ := h
  refine ⟨ρ, S, _, sr, so, h, fun b S' H' g q => ?_⟩
  exact ite_of_IFB q (fun z => ⟨ρ, S', E, sr.go g, so.go g, z, eo.go g⟩) fun z => ⟨ρ, S', E, sr.go g, so.go g, z, eo.go g⟩

/-! ### targets -/
abbrev RG := D → Ro → Sto → (Ro → Sto → Prop) → Prop
abbrev RGs := List D → Ro → Sto → (Ro → Sto → Prop) → Prop
def lG (K : PySem.W.Frag) (y : DXw) (t : RG) : TG := fun v σ H Q => ∃ d ρ S R, DV K H d v ∧ SRv K σ H ρ ∧ SX K y H S ∧ t d ρ S R ∧ ∀ ρ' S' σ' H', Go K H S H' S' → SRv K σ' H' ρ' → R ρ' S' → Q σ' H'
def lGs (K : PySem.W.Frag) (y : DXw) (t : RGs) : TGs := fun vs σ H Q => ∃ ds ρ S R, DVs K H ds vs ∧ SRv K σ H ρ ∧ SX K y H S ∧ t ds ρ S R ∧ ∀ ρ' S' σ' H', Go K H S H' S' → SRv K σ' H' ρ' → R ρ' S' → Q σ' H'
def PDG (X : Cx) (y : DXw) (tg : Expr) (t : RG) : Prop := PG X tg (lG X.K y t)
def PDGs (X : Cx) (y : DXw) (ts : List Expr) (t : RGs) : Prop := PGs X ts (lGs X.K y t)
theorem PDG.of {tg : Expr} {t0 : TG} {t : RG} (h : PG X tg t0) (w : ∀ v σ H Q, lG X.K y t v σ H Q → t0 v σ H Q) : PDG X y tg t := ⟨fun pins s σ H v u Q I r q => h.run pins s σ H v u Q I r (w v σ H Q q)⟩
theorem PDGs.of {ts : List Expr} {t0 : TGs} {t : RGs} (h : PGs X ts t0) (w : ∀ v σ H Q, lGs X.K y t v σ H Q → t0 v σ H Q) : PDGs X y ts t := ⟨fun pins s σ H v u Q I r q => h.run pins s σ H v u Q I r (w v σ H Q q)⟩
def gN (i : Nat) : RG := fun d ρ S Q => Q (ρ.set i (some d)) S
theorem pdg_name (i : Nat) {x : Str} (hN : X.N.Nodup) (hi : X.N[i]? = some x := by rfl) (hx : Loc X.env.scope x := by first | exact Or.inl rfl | exact Or.inr rfl) (hf : X.fn x = true ∨ X.env.scope.names.lookup x = some .local := by first | exact .inl rfl | exact .inr rfl) : PDG X y (.Name x pos) (gN i) :=
  PDG.of (pg_name hN hi hx hf) fun v σ H Q h => by
    obtain ⟨d, ρ, S, R, dv, sr, so, h, k⟩ := h
    exact k _ S _ H (Go.refl so.so) (sr.set dv i) h
def gNl : RGs := fun ds ρ S Q => match ds with
  | [] => Q ρ S
  | _ => False
def gCs (t : RG) (u : RGs) : RGs := fun ds ρ S Q => match ds with
  | d :: r => t d ρ S fun ρ' S' => u r ρ' S' Q
  | [] => False
theorem pdgs_nil : PDGs X y [] gNl := PDGs.of pgs_nil fun vs σ H Q h => by
  obtain ⟨ds, ρ, S, R, dv, sr, so, h, k⟩ := h
  cases ds with
  | nil => exact ⟨dv, k ρ S σ H (Go.refl so.so) sr h⟩
  | cons d r => exact h.elim
theorem pdgs_cons {es : List Expr} {t : RG} {u : RGs} (h1 : PDG X y e t) (h2 : PDGs X y es u) (hs : (assignEach (e :: es) X.env).map (·.2) = assign e X.env :: (assignEach es X.env).map (·.2) := by rfl) : PDGs X y (e :: es) (gCs t u) := PDGs.of (pgs_cons h1 h2 hs) fun vs σ H Q h => by
  obtain ⟨ds, ρ, S, R, dv, sr, so, h, k⟩ := h
  cases ds with
  | nil => exact h.elim
  | cons d r =>
    obtain ⟨v, ws, rfl, dv1, dv2⟩ := dv
    exact ⟨v, ws, rfl, d, ρ, S, _, dv1, sr, so, h, fun ρ1 S1 σ1 H1 g1 sr1 h1 => ⟨r, ρ1, S1, R, DVs.go g1 _ _ dv2, sr1, so.go g1, h1, fun ρ2 S2 σ2 H2 g2 sr2 h2 => k ρ2 S2 σ2 H2 (g1.trans g2) sr2 h2⟩⟩
def gTp (n : Nat) (t : RGs) : RG := fun d ρ S Q => match d with
  | .tup xs => xs.length = n ∧ t xs ρ S Q
  | _ => False
theorem pdg_tup {es : List Expr} {k : Nat} {t : RGs} {n : Nat} (hc : X.calm = true) (h : PDGs X y es t) (hn : (assignEach es X.env).length = n := by rfl) (hst : (assignEach es X.env).findIdx? (·.1) = none := by rfl) : PDG X y (.Tuple es k pos) (gTp n t) :=
  PDG.of (pg_tup hc h hn hst) fun v σ H Q h => by
    obtain ⟨d, ρ, S, R, dv, sr, so, h, k⟩ := h
    cases d with
    | tup xs =>
      obtain ⟨a, vs, rfl, q, r⟩ := dv
      exact ⟨a, vs, rfl, q.sq, r.length.symm.trans h.1, xs, ρ, S, R, r, sr, so, h.2, k⟩
    | _ => exact False.elim h
/-- o[i] = d, by values -/
abbrev RSet := D → D → D → Sto → (Sto → Prop) → Prop
def lset (K : PySem.W.Frag) (p : RSet) : TSet := fun o i v H Q => ∃ x k d S R, DV K H x o ∧ DV K H k i ∧ DV K H d v ∧ SOk K H S ∧ p x k d S R ∧ ∀ S' H', Go K H S H' S' → R S' → Q H'
def gSb (to ti : RE) (p : RSet) : RG := fun d ρ S Q => to ρ S fun o S1 => ti ρ S1 fun i S2 => p o i d S2 fun S3 => Q ρ S3
theorem pdg_sub {o i : Expr} {to ti : RE} {p : RSet} (hs : PSet X (lset X.K p)) (ho : PD X y o to) (hi : PD X y i ti)
    (ha : ∀ v, assign (.Subscript o i pos) X.env v = (do
      let ov ← holding [v] (eval o X.env)
      let iv ← holding [v, ov] (eval i X.env)
      standAt pos
      holding [v, ov, iv] (setItem ov iv v)
      release [v, ov, iv] []) := by intro _; rfl) : PDG X y (.Subscript o i pos) (gSb to ti p) := PDG.of (pg_sub ho hi hs ha) fun v σ H Q h => by
  obtain ⟨d, ρ, S, R, dv, sr, so, h, k⟩ := h
  refine ⟨ρ, S, _, sr, so, h, fun x S1 v1 H1 g1 dv1 h1 => ⟨ρ, S1, _, sr.go g1, so.go g1, h1, fun i S2 v2 H2 g2 dv2 h2 => ?_⟩⟩
  exact ⟨x, i, d, S2, _, DV.go g2 _ _ dv1, dv2, DV.go (g1.trans g2) _ _ dv, g2.ok, h2, fun S3 H3 g3 h3 => k ρ S3 σ H3 (g1.trans (g2.trans g3)) (sr.go (g1.trans (g2.trans g3))) h3⟩
def rAsg (te : RE) (g : RG) : RS := fun E ρ S => te ρ S fun d S1 => g d ρ S1 E.nx
theorem asg_of {te : RE} {g : RG} {D : Ends} {σ : L2.St} {H : Hp} (h : lS X.K y (rAsg te g) D σ H) : tAsg (lE X.K y te) (lG X.K y g) D σ H := by
  obtain ⟨ρ, S, E, sr, so, h, eo⟩ := h
  exact ⟨ρ, S, _, sr, so, h, fun d S1 v H1 g1 dv h1 => ⟨d, ρ, S1, _, dv, sr.go g1, so.go g1, h1, fun ρ2 S2 σ2 H2 g2 sr2 h2 => eo.nx ρ2 S2 σ2 H2 (g1.trans g2) sr2 h2⟩⟩
theorem pd_asg {tg : Expr} {g : RG} (he : PD X y e te) (hg : PDG X y tg g) (hs : swapsWithSole [tg] e pos.line X.env = pure false := by rfl) (hw : swappedStores [tg] e X.env = pure none := by rfl)
    (h1 : (assignEach [tg] X.env).map (·.2) = [assign tg X.env] := by rfl) : PDS X y (.Assign [tg] e pos) (rAsg te g) := PDS.of (ps_asg he hg hs hw h1) fun D σ H h => asg_of h
theorem pd_set (i : Nat) {x : Str} {pos' : Pos} (hN : X.N.Nodup) (he : PD X y e te) (hi : X.N[i]? = some x := by rfl) (hx : Loc X.env.scope x := by first | exact Or.inl rfl | exact Or.inr rfl) (hs : swapsWith e (some (.Name x pos')) pos.line X.env = pure false := by rfl) (hf : X.fn x = true ∨ X.env.scope.names.lookup x = some .local := by first | exact .inl rfl | exact .inr rfl) :
    PDS X y (.Assign [.Name x pos'] e pos) (rAsg te (gN i)) := PDS.of (ps_set hN hi hx he hs hf) fun D σ H h => by
  obtain ⟨ρ, S, E, sr, so, h, eo⟩ := h
  exact ⟨ρ, S, _, sr, so, h, fun d S1 v H1 g1 dv h1 => eo.nx _ S1 _ H1 g1 ((sr.go g1).set dv i) h1⟩
/-- a, b = x, y with plain local names -/
def rPar (i j : Nat) (ta : RA) : RS := fun E ρ S => ta ρ S fun ds S1 => match ds with
  | [d, e] => E.nx ((ρ.set i (some d)).set j (some e)) S1
  | _ => False
theorem pd_par (i j : Nat) {x z : Str} {a b : Expr} {ta : RA} {px py pt : Pos} {kt k2 pt2} (hc : X.calm = true) (hN : X.N.Nodup) (ha : PDA X y [a, b] ta)
    (hw : swappedStores [.Tuple [.Name x px, .Name z py] kt pt] (.Tuple [a, b] k2 pt2) X.env = pure (some [x, z]))
    (hi : X.N[i]? = some x := by rfl) (hj : X.N[j]? = some z := by rfl) (hij : i ≠ j := by decide)
    (hx : X.env.scope.names.lookup x = some .local := by rfl) (hy : X.env.scope.names.lookup z = some .local := by rfl)
    (hs : swapsWithSole [.Tuple [.Name x px, .Name z py] kt pt] (.Tuple [a, b] k2 pt2) pos.line X.env = pure false := by rfl) :
    PDS X y (.Assign [.Tuple [.Name x px, .Name z py] kt pt] (.Tuple [a, b] k2 pt2) pos) (rPar i j ta) := PDS.of (ps_par hc hN hi hj hij hx hy ha hw hs) fun D σ H h => by
  obtain ⟨ρ, S, E, sr, so, h, eo⟩ := h
  refine ⟨ρ, S, _, sr, so, h, fun ds S1 vs H1 g1 dvs hn h1 => ?_⟩
  match ds, dvs, h1 with
  | [d, e], dvs, h1 =>
    obtain ⟨v, ws, rfl, dv1, v2, ws2, rfl, dv2, q⟩ := dvs
    cases (show ws2 = [] from q)
    exact ⟨v, v2, rfl, eo.nx _ S1 _ H1 g1 (((sr.go g1).set dv1 i).set dv2 j) h1⟩
  | [], _, h1 => exact h1.elim
  | [_], _, h1 => exact h1.elim
  | _ :: _ :: _ :: _, _, h1 => exact h1.elim

/-! ### while, for -/
def rWhile (c : RT) (tb : RS) : RS := fun E ρ S => ∃ W : Nat → Ro → Sto → Prop, (∃ m, W m ρ S) ∧ ∀ m ρ S, W m ρ S →
  c ρ S fun b S1 => IFB b (tb { E with nx := fun ρ' S' => ∃ m', m' < m ∧ W m' ρ' S', ct := fun ρ' S' => ∃ m', m' < m ∧ W m' ρ' S', bk := E.nx } ρ S1) (E.nx ρ S1)
theorem pd_while {c : Expr} {body : List Stmt} {tc : RT} {tb : RS} (hp : PassesOwn (model X.prog X.w) X.A X.env X.xe) (hc : PDT X y c tc) (hb : PDSs X y body tb) : PDS X y (.While c body [] pos) (rWhile tc tb) := PDS.of (ps_while hp hc hb) fun D σ H h => by
  obtain ⟨ρ, S, E, sr, so, ⟨W, ⟨m, hW⟩, hs⟩, eo⟩ := h
  refine ⟨fun m σ1 H1 => ∃ ρ1 S1, Go X.K H S H1 S1 ∧ SRv X.K σ1 H1 ρ1 ∧ W m ρ1 S1, ⟨m, ρ, S, Go.refl so.so, sr, hW⟩, ?_⟩
  rintro m σ1 H1 ⟨ρ1, S1, g1, sr1, w1⟩
  refine ⟨ρ1, S1, _, sr1, so.go g1, hs m ρ1 S1 w1, fun b S2 H2 g2 q => ?_⟩
  refine ite_of_IFB q (fun z => ⟨fun σ3 H3 => ∃ m', m' < m ∧ ∃ ρ3 S3, Go X.K H S H3 S3 ∧ SRv X.K σ3 H3 ρ3 ∧ W m' ρ3 S3, fun σ3 H3 h => h, ρ1, S2, _, sr1.go g2, so.go (g1.trans g2), z, ?_⟩) fun z => eo.nx ρ1 S2 σ1 H2 (g1.trans g2) (sr1.go g2) z
  have eo2 := eo.go (g1.trans g2)
  refine ⟨fun ρ3 S3 σ3 H3 g3 sr3 ⟨m', hm, w⟩ => ⟨m', hm, ρ3, S3, (g1.trans g2).trans g3, sr3, w⟩, eo2.rt, eo2.nx, fun ρ3 S3 σ3 H3 g3 sr3 ⟨m', hm, w⟩ => ⟨m', hm, ρ3, S3, (g1.trans g2).trans g3, sr3, w⟩⟩
/-- what is walked: its items; while src stands it goes on so -/
abbrev RI := Ro → Sto → (List D → (Sto → Prop) → Sto → Prop) → Prop
def JOk (K : PySem.W.Frag) (H1 : Hp) (S1 : Sto) (J : It) (xs : List D) (src : Sto → Prop) : Prop :=
  ∀ i H S, Go K H1 S1 H S → src S → (∀ x, xs[i]? = some x → J.go i H ∧ ∀ v H', J.yld i H v H' → Go K H S H' S ∧ DV K H' x v) ∧ (xs[i]? = none → J.stop i H)
def lI (K : PySem.W.Frag) (y : DXw) (wi : RI) : TI := fun σ H R => ∃ ρ S Rd, SRv K σ H ρ ∧ SX K y H S ∧ wi ρ S Rd ∧ ∀ xs src S1 J H1, Go K H S H1 S1 → JOk K H1 S1 J xs src → Rd xs src S1 → R J H1
def PDI (X : Cx) (y : DXw) (tg iter : Expr) (wi : RI) : Prop := PI X tg iter (lI X.K y wi)
theorem PDI.of {tg iter : Expr} {t0 : TI} {t : RI} (h : PI X tg iter t0) (w : ∀ σ H R, lI X.K y t σ H R → t0 σ H R) : PDI X y tg iter t := ⟨fun pins s σ H R I q => h.run pins s σ H R I (w σ H R q)⟩
/-- the turns: W says what holds ahead of turn i -/
def rFor (wi : RI) (g : RG) (tb : RS) : RS := fun E ρ S => wi ρ S fun xs src S1 => ∃ W : Nat → Ro → Sto → Prop, W 0 ρ S1 ∧ ∀ i ρ' S', W i ρ' S' → src S' ∧
  (∀ x, xs[i]? = some x → g x ρ' S' fun ρ2 S2 => tb { E with nx := W (i + 1), ct := W (i + 1), bk := E.nx } ρ2 S2) ∧ (i = xs.length → E.nx ρ' S')
theorem pd_for {tg iter : Expr} {body : List Stmt} {wi : RI} {g : RG} {tb : RS} (hp : PassesOwn (model X.prog X.w) X.A X.env X.xe) (hc : X.calm = true) (hi : PDI X y tg iter wi) (hg : PDG X y tg g) (hb : PDSs X y body tb) (hs : ∀ x, foldedSetIterable iter X.env x = pure x := by intro _; rfl) : PDS X y (.For tg iter body [] pos) (rFor wi g tb) :=
  PDS.of (ps_for hp hc hi hg hb hs) fun D σ H h => by
  obtain ⟨ρ, S, E, sr, so, h, eo⟩ := h
  refine ⟨ρ, S, _, sr, so, h, fun xs src S1 J H1 g1 jo ⟨W, w0, hs⟩ => ?_⟩
  refine ⟨fun i m σ2 H2 => ∃ ρ2 S2, m = xs.length - i ∧ i ≤ xs.length ∧ Go X.K H1 S1 H2 S2 ∧ SRv X.K σ2 H2 ρ2 ∧ W i ρ2 S2, ⟨_, ρ, S1, rfl, Nat.zero_le _, Go.refl g1.ok, sr.go g1, w0⟩, ?_⟩
  rintro i m σ2 H2 ⟨ρ2, S2, rfl, hi, g2, sr2, w2⟩
  obtain ⟨hsrc, hturn, hend⟩ := hs i ρ2 S2 w2
  obtain ⟨j1, j2⟩ := jo i H2 S2 g2 hsrc
  by_cases hlt : i < xs.length
  · have hx : xs[i]? = some xs[i] := List.getElem?_eq_getElem hlt
    obtain ⟨jg, jy⟩ := j1 _ hx
    refine .inr ⟨jg, fun σ3 H3 => ∃ ρ3 S3, Go X.K H1 S1 H3 S3 ∧ SRv X.K σ3 H3 ρ3 ∧ W (i + 1) ρ3 S3, fun σ3 H3 ⟨ρ3, S3, g3, sr3, w3⟩ => ⟨xs.length - (i + 1), by omega, ρ3, S3, rfl, hlt, g3, sr3, w3⟩, fun v H3 hy => ?_⟩
    obtain ⟨g3, dv⟩ := jy v H3 hy
    have gA := g1.trans (g2.trans g3)
    refine ⟨xs[i], ρ2, S2, _, dv, sr2.go g3, so.go gA, hturn _ hx, fun ρ4 S4 σ4 H4 g4 sr4 h4 => ?_⟩
    refine ⟨ρ4, S4, _, sr4, so.go (gA.trans g4), h4, ?_⟩
    have eo2 := eo.go (gA.trans g4)
    have gB := (g2.trans g3).trans g4
    exact ⟨fun ρ5 S5 σ5 H5 g5 sr5 h5 => ⟨ρ5, S5, gB.trans g5, sr5, h5⟩, eo2.rt, eo2.nx, fun ρ5 S5 σ5 H5 g5 sr5 h5 => ⟨ρ5, S5, gB.trans g5, sr5, h5⟩⟩
  · have e : i = xs.length := by omega
    subst e
    exact .inl ⟨j2 (by simp), eo.nx ρ2 S2 σ2 H2 (g1.trans g2) sr2 (hend rfl)⟩

/-! ### what a for or a comprehension walks -/
/-- a list in the store, a list that never changes, a tuple -/
def rIt (t : RE) : RI := fun ρ S R => t ρ S fun d S1 => match d with
  | .tup xs => R xs (fun _ => True) S1
  | _ => ∃ xs, RdL S1 d xs ∧ R xs (fun S' => RdL S' d xs) S1
theorem jok_list {K : PySem.W.Frag} {H1 : Hp} {S1 : Sto} {d : D} {v : V} {a : Addr} {xs : List D} (dv : DV K H1 d v) (e : v = .ref a) : JOk K H1 S1 (Itl K a) xs (fun S' => RdL S' d xs) := by
  intro i H S g hr
  obtain ⟨a', vs, e1, q, r⟩ := RdL.sq g.ok hr (DV.go g _ _ dv)
  rw [e] at e1
  cases e1
  refine ⟨fun x hx => ?_, fun hn => ⟨vs, q, ?_⟩⟩
  · obtain ⟨w, hw, rw'⟩ := r.get hx
    exact ⟨⟨vs, w, q, hw⟩, fun v' H' hy => by
      obtain ⟨rfl, hy⟩ := hy
      have := hy vs q
      rw [hw] at this
      cases this
      exact ⟨Go.refl g.ok, rw'⟩⟩
  · rw [← r.length]
    exact List.getElem?_eq_none_iff.mp hn
theorem jok_tup {K : PySem.W.Frag} {H1 : Hp} {S1 : Sto} {a : Addr} {xs : List D} {vs : List V} (q : StT K H1 a vs) (r : DVs K H1 xs vs) : JOk K H1 S1 (Itt K a) xs (fun _ => True) := by
  intro i H S g _
  have q := g.tup q
  have r := DVs.go g _ _ r
  refine ⟨fun x hx => ?_, fun hn => ⟨vs, q.sq, ?_⟩⟩
  · obtain ⟨w, hw, rw'⟩ := r.get hx
    exact ⟨⟨vs, w, q.sq, hw⟩, fun v' H' hy => by
      obtain ⟨rfl, hy⟩ := hy
      have := hy vs q.sq
      rw [hw] at this
      cases this
      exact ⟨Go.refl g.ok, rw'⟩⟩
  · rw [← r.length]
    exact List.getElem?_eq_none_iff.mp hn
end
end DL
set_option Elab.async false
set_option linter.all false
set_option maxRecDepth 100000
set_option maxHeartbeats 4000000
namespace DL
open PySem PySem.Spec PyProof.Rows L2
section
variable {X : Cx} {y : DXw} {pos : Pos} {e : Expr} {es : List Expr}

/-! ### walks -/
theorem it_list {pins : List (Addr × Obj)} {σ : L2.St} {H : Hp} {s : Shared} {tg : Expr} {R : It → Hp → Prop} {E : Value → Shared → Prop} {a : Addr} {vs : List V} (I : Inv X pins σ H s) (hq : SqL X.K H a vs) (q : R (Itl X.K a) H) :
    wpAny (model X.prog X.w) X.A (pyIter (.ref a)) (PIE X pins σ tg R) E s := by
  obtain ⟨its, rv, p, hz⟩ := I.list hq
  refine wpAny_pyIter_list p.isList ?_
  refine ⟨s.heap.objs.size, [s.heap.objs.size], _, _, H, rfl, I.kept (t' := s.toks) fun b o e => Heap.get?_push_of_some _ e, turn_list a _, ⟨_, Heap.get?_push_size _ rfl, rfl, rfl⟩, fun b hb => ?_, q⟩
  have e : b = s.heap.objs.size := by simpa using hb
  subst e
  exact I.fpOk (Nat.le_refl _) (I.hok.fresh (Nat.le_refl _))
theorem it_tup {pins : List (Addr × Obj)} {σ : L2.St} {H : Hp} {s : Shared} {tg : Expr} {R : It → Hp → Prop} {E : Value → Shared → Prop} {a : Addr} {vs : List V} (I : Inv X pins σ H s) (hq : SqT X.K H a vs) (q : R (Itt X.K a) H) :
    wpAny (model X.prog X.w) X.A (pyIter (.ref a)) (PIE X pins σ tg R) E s := by
  obtain ⟨its, rv, p, hz⟩ := I.tuple hq
  refine wpAny_pyIter_tuple (show s.heap.IsTuple a its.toArray from p) ?_
  refine ⟨s.heap.objs.size, [s.heap.objs.size], _, _, H, rfl, I.kept (t' := s.toks) fun b o e => Heap.get?_push_of_some _ e, turn_tuple a _, ⟨_, Heap.get?_push_size _ rfl, rfl, rfl⟩, fun b hb => ?_, q⟩
  have e : b = s.heap.objs.size := by simpa using hb
  subst e
  exact I.fpOk (Nat.le_refl _) (I.hok.fresh (Nat.le_refl _))
theorem pdi_it {tg l : Expr} {t : RE} (hl : PD X y l t) : PDI X y tg l (rIt t) := by
  refine ⟨fun pins s σ H R I h => ?_⟩
  obtain ⟨ρ, S, Rd, sr, so, h, k⟩ := h
  refine thn (hl.run pins s σ H (fun v H1 => ∃ d S1, Go X.K H S H1 S1 ∧ DV X.K H1 d v ∧ (match d with
    | .tup xs => Rd xs (fun _ => True) S1
    | _ => ∃ xs, RdL S1 d xs ∧ Rd xs (fun S' => RdL S' d xs) S1)) I ⟨ρ, S, _, sr, so, h, fun d S1 v H1 g dv q => ⟨d, S1, g, dv, q⟩⟩) fun u s1 ⟨v, H1, I1, r1, d, S1, g, dv, q⟩ => ?_
  have lst : ∀ xs, RdL S1 d xs → Rd xs (fun S' => RdL S' d xs) S1 → wpAny (model X.prog X.w) X.A (pyIter u) (PIE X pins σ tg R) X.xe s1 := fun xs hx q => by
    obtain ⟨a, vs, rfl, hq, r⟩ := RdL.sq g.ok hx dv
    cases (show u = Value.ref a from r1)
    exact it_list I1 hq (k _ _ _ _ _ g (jok_list dv rfl) q)
  cases d with
  | tup xs =>
    obtain ⟨a, vs, rfl, hq, r⟩ := dv
    cases (show u = Value.ref a from r1)
    exact it_tup I1 hq.sq (k _ _ _ _ _ g (jok_tup hq r) q)
  | _ => obtain ⟨xs, h1, h2⟩ := q; exact lst xs h1 h2
/-- range -/
def rgI (lo : Int) (n : Nat) : List D := (List.range n).map fun (i : Nat) => D.int (lo + (i : Int))
theorem rgI_len {lo : Int} {n : Nat} : (rgI lo n).length = n := by unfold rgI; simp
theorem rgI_get {lo : Int} {n i : Nat} (h : i < n) : (rgI lo n)[i]? = some (D.int (lo + (i : Int))) := by unfold rgI; simp [h]
theorem rgI_inv {lo : Int} {n i : Nat} {x : D} (h : (rgI lo n)[i]? = some x) : i < n ∧ x = D.int (lo + (i : Int)) := by
  have hl := (List.getElem?_eq_some_iff.mp h).1
  rw [rgI_len] at hl
  rw [rgI_get hl] at h
  exact ⟨hl, (Option.some.inj h).symm⟩
theorem jok_range {K : PySem.W.Frag} {H1 : Hp} {S1 : Sto} {lo : Int} {n : Nat} : JOk K H1 S1 (Itr lo n) (rgI lo n) (fun _ => True) := by
  intro i H S g _
  refine ⟨fun x hx => ?_, fun hn => ?_⟩
  · obtain ⟨hl, rfl⟩ := rgI_inv hx
    exact ⟨hl, fun v H' ⟨e1, e2⟩ => by subst e1 e2; exact ⟨Go.refl g.ok, rfl⟩⟩
  · have := List.getElem?_eq_none_iff.mp hn
    rw [rgI_len] at this
    exact this
def rRng1 (ta : RA) : RI := fun ρ S R => ta ρ S fun ds S1 => match ds with
  | [.int j] => (j < 2 ^ 62 ∧ -(2 ^ 62) ≤ j) ∧ R (rgI 0 j.toNat) (fun _ => True) S1
  | _ => False
def rRng2 (ta : RA) : RI := fun ρ S R => ta ρ S fun ds S1 => match ds with
  | [.int i, .int j] => (-(2 ^ 62) ≤ i ∧ i < 2 ^ 62 ∧ -(2 ^ 62) ≤ j ∧ j < 2 ^ 62) ∧ R (rgI i (j - i).toNat) (fun _ => True) S1
  | _ => False
theorem pdi_range1 {tg a : Expr} {ta : RA} {p : Pos} (hm : X.mg "range" = none) (ha : PDA X y [a] ta) (hg : Gl X "range" := by rfl) (hs : starEach [a] X.env = [(false, eval a X.env)] := by rfl) : PDI X y tg (.Call (.Name "range" p) [a] [] pos) (rRng1 ta) := by
  refine PDI.of (pi_range1 hg hm ha hs) fun σ H R h => ?_
  obtain ⟨ρ, S, Rd, sr, so, h, k⟩ := h
  refine ⟨ρ, S, _, sr, so, h, fun ds S1 vs H1 g dvs hn h1 => ?_⟩
  split at h1
  · rename_i j
    obtain ⟨v, ws, rfl, dv, q⟩ := dvs
    cases (show ws = [] from q)
    cases (show v = V.int j from dv)
    exact ⟨j, rfl, h1.1.2, h1.1.1, k _ _ _ _ _ g jok_range h1.2⟩
  · exact h1.elim
theorem pdi_range2 {tg a b : Expr} {ta : RA} {p : Pos} (hm : X.mg "range" = none) (ha : PDA X y [a, b] ta) (hg : Gl X "range" := by rfl) (hs : starEach [a, b] X.env = [(false, eval a X.env), (false, eval b X.env)] := by rfl) (hs2 : starEach [b] X.env = [(false, eval b X.env)] := by rfl) : PDI X y tg (.Call (.Name "range" p) [a, b] [] pos) (rRng2 ta) := by
  refine PDI.of (pi_range2 hg hm ha hs hs2) fun σ H R h => ?_
  obtain ⟨ρ, S, Rd, sr, so, h, k⟩ := h
  refine ⟨ρ, S, _, sr, so, h, fun ds S1 vs H1 g dvs hn h1 => ?_⟩
  split at h1
  · rename_i i j
    obtain ⟨v, ws, rfl, dv, v2, ws2, rfl, dv2, q⟩ := dvs
    cases (show ws2 = [] from q)
    cases (show v = V.int i from dv)
    cases (show v2 = V.int j from dv2)
    exact ⟨i, j, rfl, h1.1, k _ _ _ _ _ g jok_range h1.2⟩
  · exact h1.elim

/-! ### comprehensions -/
def dwipe (ρ : Ro) : List Nat → Ro
  | [] => ρ
  | v :: vs => (dwipe ρ vs).set v none
theorem dwipe_length (ρ : Ro) : ∀ vs : List Nat, (dwipe ρ vs).length = ρ.length
  | [] => rfl
  | v :: vs => by unfold dwipe; rw [List.length_set, dwipe_length ρ vs]
theorem dwipe_some {ρ : Ro} {i : Nat} {x : D} : ∀ {vs : List Nat}, (dwipe ρ vs)[i]? = some (some x) → ρ[i]? = some (some x) ∧ i ∉ vs
  | [], h => ⟨h, by simp⟩
  | v :: vs, h => by
    unfold dwipe at h
    by_cases hi : v = i
    · subst hi
      by_cases hv : v < (dwipe ρ vs).length
      · rw [List.getElem?_set_self hv] at h; cases h
      · rw [List.getElem?_eq_none (by simpa using hv)] at h; cases h
    · rw [List.getElem?_set_ne hi] at h
      obtain ⟨h1, h2⟩ := dwipe_some h
      exact ⟨h1, by simp only [List.mem_cons, not_or]; exact ⟨fun e => hi e.symm, h2⟩⟩
theorem wipe_out' {σ : L2.St} {i : Nat} : ∀ {vs : List Nat}, i ∉ vs → (wipe σ vs)[i]? = σ[i]?
  | [], _ => rfl
  | v :: vs, h => by
    simp only [List.mem_cons, not_or] at h
    unfold wipe
    rw [List.getElem?_set_ne (Ne.symm h.1)]
    exact wipe_out' h.2
theorem SRv.wipe {K : PySem.W.Frag} {σ : L2.St} {H : Hp} {ρ : Ro} (r : SRv K σ H ρ) (vs : List Nat) : SRv K (L2.wipe σ vs) H (dwipe ρ vs) :=
  ⟨by rw [dwipe_length, wipe_length]; exact r.1, fun i d e => by
    obtain ⟨e1, hn⟩ := dwipe_some e
    obtain ⟨v, e2, q⟩ := r.2 i d e1
    exact ⟨v, by rw [wipe_out' hn]; exact e2, q⟩⟩
theorem wipe_set {σ : L2.St} {i : Nat} {o : Option V} : ∀ {vs : List Nat}, i ∈ vs → L2.wipe (σ.set i o) vs = L2.wipe σ vs
  | v :: vs, h => by
    have gen : ∀ (vs : List Nat), L2.wipe (σ.set i o) vs = (if i ∈ vs then L2.wipe σ vs else (L2.wipe σ vs).set i o) := by
      intro vs
      induction vs with
      | nil => simp [L2.wipe]
      | cons w ws ih =>
        unfold L2.wipe
        rw [ih]
        by_cases hw : i ∈ ws
        · rw [if_pos hw, if_pos (List.mem_cons_of_mem _ hw)]
        · rw [if_neg hw]
          by_cases hi : i = w
          · subst hi
            rw [if_pos (by simp), List.set_set]
          · rw [if_neg (by simp [hi, hw]), List.set_comm _ _ hi]
    rw [gen, if_pos h]
/-- a comprehension's targets: names, tuples of names -/
inductive Pat where
  | n (i : Nat)
  | t (ps : List Pat)
mutual
def Pat.g (K : PySem.W.Frag) : Pat → TG
  | .n i => gName i
  | .t ps => gTup K ps.length (Pat.gs K ps)
def Pat.gs (K : PySem.W.Frag) : List Pat → TGs
  | [] => gNil
  | p :: ps => gCons (Pat.g K p) (Pat.gs K ps)
end
mutual
def Pat.put : Pat → D → Ro → (Ro → Prop) → Prop
  | .n i, d, ρ, k => k (ρ.set i (some d))
  | .t ps, d, ρ, k => match d with
    | .tup xs => Pat.puts ps xs ρ k
    | _ => False
def Pat.puts : List Pat → List D → Ro → (Ro → Prop) → Prop
  | [], ds, ρ, k => match ds with
    | [] => k ρ
    | _ => False
  | p :: ps, ds, ρ, k => match ds with
    | d :: ds => Pat.put p d ρ fun ρ' => Pat.puts ps ds ρ' k
    | [] => False
end
mutual
def Pat.all (vs : List Nat) : Pat → Bool
  | .n i => vs.contains i
  | .t ps => Pat.alls vs ps
def Pat.alls (vs : List Nat) : List Pat → Bool
  | [] => true
  | p :: ps => Pat.all vs p && Pat.alls vs ps
end
theorem puts_len : ∀ {ps : List Pat} {ds : List D} {ρ : Ro} {k : Ro → Prop}, Pat.puts ps ds ρ k → ps.length = ds.length ∨ True := fun _ => .inr trivial
mutual
theorem Pat.ok {K : PySem.W.Frag} {vs : List Nat} {H : Hp} {Q : L2.St → Hp → Prop} : ∀ (p : Pat) (d : D) (v : V) (σ : L2.St) (ρ : Ro) (k : Ro → Prop), Pat.all vs p = true → DV K H d v → SRv K σ H ρ → Pat.put p d ρ k →
    (∀ ρ' σ', SRv K σ' H ρ' → L2.wipe σ' vs = L2.wipe σ vs → k ρ' → Q σ' H) → Pat.g K p v σ H Q
  | .n i, d, v, σ, ρ, k, ha, dv, sr, h, hk => by
    refine hk _ _ (sr.set dv i) (wipe_set (by simpa [Pat.all] using ha)) h
  | .t ps, d, v, σ, ρ, k, ha, dv, sr, h, hk => by
    cases d with
    | tup xs =>
      obtain ⟨a, ws, rfl, q, r⟩ := dv
      obtain ⟨hl, hh⟩ := Pat.oks ps xs ws σ ρ k (by simpa [Pat.all] using ha) r sr h hk
      exact ⟨a, ws, rfl, q.sq, hl.symm, hh⟩
    | _ => exact False.elim h
theorem Pat.oks {K : PySem.W.Frag} {vs : List Nat} {H : Hp} {Q : L2.St → Hp → Prop} : ∀ (ps : List Pat) (ds : List D) (us : List V) (σ : L2.St) (ρ : Ro) (k : Ro → Prop), Pat.alls vs ps = true → DVs K H ds us → SRv K σ H ρ → Pat.puts ps ds ρ k →
    (∀ ρ' σ', SRv K σ' H ρ' → L2.wipe σ' vs = L2.wipe σ vs → k ρ' → Q σ' H) → ps.length = us.length ∧ Pat.gs K ps us σ H Q
  | [], ds, us, σ, ρ, k, ha, dv, sr, h, hk => by
    cases ds with
    | nil =>
      cases (show us = [] from dv)
      exact ⟨rfl, rfl, hk ρ σ sr rfl h⟩
    | cons _ _ => exact False.elim h
  | p :: ps, ds, us, σ, ρ, k, ha, dv, sr, h, hk => by
    cases ds with
    | nil => exact False.elim h
    | cons d ds =>
      obtain ⟨v, ws, rfl, dv1, dv2⟩ := dv
      have ha2 : Pat.all vs p = true ∧ Pat.alls vs ps = true := by simpa [Pat.alls] using ha
      -- the length is told by any run of the rest
      have key := Pat.ok (K := K) (vs := vs) (H := H) (Q := fun σ' H' => H' = H ∧ ps.length = ws.length ∧ Pat.gs K ps ws σ' H Q) p d v σ ρ (fun ρ' => Pat.puts ps ds ρ' k) ha2.1 dv1 sr h (fun ρ' σ' sr' hw h' => by
        obtain ⟨hl, hg⟩ := Pat.oks ps ds ws σ' ρ' k ha2.2 dv2 sr' h' (fun ρ'' σ'' sr'' hw' h'' => hk ρ'' σ'' sr'' (hw'.trans hw) h'')
        exact ⟨rfl, hl, hg⟩)
      have len : ps.length = ws.length := by
        have dl := dv2.length
        rw [← dl]
        -- from the D-level readings
        exact Pat.lens ps ds p d ρ k h
      refine ⟨by simp [len], v, ws, rfl, ?_⟩
      exact Pat.mono p v σ H _ _ (fun σ' H' q => by obtain ⟨e, _, q⟩ := q; rw [e]; exact q) key
theorem Pat.lens : ∀ (ps : List Pat) (ds : List D) (p : Pat) (d : D) (ρ : Ro) (k : Ro → Prop), Pat.put p d ρ (fun ρ' => Pat.puts ps ds ρ' k) → ps.length = ds.length := by
  intro ps ds p d ρ k h
  have h2 : ∃ ρ', Pat.puts ps ds ρ' k := Pat.exi p d ρ _ h
  obtain ⟨ρ', h2⟩ := h2
  exact Pat.len2 ps ds ρ' k h2
theorem Pat.exi : ∀ (p : Pat) (d : D) (ρ : Ro) (k : Ro → Prop), Pat.put p d ρ k → ∃ ρ', k ρ'
  | .n i, d, ρ, k, h => ⟨_, h⟩
  | .t ps, d, ρ, k, h => by
    cases d with
    | tup xs => exact Pat.exis ps xs ρ k h
    | _ => exact False.elim h
theorem Pat.exis : ∀ (ps : List Pat) (ds : List D) (ρ : Ro) (k : Ro → Prop), Pat.puts ps ds ρ k → ∃ ρ', k ρ'
  | [], ds, ρ, k, h => by
    cases ds with
    | nil => exact ⟨_, h⟩
    | cons _ _ => exact False.elim h
  | p :: ps, ds, ρ, k, h => by
    cases ds with
    | nil => exact False.elim h
    | cons d ds =>
      obtain ⟨ρ', h'⟩ := Pat.exi p d ρ _ h
      exact Pat.exis ps ds ρ' k h'
theorem Pat.len2 : ∀ (ps : List Pat) (ds : List D) (ρ : Ro) (k : Ro → Prop), Pat.puts ps ds ρ k → ps.length = ds.length
  | [], ds, ρ, k, h => by
    cases ds with
    | nil => rfl
    | cons _ _ => exact False.elim h
  | p :: ps, ds, ρ, k, h => by
    cases ds with
    | nil => exact False.elim h
    | cons d ds =>
      obtain ⟨ρ', h'⟩ := Pat.exi p d ρ _ h
      simp [Pat.len2 ps ds ρ' k h']
theorem Pat.mono {K : PySem.W.Frag} : ∀ (p : Pat) (v : V) (σ : L2.St) (H : Hp) (Q Q' : L2.St → Hp → Prop), (∀ σ' H', Q σ' H' → Q' σ' H') → Pat.g K p v σ H Q → Pat.g K p v σ H Q'
  | .n i, v, σ, H, Q, Q', m, h => m _ _ h
  | .t ps, v, σ, H, Q, Q', m, h => by
    obtain ⟨a, xs, e, q, l, h⟩ := h
    exact ⟨a, xs, e, q, l, Pat.monos ps xs σ H Q Q' m h⟩
theorem Pat.monos {K : PySem.W.Frag} : ∀ (ps : List Pat) (vs : List V) (σ : L2.St) (H : Hp) (Q Q' : L2.St → Hp → Prop), (∀ σ' H', Q σ' H' → Q' σ' H') → Pat.gs K ps vs σ H Q → Pat.gs K ps vs σ H Q'
  | [], vs, σ, H, Q, Q', m, h => ⟨h.1, m _ _ h.2⟩
  | p :: ps, vs, σ, H, Q, Q', m, h => by
    obtain ⟨v, r, e, h⟩ := h
    exact ⟨v, r, e, Pat.mono p v σ H _ _ (fun σ' H' q => Pat.monos ps r σ' H' Q Q' m q) h⟩
end

def PDTs (X : Cx) (y : DXw) (ifs : List Expr) (t : RT) : Prop := PTs X ifs (lT X.K y t)
def rYes : RT := fun _ S Q => Q true S
theorem pdts_nil : PDTs X y [] rYes := ⟨fun pins s σ H Q I h => by
  obtain ⟨ρ, S, R, sr, so, h, k⟩ := h
  exact pts_nil.run pins s σ H Q I (k true S H (Go.refl so.so) h)⟩
theorem pdts_one {c : Expr} {t : RT} (h : PDT X y c t) : PDTs X y [c] t := pts_one h
/-- no exception is wanted -/
def y0 : DXw := ⟨fun _ _ _ _ => False, fun _ _ _ _ => False⟩
theorem sx0 {K : PySem.W.Frag} {H : Hp} {S : Sto} (h : SOk K H S) : SX K y0 H S := ⟨h, fun _ _ _ _ _ _ _ _ _ _ _ _ z => z⟩
def rLc (wi : RI) (p : Pat) (tt : RT) (te : RE) (vs : List Nat) : RE := fun ρ S Q => wi ρ S fun xs src S1 => ∃ W : Nat → List D → Sto → Prop, W 0 [] S1 ∧ ∀ i acc S', W i acc S' → src S' ∧
  (∀ x, xs[i]? = some x → Pat.put p x (dwipe ρ vs) fun ρ2 => tt ρ2 S' fun b S3 => IFB b (te ρ2 S3 fun d S4 => acc.length < sizeLine ∧ W (i + 1) (acc ++ [d]) S4) (W (i + 1) acc S3)) ∧
  (i = xs.length → ∀ p, S' p = none → Q (.ref p) (sup S' p (.lst acc)))
theorem lc_of {wi : RI} {p : Pat} {tt : RT} {te : RE} {vs : List Nat} {σ : L2.St} {H : Hp} {Q : VK} (ha : Pat.all vs p = true) (h : lE X.K y (rLc wi p tt te vs) σ H Q) : tLc (lI X.K y wi) (Pat.g X.K p) (lT X.K y0 tt) (lE X.K y0 te) vs σ H Q := by
  obtain ⟨ρ, S, R, sr, so, h, k⟩ := h
  refine ⟨ρ, S, _, sr, so, h, fun xs src S1 J H1 g1 jo ⟨W, w0, hs⟩ D hD => ?_⟩
  -- the new list lies beside the store
  have base : ∀ {H2 : Hp} {S2 : Sto} {ws : List V}, Go X.K H1 S1 H2 S2 → H2 D = some (.lst ws) → S2 D = none → True := fun _ _ _ => trivial
  have gD := Go.new (K := X.K) (o := .lst []) g1.ok hD
  have swap : ∀ {H2 : Hp} {S2 : Sto} {ws ws' : List V}, SOk X.K H2 S2 → S2 D = none → H2 D = some (.lst ws) → SOk X.K (upd H2 D (.lst ws')) S2 := fun {H2 S2 ws ws'} so2 e e2 a c q => by
    have ne : a ≠ D := fun z => by rw [z, e] at q; cases q
    have := so2 a c q
    cases c with
    | lst xs => obtain ⟨us, e1, r⟩ := this; exact ⟨us, by rw [upd_ne ne]; exact e1, DVs.wr e2 (.inl ⟨_, rfl⟩) _ _ r⟩
    | dK kvs => obtain ⟨us, e1, r⟩ := this; exact ⟨us, by rw [upd_ne ne]; exact e1, DKs.wr e2 (.inl ⟨_, rfl⟩) r⟩
  -- what stands beside the store, but the new list, from H1 on
  refine ⟨fun i m H2 => ∃ S2 acc ws, m = xs.length - i ∧ i ≤ xs.length ∧ Go X.K H1 S1 H2 S2 ∧ H2 D = some (.lst ws) ∧ S2 D = none ∧ DVs X.K H2 acc ws ∧ W i acc S2, ⟨_, S1, [], [], rfl, Nat.zero_le _, gD, upd_same, g1.ok.free hD, DVs.nil, w0⟩, ?_⟩
  rintro i m H2 ⟨S2, acc, ws, rfl, hi, g2, hD2, sD2, r2, w2⟩
  obtain ⟨hsrc, hturn, hend⟩ := hs i acc S2 w2
  obtain ⟨j1, j2⟩ := jo i H2 S2 g2 hsrc
  by_cases hlt : i < xs.length
  · have hx : xs[i]? = some xs[i] := List.getElem?_eq_getElem hlt
    obtain ⟨jg, jy⟩ := j1 _ hx
    refine .inr ⟨jg, fun H3 => ∃ S3 acc3 ws3, Go X.K H1 S1 H3 S3 ∧ H3 D = some (.lst ws3) ∧ S3 D = none ∧ DVs X.K H3 acc3 ws3 ∧ W (i + 1) acc3 S3, fun H3 ⟨S3, acc3, ws3, g3, a1, a2, a3, a4⟩ => ⟨xs.length - (i + 1), by omega, S3, acc3, ws3, rfl, hlt, g3, a1, a2, a3, a4⟩, fun v H3 hy => ?_⟩
    obtain ⟨g3, dv⟩ := jy v H3 hy
    have gA := g2.trans g3
    have hD3 : H3 D = some (.lst ws) := g3.frame D _ sD2 hD2
    refine Pat.ok p _ v _ _ _ ha dv (((sr.go g1).go gA).wipe vs) (hturn _ hx) fun ρ3 σ3 sr3 hw h3 => ⟨by
      have e : ∀ (l : List Nat), L2.wipe (L2.wipe σ l) l = L2.wipe σ l := by
        intro l
        have gen : ∀ (l l' : List Nat), (∀ i ∈ l, i ∈ l') → L2.wipe (L2.wipe σ l') l = L2.wipe σ l' := by
          intro l
          induction l with
          | nil => intro l' _; rfl
          | cons a l ih =>
            intro l' hl
            show (L2.wipe (L2.wipe σ l') l).set a none = L2.wipe σ l'
            rw [ih l' fun i hi => hl i (List.mem_cons_of_mem _ hi)]
            have ha' := hl a List.mem_cons_self
            apply List.ext_getElem?
            intro j
            by_cases hj : a = j
            · subst hj
              by_cases hb : a < (L2.wipe σ l').length
              · rw [List.getElem?_set_self hb]
                cases q : (L2.wipe σ l')[a]? with
                | none => rw [List.getElem?_eq_none_iff] at q; omega
                | some o =>
                  cases o with
                  | none => rfl
                  | some x => exact absurd ha' (wipe_some q).2
              · rw [List.getElem?_eq_none (by simpa using hb), List.getElem?_eq_none (by simpa using hb)]
            · rw [List.getElem?_set_ne hj]
        exact gen l l fun _ h => h
      rw [hw, e], ?_⟩
    refine ⟨ρ3, S2, _, sr3, sx0 gA.ok, h3, fun b S4 H4 g4 h4 => ?_⟩
    have hD4 : H4 D = some (.lst ws) := g4.frame D _ sD2 hD3
    have sD4 : S4 D = none := g4.ex D _ sD2 hD3
    refine ite_of_IFB h4 (fun z => ⟨ρ3, S4, _, sr3.go g4, sx0 g4.ok, z, fun d S5 w H5 g5 dv5 h5 => ?_⟩) fun z => ?_
    · have hD5 : H5 D = some (.lst ws) := g5.frame D _ sD4 hD4
      have sD5 : S5 D = none := g5.ex D _ sD4 hD4
      have gB := (gA.trans g4).trans g5
      have r5 : DVs X.K H5 acc ws := DVs.go ((g3.trans g4).trans g5) _ _ r2
      refine ⟨ws, hD5, by rw [← r5.length]; exact h5.1, S5, acc ++ [d], ws ++ [w], ⟨g1.ok, swap gB.ok sD5 hD5, fun a o e q => ?_, gB.ex⟩, upd_same, sD5, DVs.wr hD5 (.inl ⟨_, rfl⟩) _ _ (r5.append (DVs.cons dv5 DVs.nil)), h5.2⟩
      rw [upd_ne (ne_of_none q hD)]
      exact gB.frame a o e q
    · exact ⟨S4, acc, ws, gA.trans g4, hD4, sD4, DVs.go (g3.trans g4) _ _ r2, z⟩
  · have e : i = xs.length := by omega
    subst e
    refine .inl ⟨j2 (by simp), ?_⟩
    have sok : SOk X.K H2 (sup S2 D (.lst acc)) := fun a c q => by
      by_cases ha : a = D
      · subst ha
        rw [sup_same] at q; cases q
        exact ⟨ws, hD2, r2⟩
      · rw [sup_ne ha] at q
        exact g2.ok a c q
    have gE : Go X.K H1 S1 H2 (sup S2 D (.lst acc)) := ⟨g1.ok, sok, g2.frame, fun a o e q => by rw [sup_ne (ne_of_none q hD)]; exact g2.ex a o e q⟩
    exact k (.ref D) _ _ _ (g1.trans gE) rfl (hend rfl D sD2)
theorem pd_lc {elt tg iter : Expr} {ifs : List Expr} {scope : Scope} {own : List (Str × Nat)} {wi : RI} {p : Pat} {tt : RT} {te : RE} (hc : X.calm = true) (hN : X.N.Nodup) (hi : PDI X y tg iter wi) (ok : BlkOk X.N X.env.scope scope own)
    (hg : ∀ (s : Shared) (H : Hp) (C : Addr) (cl : List (Str × Addr)) (fp : List Addr), PG (X.blk s H scope (compEnvC scope cl C X.env) fp) tg (Pat.g X.K p)) (ht : ∀ (s : Shared) (H : Hp) (C : Addr) (cl : List (Str × Addr)) (fp : List Addr), PDTs (X.blk s H scope (compEnvC scope cl C X.env) fp) y0 ifs tt)
    (he : ∀ (s : Shared) (H : Hp) (C : Addr) (cl : List (Str × Addr)) (fp : List Addr), PD (X.blk s H scope (compEnvC scope cl C X.env) fp) y0 elt te) (hv : Pat.all (own.map (·.2)) p = true := by rfl) (hs : ∀ x, foldedSetIterable iter X.env x = pure x := by intro _; rfl) :
    PD X y (.ListComp elt [⟨tg, iter, ifs, 0⟩] scope pos) (rLc wi p tt te (own.map (·.2))) :=
  PD.of (pe_lc (tt := lT X.K y0 tt) (te := lE X.K y0 te) hc hN hi ok hg ht he hs) fun σ H Q h => lc_of hv h
theorem pd_setLc (i : Nat) {yn : Str} {py : Pos} {elt tg iter : Expr} {ifs : List Expr} {scope : Scope} {own : List (Str × Nat)} {spos : Pos} {wi : RI} {p : Pat} {tt : RT} {te : RE} (hc : X.calm = true) (hN : X.N.Nodup) (hy : X.N[i]? = some yn) (hyl : X.env.scope.names.lookup yn = some .local)
    (hsw : swapsWith (.ListComp elt [⟨tg, iter, ifs, 0⟩] scope pos) (some (.Name yn py)) spos.line X.env = pure true) (hi : PDI X y tg iter wi) (ok : BlkOk X.N X.env.scope scope own)
    (hg : ∀ (s : Shared) (H : Hp) (C : Addr) (cl : List (Str × Addr)) (fp : List Addr), PG (X.blk s H scope (compEnvC scope cl C X.env) fp) tg (Pat.g X.K p)) (ht : ∀ (s : Shared) (H : Hp) (C : Addr) (cl : List (Str × Addr)) (fp : List Addr), PDTs (X.blk s H scope (compEnvC scope cl C X.env) fp) y0 ifs tt)
    (he : ∀ (s : Shared) (H : Hp) (C : Addr) (cl : List (Str × Addr)) (fp : List Addr), PD (X.blk s H scope (compEnvC scope cl C X.env) fp) y0 elt te) (hv : Pat.all (own.map (·.2)) p = true := by rfl) (hs : ∀ x, foldedSetIterable iter X.env x = pure x := by intro _; rfl) :
    PDS X y (.Assign [.Name yn py] (.ListComp elt [⟨tg, iter, ifs, 0⟩] scope pos) spos) (rAsg (rLc wi p tt te (own.map (·.2))) (gN i)) :=
  PDS.of (ps_setLc (tt := lT X.K y0 tt) (te := lE X.K y0 te) hc hN hy hyl hsw hi ok hg ht he hs) fun D σ H h => by
    obtain ⟨ρ, S, E, sr, so, h, eo⟩ := h
    exact lc_of hv ⟨ρ, S, _, sr, so, h, fun d S1 v H1 g1 dv h1 => eo.nx _ S1 _ H1 g1 ((sr.go g1).set dv i) h1⟩
end
end DL
set_option Elab.async false
set_option linter.all false
set_option maxRecDepth 100000
set_option maxHeartbeats 4000000
namespace DL
open PySem PySem.Spec PyProof.Rows L2

/-! ### defs -/
abbrev DSp := List D → Sto → (D → Sto → Prop) → (Addr → D → Sto → Prop) → Prop
def toSp (K : PySem.W.Frag) (f : DSp) : Sp := fun vs H Q E => ∃ ds S R RX, DVs K H ds vs ∧ SOk K H S ∧ f ds S R RX ∧ (∀ d S' v H', Go K H S H' S' → DV K H' d v → R d S' → Q v H') ∧
  (∀ C d S' dx w H', Go K H S H' S' → H' dx = some (.xd [(("value" : Str), w)]) → DV K H' d w → RX C d S' → E (.ref C) (some dx) H')
def startD (N : List Str) (ds : List D) : Ro := ds.map some ++ List.replicate (N.length - ds.length) none
theorem start_srv {K : PySem.W.Frag} {H : Hp} {N : List Str} {ds : List D} {vs : List V} (h : DVs K H ds vs) : SRv K (L2.start N vs) H (startD N ds) := by
  have hl := h.length
  refine ⟨by unfold L2.start startD; simp [hl], fun i d e => ?_⟩
  unfold startD at e
  by_cases hi : i < ds.length
  · rw [List.getElem?_append_left (by simpa using hi), List.getElem?_map] at e
    cases q : ds[i]? with
    | none => rw [q] at e; cases e
    | some d' =>
      rw [q] at e
      have e2 : d' = d := Option.some.inj (Option.some.inj e)
      subst e2
      obtain ⟨v, e1, r⟩ := h.get q
      refine ⟨v, ?_, r⟩
      unfold L2.start
      rw [List.getElem?_append_left (by simpa using (hl ▸ hi)), List.getElem?_map, e1]
      rfl
  · rw [List.getElem?_append_right (by simpa using hi), List.getElem?_replicate] at e
    split at e <;> cases e
abbrev yOf (E : XK) (RX : Addr → D → Sto → Prop) : DXw := ⟨fun cls d _ H => E cls d H, fun C d _ S => RX C d S⟩
theorem fnD {P : Program} {w : World} {K : PySem.W.Frag} {mg : Str → Option Value} {base : Heap} {x qual : Str} {st : Stmt} {f : Addr} {fd : FuncData} {N ps : List Str} {k : Nat} {sp : DSp} (F : Fun K x qual st f fd) (S : FnScope N ps (defScope st))
    (len : ∀ ds S Q E, sp ds S Q E → ds.length = ps.length)
    (hbody : ∀ (cdv : Value) (A : Around) (outer : List Env) (s : Shared) (H : Hp) (E : XK) (RX : Addr → D → Sto → Prop), Room k (A.deeper (envOfC qual (defScope st) s.heap.objs.size f cdv)) →
      ∃ t, PDSs (cxOf (L2.CX P w) P w K mg base N qual (defScope st) f cdv A outer s H E) (yOf E RX) (defBody st) t ∧ ∀ ds S Q, sp ds S Q RX → t { nx := fun _ S' => Q .non S', rt := Q } (startD N ds) S) :
    FnOk P w K mg base (L2.CX P w) (k + 1) f fd ps (toSp K sp) := by
  refine F.okX S (fun vs H Q E h => ?_) (fun cdv A outer s H vs Q E hr h => ?_)
  · obtain ⟨ds, S, R, RX, dvs, _, h, _⟩ := h
    rw [← dvs.length]
    exact len _ _ _ _ h
  · obtain ⟨ds, S, R, RX, dvs, so, h, k1, k2⟩ := h
    obtain ⟨t, ht, hq⟩ := hbody cdv A outer s H E RX hr
    refine ⟨_, ht, startD N ds, S, { nx := fun _ S' => R .non S', rt := R }, start_srv dvs, ⟨so, fun C d ρ S' dx w' σ H' g _ e dv q => k2 C d S' dx w' H' g e dv q⟩, hq ds S R h, ?_⟩
    exact ⟨fun ρ S' σ H' g _ q => k1 .non S' .non H' g rfl q, fun d S' v H' g dv q => k1 d S' v H' g dv q, fun _ _ _ _ _ _ z => z, fun _ _ _ _ _ _ z => z⟩
section
variable {X : Cx} {y : DXw} {pos p : Pos} {e : Expr} {es : List Expr} {x : Str} {k : Nat} {f : Addr} {fd : FuncData} {ps : List Str} {spec : DSp}
def rCall (y : DXw) (spec : DSp) (ta : RA) : RE := fun ρ S Q => ta ρ S fun ds S1 => spec ds S1 Q fun C d S' => y.d C d ρ S'
theorem pd_call {ta : RA} (tk : Takes X y.W) (G : FnOk X.prog X.w X.K X.mg X.base (L2.CX X.prog X.w) k f fd ps (toSp X.K spec)) (hr : Room k X.A) (hm : X.mg x = some (.ref f)) (hk : PySem.W.keepIn X.K (.ref f) = true) (hb : Binds X.K fd ps [])
    (ha : PDA X y (e :: es) ta) (hg : Gl X x := by rfl) (hdb : (x == ("__debug__" : Str)) = false := by decide) (he : starEach (e :: es) X.env = (false, eval e X.env) :: starEach es X.env := by rfl) (hpl : (backTo pos (starEach es X.env)).any (·.1) = false := by rfl) :
    PD X y (.Call (.Name x p) (e :: es) [] pos) (rCall y spec ta) :=
  PD.of (pe_callS G hr hg hm hk hb (fun σ => passAt tk σ) ha hdb he hpl) fun σ H Q h => by
    obtain ⟨ρ, S, R, sr, so, h, k⟩ := h
    exact ⟨ρ, S, _, sr, so, h, fun ds S1 vs H1 g1 dvs hn h1 => ⟨ds, S1, R, _, dvs, g1.ok, h1, fun d S2 v H2 g2 dv q => k d S2 v H2 (g1.trans g2) dv q, fun C d S2 dx w H2 g2 e dw q => (so.go g1).xo C d ρ S2 dx w σ H2 g2 (sr.go (g1.trans g2)) e dw q⟩⟩
/-- keywords -/
def RdK (X : Cx) (y : DXw) (kws : List Keyword) (n : Nat) (t : RA) : Prop := PK X kws (lA X.K y n t)
theorem pdk_nil : RdK X y [] 0 rNil := ⟨fun pins pos s σ H Q I h => by
  obtain ⟨ρ, S, R, sr, so, h, k⟩ := h
  exact pk_nil.run pins pos s σ H Q I (k [] S [] H (Go.refl so.so) DVs.nil rfl h)⟩
theorem pdk_cons {nm : Option Str} {kpos : Pos} {kws : List Keyword} {n : Nat} {t : RE} {u : RA} (he : PD X y e t) (hr : RdK X y kws n u) : RdK X y (⟨nm, e, kpos⟩ :: kws) (n + 1) (rCons t u) := ⟨fun pins pos s σ H Q I h => by
  obtain ⟨ρ, S, R, sr, so, h, k⟩ := h
  refine (pk_cons he hr).run pins pos s σ H Q I ⟨ρ, S, _, sr, so, h, fun d S1 v H1 g1 dv h1 => ⟨ρ, S1, _, sr.go g1, so.go g1, h1, fun ds S2 vs H2 g2 dvs hn h2 => ?_⟩⟩
  exact k _ S2 _ H2 (g1.trans g2) (DVs.cons (DV.go g2 _ _ dv) dvs) (by rw [List.length_cons, hn]) h2⟩
end
end DL
set_option Elab.async false
set_option linter.all false
set_option maxRecDepth 100000
set_option maxHeartbeats 4000000
namespace DL
open PySem PySem.Spec PyProof.Rows L2

/-! ### data as PyData -/
mutual
inductive PyR (S : Sto) : D → PyData → Prop
  | non : PyR S .non .none
  | bl (b : Bool) : PyR S (.bl b) (.bool b)
  | int (i : Int) : PyR S (.int i) (.int i)
  | str (x : Str) : PyR S (.str x) (.str x)
  | tup {xs : List D} {ps : List PyData} : PyRs S xs ps → PyR S (.tup xs) (.tuple ps)
  | fro {xs : List D} {ps : List PyData} : PyRs S xs ps → PyR S (.fro xs) (.list ps)
  | lst {a : Addr} {xs : List D} {ps : List PyData} : S a = some (.lst xs) → PyRs S xs ps → PyR S (.ref a) (.list ps)
inductive PyRs (S : Sto) : List D → List PyData → Prop
  | nil : PyRs S [] []
  | cons {x : D} {xs : List D} {p : PyData} {ps : List PyData} : PyR S x p → PyRs S xs ps → PyRs S (x :: xs) (p :: ps)
end
section
variable {K : PySem.W.Frag} {H : Hp} {S : Sto}
mutual
theorem PyR.dp (so : SOk K H S) : ∀ (p : PyData) (x : D) (v : V), PyR S x p → DV K H x v → Dp K H v p
  | .none, _, _, h, r => by cases h; cases (show _ = V.non from r); exact .non
  | .bool b, _, _, h, r => by cases h; cases (show _ = V.bl b from r); exact .bl b
  | .int i, _, _, h, r => by cases h; cases (show _ = V.int i from r); exact .int i
  | .str x, _, _, h, r => by cases h; cases (show _ = V.str x from r); exact .str x
  | .tuple ps, _, _, h, r => by
    cases h with
    | tup hs =>
      obtain ⟨a, vs, rfl, q, r⟩ := r
      exact .tup q.sq (PyR.dps so ps _ _ hs r)
  | .list ps, _, _, h, r => by
    cases h with
    | fro hs =>
      obtain ⟨a, vs, rfl, q, r⟩ := r
      exact .lst q.sq (PyR.dps so ps _ _ hs r)
    | lst e hs =>
      cases (show _ = V.ref _ from r)
      obtain ⟨vs, e1, r⟩ := so _ _ e
      exact .lst (SqL.of e1) (PyR.dps so ps _ _ hs r)
  | .dict _, _, _, h, _ => by cases h
theorem PyR.dps (so : SOk K H S) : ∀ (ps : List PyData) (xs : List D) (vs : List V), PyRs S xs ps → DVs K H xs vs → DpAll K H vs ps
  | [], _, _, h, r => by cases h; cases (show _ = [] from r); exact .nil
  | p :: ps, _, _, h, r => by
    cases h with
    | cons h1 h2 =>
      obtain ⟨v, ws, rfl, r1, r2⟩ := r
      exact .cons (PyR.dp so p _ _ h1 r1) (PyR.dps so ps _ _ h2 r2)
end
end

/-! ### operators -/
def dAdd : ROp
  | .int i, .int j, S, R => R (.int (i + j)) S
  | .str x, .str z, S, R => x.length + z.length ≤ sizeLine ∧ R (.str (x ++ z)) S
  | .tup xs, .tup ys, S, R => (xs ≠ [] ∧ xs.length + ys.length ≤ sizeLine) ∧ R (.tup (xs ++ ys)) S
  | .ref a, .ref b, S, R => ∃ xs ys, S a = some (.lst xs) ∧ S b = some (.lst ys) ∧ xs.length + ys.length ≤ sizeLine ∧ ∀ p, S p = none → R (.ref p) (sup S p (.lst (xs ++ ys)))
  | _, _, _, _ => False
def dSub : ROp
  | .int i, .int j, S, R => R (.int (i - j)) S
  | _, _, _, _ => False
def dMul : ROp
  | .int i, .int j, S, R => (CMulW i j ∨ CMul i j) ∧ R (.int (i * j)) S
  | .ref a, .int k, S, R => ∃ xs, S a = some (.lst xs) ∧ (0 ≤ k ∧ k < 2 ^ 63) ∧ xs.length * k.toNat ≤ sizeLine ∧ ∀ p, S p = none → R (.ref p) (sup S p (.lst ((List.replicate k.toNat xs).flatten)))
  | _, _, _, _ => False
def dFdiv : ROp
  | .int i, .int j, S, R => CDivW i j ∧ R (.int (i / j)) S
  | _, _, _, _ => False
def dMod : ROp
  | .int i, .int j, S, R => 0 < j ∧ R (.int (i % j)) S
  | _, _, _, _ => False
def dPow : ROp
  | .int i, .int j, S, R => (0 ≤ j ∧ (Builtin.Int.intBits i : Int) * j ≤ 2 ^ 27) ∧ R (.int (i ^ j.toNat)) S
  | _, _, _, _ => False
def dCmpI (f : Int → Int → Bool) : ROp
  | .int i, .int j, S, R => R (.bl (f i j)) S
  | _, _, _, _ => False
def dLt : ROp
  | .int i, .int j, S, R => R (.bl (decide (i < j))) S
  | _, _, _, _ => False
def dLe : ROp
  | .int i, .int j, S, R => R (.bl (decide (i ≤ j))) S
  | _, _, _, _ => False
def dGt : ROp
  | .int i, .int j, S, R => R (.bl (decide (j < i))) S
  | _, _, _, _ => False
def dGe : ROp
  | .int i, .int j, S, R => R (.bl (decide (j ≤ i))) S
  | _, _, _, _ => False
def dEqG (n : Bool) (x y : D) (S : Sto) (R : D → Sto → Prop) : Prop := ∃ p q, PyR S x p ∧ PyR S y q ∧ SeqAt.shaped p = true ∧ SeqAt.shaped q = true ∧ R (.bl (if n then !PyData.eqv p q else PyData.eqv p q)) S
def dEq : ROp
  | .int i, .int j, S, R => R (.bl (decide (i = j))) S
  | .bl i, .bl j, S, R => R (.bl (decide (i = j))) S
  | .str i, .str j, S, R => R (.bl (decide (i = j))) S
  | x, y, S, R => dEqG false x y S R
def dNe : ROp
  | .int i, .int j, S, R => R (.bl (!decide (i = j))) S
  | .bl i, .bl j, S, R => R (.bl (!decide (i = j))) S
  | .str i, .str j, S, R => R (.bl (!decide (i = j))) S
  | x, y, S, R => dEqG true x y S R
def isNone : D → Bool
  | .non => true
  | _ => false
def dIs : ROp
  | x, .non, S, R => R (.bl (isNone x)) S
  | _, _, _, _ => False
def dIsNot : ROp
  | x, .non, S, R => R (.bl (!isNone x)) S
  | _, _, _, _ => False
section
variable {X : Cx}
theorem od_add : OpR X (binaryOp .Add) (lop X.K dAdd) := by
  intro pins s σ H v w vv ww Q I rv rw' h
  obtain ⟨x, y, S, R, dx, dy, so, h, k⟩ := h
  cases x <;> cases y <;> first | exact False.elim h | skip
  case int.int i j =>
    cases (show v = V.int i from dx); cases (show w = V.int j from dy)
    exact op_add pins s σ H _ _ vv ww Q I rv rw' ⟨i, j, rfl, rfl, k (.int (i + j)) S _ H (Go.refl so) rfl h⟩
  case str.str i j =>
    cases (show v = V.str i from dx); cases (show w = V.str j from dy)
    exact op_add_str pins s σ H _ _ vv ww Q I rv rw' ⟨i, j, rfl, rfl, h.1, k (.str (i ++ j)) S _ H (Go.refl so) rfl h.2⟩
  case tup.tup xs ys =>
    obtain ⟨a, vs, rfl, q1, r1⟩ := dx
    obtain ⟨b, ws, rfl, q2, r2⟩ := dy
    obtain ⟨⟨hn, hl⟩, h⟩ := h
    have hv : vs ≠ [] := fun z => hn (by
      have := r1.length
      rw [z] at this
      exact List.length_eq_zero_iff.mp this)
    refine op_catT pins s σ H _ _ vv ww Q I rv rw' ⟨a, b, vs, ws, rfl, rfl, q1.sq, q2.sq, hv, by rw [← r1.length, ← r2.length]; exact hl, ?_⟩
    by_cases hw : ws = []
    · subst hw
      have e : ys = [] := by
        have := r2.length
        exact List.length_eq_zero_iff.mp this
      subst e
      rw [List.append_nil] at h
      exact ⟨fun _ => k (.tup xs) S _ H (Go.refl so) ⟨a, vs, rfl, q1, r1⟩ h, fun z => absurd rfl z⟩
    · refine ⟨fun z => absurd z hw, fun _ p hp => ?_⟩
      have g := Go.new (o := .tup (vs ++ ws)) so hp
      exact k (.tup (xs ++ ys)) S _ _ g ⟨p, vs ++ ws, rfl, .inl upd_same, DVs.append (DVs.go g _ _ r1) (DVs.go g _ _ r2)⟩ h
  case ref.ref a b =>
    cases (show v = V.ref a from dx); cases (show w = V.ref b from dy)
    obtain ⟨xs, ys, e1, e2, hl, h⟩ := h
    obtain ⟨vs, f1, r1⟩ := so _ _ e1
    obtain ⟨ws, f2, r2⟩ := so _ _ e2
    refine op_cat pins s σ H _ _ vv ww Q I rv rw' ⟨a, b, vs, ws, rfl, rfl, f1, f2, by rw [← r1.length, ← r2.length]; exact hl, fun p hp => ?_⟩
    exact k (.ref p) _ _ _ (Go.newLst so hp (r1.append r2)) rfl (h p (so.free hp))
theorem od_sub : OpR X (binaryOp .Sub) (lop X.K dSub) := by
  intro pins s σ H v w vv ww Q I rv rw' h
  obtain ⟨x, y, S, R, dx, dy, so, h, k⟩ := h
  cases x <;> cases y <;> first | exact False.elim h | skip
  case int.int i j =>
    cases (show v = V.int i from dx); cases (show w = V.int j from dy)
    exact op_sub pins s σ H _ _ vv ww Q I rv rw' ⟨i, j, rfl, rfl, k (.int (i - j)) S _ H (Go.refl so) rfl h⟩
theorem od_mul : OpR X (binaryOp .Mult) (lop X.K dMul) := by
  intro pins s σ H v w vv ww Q I rv rw' h
  obtain ⟨x, y, S, R, dx, dy, so, h, k⟩ := h
  cases x <;> cases y <;> first | exact False.elim h | skip
  case int.int i j =>
    cases (show v = V.int i from dx); cases (show w = V.int j from dy)
    rcases h.1 with hc | hc
    · exact op_mulW pins s σ H _ _ vv ww Q I rv rw' ⟨i, j, rfl, rfl, hc, k (.int (i * j)) S _ H (Go.refl so) rfl h.2⟩
    · exact op_mul pins s σ H _ _ vv ww Q I rv rw' ⟨i, j, rfl, rfl, hc, k (.int (i * j)) S _ H (Go.refl so) rfl h.2⟩
  case ref.int a j =>
    cases (show v = V.ref a from dx); cases (show w = V.int j from dy)
    obtain ⟨xs, e1, ⟨h0, h1⟩, hl, h⟩ := h
    obtain ⟨vs, f1, r1⟩ := so _ _ e1
    refine op_rep pins s σ H _ _ vv ww Q I rv rw' ⟨a, j, vs, rfl, rfl, f1, by omega, h1, by rw [← r1.length]; exact hl, fun p hp => ?_⟩
    have rr : DVs X.K H ((List.replicate j.toNat xs).flatten) ((List.replicate j.toNat vs).flatten) := by
      generalize j.toNat = n
      induction n with
      | zero => exact DVs.nil
      | succ n ih => rw [List.replicate_succ, List.replicate_succ, List.flatten_cons, List.flatten_cons]; exact r1.append ih
    exact k (.ref p) _ _ _ (Go.newLst so hp rr) rfl (h p (so.free hp))
theorem od_fdiv : OpR X (binaryOp .FloorDiv) (lop X.K dFdiv) := by
  intro pins s σ H v w vv ww Q I rv rw' h
  obtain ⟨x, y, S, R, dx, dy, so, h, k⟩ := h
  cases x <;> cases y <;> first | exact False.elim h | skip
  case int.int i j =>
    cases (show v = V.int i from dx); cases (show w = V.int j from dy)
    exact op_fdivW pins s σ H _ _ vv ww Q I rv rw' ⟨i, j, rfl, rfl, h.1, k (.int (i / j)) S _ H (Go.refl so) rfl h.2⟩
theorem od_mod : OpR X (binaryOp .Mod) (lop X.K dMod) := by
  intro pins s σ H v w vv ww Q I rv rw' h
  obtain ⟨x, y, S, R, dx, dy, so, h, k⟩ := h
  cases x <;> cases y <;> first | exact False.elim h | skip
  case int.int i j =>
    cases (show v = V.int i from dx); cases (show w = V.int j from dy)
    exact op_mod pins s σ H _ _ vv ww Q I rv rw' ⟨i, j, rfl, rfl, h.1, k (.int (i % j)) S _ H (Go.refl so) rfl h.2⟩
theorem op_powW : OpR X (binaryOp .Pow) (rI (fun i j => 0 ≤ j ∧ (Builtin.Int.intBits i : Int) * j ≤ 2 ^ 27) fun i j => .int (i ^ j.toNat)) := opI fun _ _ _ _ _ _ _ hc q => PyProof.Rows.pow_int hc.1 hc.2 q
theorem od_pow : OpR X (binaryOp .Pow) (lop X.K dPow) := by
  intro pins s σ H v w vv ww Q I rv rw' h
  obtain ⟨x, y, S, R, dx, dy, so, h, k⟩ := h
  cases x <;> cases y <;> first | exact False.elim h | skip
  case int.int i j =>
    cases (show v = V.int i from dx); cases (show w = V.int j from dy)
    exact op_powW pins s σ H _ _ vv ww Q I rv rw' ⟨i, j, rfl, rfl, h.1, k (.int (i ^ j.toNat)) S _ H (Go.refl so) rfl h.2⟩
theorem od_cmpI {op : CmpOp} {f : Int → Int → Bool} (ho : OpR X (compareOp op) (rI0 fun i j => .bl (f i j))) : OpR X (compareOp op) (lop X.K (dCmpI f)) := by
  intro pins s σ H v w vv ww Q I rv rw' h
  obtain ⟨x, y, S, R, dx, dy, so, h, k⟩ := h
  cases x <;> cases y <;> first | exact False.elim h | skip
  case int.int i j =>
    cases (show v = V.int i from dx); cases (show w = V.int j from dy)
    exact ho pins s σ H _ _ vv ww Q I rv rw' ⟨i, j, rfl, rfl, k (.bl (f i j)) S _ H (Go.refl so) rfl h⟩
theorem od_lt : OpR X (compareOp .Lt) (lop X.K dLt) := od_cmpI op_lt
theorem od_le : OpR X (compareOp .LtE) (lop X.K dLe) := od_cmpI op_le
theorem od_gt : OpR X (compareOp .Gt) (lop X.K dGt) := od_cmpI op_gt
theorem od_ge : OpR X (compareOp .GtE) (lop X.K dGe) := od_cmpI op_ge
theorem eqG_of {n : Bool} {x y : D} {S : Sto} {R : D → Sto → Prop} {H : Hp} {v w : V} {Q : VK} (so : SOk X.K H S) (dx : DV X.K H x v) (dy : DV X.K H y w) (h : dEqG n x y S R) (k : ∀ d S' z H', Go X.K H S H' S' → DV X.K H' d z → R d S' → Q z H') :
    ∃ d e, Dp X.K H v d ∧ Dp X.K H w e ∧ SeqAt.shaped d = true ∧ SeqAt.shaped e = true ∧ Q (.bl (if n then !PyData.eqv d e else PyData.eqv d e)) H := by
  obtain ⟨p, q, h1, h2, s1, s2, h⟩ := h
  exact ⟨p, q, PyR.dp so p x v h1 dx, PyR.dp so q y w h2 dy, s1, s2, k (.bl (if n then !PyData.eqv p q else PyData.eqv p q)) S _ H (Go.refl so) rfl h⟩
theorem dEq_case {x y : D} {S : Sto} {R : D → Sto → Prop} (h : dEq x y S R) : (∃ i j, x = .int i ∧ y = .int j ∧ R (.bl (decide (i = j))) S) ∨ (∃ i j, x = .bl i ∧ y = .bl j ∧ R (.bl (decide (i = j))) S) ∨ (∃ i j, x = .str i ∧ y = .str j ∧ R (.bl (decide (i = j))) S) ∨ dEqG false x y S R := by
  cases x <;> cases y <;> first | exact .inr (.inr (.inr h)) | exact .inl ⟨_, _, rfl, rfl, h⟩ | exact .inr (.inl ⟨_, _, rfl, rfl, h⟩) | exact .inr (.inr (.inl ⟨_, _, rfl, rfl, h⟩))
theorem dNe_case {x y : D} {S : Sto} {R : D → Sto → Prop} (h : dNe x y S R) : (∃ i j, x = .int i ∧ y = .int j ∧ R (.bl (!decide (i = j))) S) ∨ (∃ i j, x = .bl i ∧ y = .bl j ∧ R (.bl (!decide (i = j))) S) ∨ (∃ i j, x = .str i ∧ y = .str j ∧ R (.bl (!decide (i = j))) S) ∨ dEqG true x y S R := by
  cases x <;> cases y <;> first | exact .inr (.inr (.inr h)) | exact .inl ⟨_, _, rfl, rfl, h⟩ | exact .inr (.inl ⟨_, _, rfl, rfl, h⟩) | exact .inr (.inr (.inl ⟨_, _, rfl, rfl, h⟩))
theorem od_eq (hu : X.A.units + 64 < cLine) : OpR X (compareOp .Eq) (lop X.K dEq) := by
  intro pins s σ H v w vv ww Q I rv rw' h
  obtain ⟨x, y, S, R, dx, dy, so, h, k⟩ := h
  rcases dEq_case h with ⟨i, j, rfl, rfl, h⟩ | ⟨i, j, rfl, rfl, h⟩ | ⟨i, j, rfl, rfl, h⟩ | h
  · cases (show v = V.int i from dx); cases (show w = V.int j from dy)
    exact op_eq pins s σ H _ _ vv ww Q I rv rw' ⟨rfl, by rw [show decide (V.int i = V.int j) = decide (i = j) by simp]; exact k (.bl (decide (i = j))) S _ H (Go.refl so) rfl h⟩
  · cases (show v = V.bl i from dx); cases (show w = V.bl j from dy)
    exact op_eq pins s σ H _ _ vv ww Q I rv rw' ⟨rfl, by rw [show decide (V.bl i = V.bl j) = decide (i = j) by simp]; exact k (.bl (decide (i = j))) S _ H (Go.refl so) rfl h⟩
  · cases (show v = V.str i from dx); cases (show w = V.str j from dy)
    exact op_eq pins s σ H _ _ vv ww Q I rv rw' ⟨rfl, by rw [show decide (V.str i = V.str j) = decide (i = j) by simp]; exact k (.bl (decide (i = j))) S _ H (Go.refl so) rfl h⟩
  · exact op_eqD hu pins s σ H _ _ vv ww Q I rv rw' (eqG_of so dx dy h k)
theorem od_ne (hu : X.A.units + 64 < cLine) : OpR X (compareOp .NotEq) (lop X.K dNe) := by
  intro pins s σ H v w vv ww Q I rv rw' h
  obtain ⟨x, y, S, R, dx, dy, so, h, k⟩ := h
  rcases dNe_case h with ⟨i, j, rfl, rfl, h⟩ | ⟨i, j, rfl, rfl, h⟩ | ⟨i, j, rfl, rfl, h⟩ | h
  · cases (show v = V.int i from dx); cases (show w = V.int j from dy)
    exact op_ne pins s σ H _ _ vv ww Q I rv rw' ⟨rfl, by rw [show decide (V.int i = V.int j) = decide (i = j) by simp]; exact k (.bl (!decide (i = j))) S _ H (Go.refl so) rfl h⟩
  · cases (show v = V.bl i from dx); cases (show w = V.bl j from dy)
    exact op_ne pins s σ H _ _ vv ww Q I rv rw' ⟨rfl, by rw [show decide (V.bl i = V.bl j) = decide (i = j) by simp]; exact k (.bl (!decide (i = j))) S _ H (Go.refl so) rfl h⟩
  · cases (show v = V.str i from dx); cases (show w = V.str j from dy)
    exact op_ne pins s σ H _ _ vv ww Q I rv rw' ⟨rfl, by rw [show decide (V.str i = V.str j) = decide (i = j) by simp]; exact k (.bl (!decide (i = j))) S _ H (Go.refl so) rfl h⟩
  · exact op_neD hu pins s σ H _ _ vv ww Q I rv rw' (eqG_of so dx dy h k)
theorem isNone_of {K : PySem.W.Frag} {H : Hp} {x : D} {v : V} (h : DV K H x v) : decide (v = V.non) = isNone x := by
  cases x with
  | non => cases (show v = V.non from h); rfl
  | bl b => cases (show v = V.bl b from h); rfl
  | int b => cases (show v = V.int b from h); rfl
  | str b => cases (show v = V.str b from h); rfl
  | ty b => cases (show v = V.ty b from h); rfl
  | ref b => cases (show v = V.ref b from h); rfl
  | tup b => obtain ⟨a, vs, rfl, _⟩ := h; rfl
  | fro b => obtain ⟨a, vs, rfl, _⟩ := h; rfl
  | exc C d => obtain ⟨a, dx, w, rfl, _⟩ := h; rfl
theorem od_is : OpR X (compareOp .Is) (lop X.K dIs) := by
  intro pins s σ H v w vv ww Q I rv rw' h
  obtain ⟨x, y, S, R, dx, dy, so, h, k⟩ := h
  cases y <;> first | (cases x <;> exact False.elim h) | skip
  cases (show w = V.non from dy)
  have h : R (.bl (isNone x)) S := by cases x <;> exact h
  exact op_isN pins s σ H _ _ vv ww Q I rv rw' ⟨rfl, by rw [isNone_of dx]; exact k (.bl (isNone x)) S _ H (Go.refl so) rfl h⟩
theorem od_isnot : OpR X (compareOp .IsNot) (lop X.K dIsNot) := by
  intro pins s σ H v w vv ww Q I rv rw' h
  obtain ⟨x, y, S, R, dx, dy, so, h, k⟩ := h
  cases y <;> first | (cases x <;> exact False.elim h) | skip
  cases (show w = V.non from dy)
  have h : R (.bl (!isNone x)) S := by cases x <;> exact h
  exact op_notN pins s σ H _ _ vv ww Q I rv rw' ⟨rfl, by rw [isNone_of dx]; exact k (.bl (!isNone x)) S _ H (Go.refl so) rfl h⟩
variable {y : DXw} {a b : Expr} {t : RE} {pos : Pos}
/-- -a -/
def rNeg (t : RE) : RE := fun ρ S Q => t ρ S fun d S1 => match d with
  | .int i => Q (.int (-i)) S1
  | _ => False
theorem pd_neg (ha : PD X y a t) : PD X y (.UnaryOp .USub a pos) (rNeg t) := by
  refine PD.of (pe_un un_neg ha) fun σ H Q h => ?_
  obtain ⟨ρ, S, R, sr, so, h, k⟩ := h
  refine ⟨ρ, S, _, sr, so, h, fun d S' v H' g dv hd => ?_⟩
  cases d with
  | int i => exact ⟨i, dv, k (.int (-i)) S' _ H' g rfl hd⟩
  | _ => exact False.elim hd
end
end DL
set_option Elab.async false
set_option linter.all false
set_option maxRecDepth 100000
set_option maxHeartbeats 4000000
namespace DL
open PySem PySem.Spec PyProof.Rows L2

/-! ### built-ins, by values -/
abbrev RCall := List D → Sto → (D → Sto → Prop) → Prop
def lcl (K : PySem.W.Frag) (p : RCall) : List V → Hp → VK → Prop := fun vs H Q => ∃ ds S R, DVs K H ds vs ∧ SOk K H S ∧ p ds S R ∧ ∀ d S' z H', Go K H S H' S' → DV K H' d z → R d S' → Q z H'
def rCl (p : RCall) (ta : RA) : RE := fun ρ S Q => ta ρ S fun ds S1 => p ds S1 Q
def dvs1 {K : PySem.W.Frag} {H : Hp} {d : D} {vs : List V} (h : DVs K H [d] vs) : ∃ v, vs = [v] ∧ DV K H d v := by
  obtain ⟨v, ws, rfl, r, q⟩ := h
  cases (show ws = [] from q)
  exact ⟨v, rfl, r⟩
def dvs2 {K : PySem.W.Frag} {H : Hp} {d e : D} {vs : List V} (h : DVs K H [d, e] vs) : ∃ v w, vs = [v, w] ∧ DV K H d v ∧ DV K H e w := by
  obtain ⟨v, ws, rfl, r, q⟩ := h
  obtain ⟨w, rfl, r2⟩ := dvs1 q
  exact ⟨v, w, rfl, r, r2⟩
section
variable {X : Cx} {y : DXw} {pos p : Pos} {e : Expr} {es : List Expr} {x : Str} {ta : RA}
theorem cl_of {r : List V → Hp → VK → Prop} {q : RCall} {n : Nat} {σ : L2.St} {H : Hp} {Q : VK} (hr : ∀ vs H Q, lcl X.K q vs H Q → r vs H Q) (h : lE X.K y (rCl q ta) σ H Q) : tCB r (lA X.K y n ta) σ H Q := by
  obtain ⟨ρ, S, R, sr, so, h, k⟩ := h
  exact ⟨ρ, S, _, sr, so, h, fun ds S1 vs H1 g1 dvs hn h1 => hr _ _ _ ⟨ds, S1, R, dvs, g1.ok, h1, fun d S2 z H2 g2 dz q => k d S2 z H2 (g1.trans g2) dz q⟩⟩
theorem pd_blt {id : String} {q : RCall} (hc : CallR X (.builtin id) (lcl X.K q)) (hm : X.mg x = none) (hv : bootBuiltins x = some (.builtin id)) (ha : PDA X y (e :: es) ta) (hg : Gl X x := by rfl) (hn : x ≠ "__name__" := by decide) (hdb : (x == ("__debug__" : Str)) = false := by decide)
    (he : starEach (e :: es) X.env = (false, eval e X.env) :: starEach es X.env := by rfl) (hpl : (backTo pos (starEach es X.env)).any (·.1) = false := by rfl) : PD X y (.Call (.Name x p) (e :: es) [] pos) (rCl q ta) :=
  PD.of (pe_callB hc hg hm hv ha hn hdb he hpl) fun σ H Q h => cl_of (fun _ _ _ z => z) h
theorem pd_bltTy {T : String} {q : RCall} (hc : CallR X (.type T) (lcl X.K q)) (hm : X.mg x = none) (hv : bootBuiltins x = some (.type T)) (ha : PDA X y (e :: es) ta) (hg : Gl X x := by rfl) (hn : x ≠ "__name__" := by decide) (hdb : (x == ("__debug__" : Str)) = false := by decide)
    (he : starEach (e :: es) X.env = (false, eval e X.env) :: starEach es X.env := by rfl) (hpl : (backTo pos (starEach es X.env)).any (·.1) = false := by rfl) : PD X y (.Call (.Name x p) (e :: es) [] pos) (rCl q ta) :=
  PD.of (pe_callTy hc hg hm hv ha hn hdb he hpl) fun σ H Q h => cl_of (fun _ _ _ z => z) h
theorem pd_bltFun {id : String} {q : RCall} (hc : CallR X (.builtin id) (lcl X.K q)) (hm : X.mg x = some (.builtin id)) (ha : PDA X y (e :: es) ta) (hg : Gl X x := by rfl) (hdb : (x == ("__debug__" : Str)) = false := by decide)
    (he : starEach (e :: es) X.env = (false, eval e X.env) :: starEach es X.env := by rfl) (hpl : (backTo pos (starEach es X.env)).any (·.1) = false := by rfl) : PD X y (.Call (.Name x p) (e :: es) [] pos) (rCl q ta) :=
  PD.of (pe_callBfun hc hg hm ha hdb he hpl) fun σ H Q h => cl_of (fun _ _ _ z => z) h

/-- len -/
def dLen : RCall := fun ds S Q => match ds with
  | [.tup xs] => Q (.int xs.length) S
  | [.str x] => x.length ≤ sizeLine ∧ Q (.int x.length) S
  | [d] => ∃ xs, RdL S d xs ∧ Q (.int xs.length) S
  | _ => False
theorem cd_len : CallR X (.builtin "len") (lcl X.K dLen) := by
  intro pins s σ H vs us Q I rv h
  obtain ⟨ds, S, R, dv, so, h, k⟩ := h
  refine call_len pins s σ H vs us Q I rv ?_
  unfold dLen at h
  split at h
  · rename_i xs
    obtain ⟨v, rfl, a, ws, rfl, q, r⟩ := dvs1 dv
    exact ⟨_, _, rfl, .inr ⟨ws, q.sq, rfl⟩, by rw [← r.length]; exact k (.int xs.length) S _ H (Go.refl so) rfl h⟩
  · rename_i z
    obtain ⟨v, rfl, r⟩ := dvs1 dv
    cases (show v = V.str z from r)
    exact ⟨_, _, rfl, ⟨h.1, rfl⟩, k (.int z.length) S _ H (Go.refl so) rfl h.2⟩
  · rename_i d _ _
    obtain ⟨v, rfl, r⟩ := dvs1 dv
    obtain ⟨xs, hx, h⟩ := h
    obtain ⟨a, ws, rfl, q, r⟩ := hx.sq so r
    exact ⟨_, _, rfl, .inl ⟨ws, q, rfl⟩, by rw [← r.length]; exact k (.int xs.length) S _ H (Go.refl so) rfl h⟩
  · exact h.elim
/-- int -/
def dInt : RCall := fun ds S Q => match ds with
  | [.int i] => Q (.int i) S
  | [.bl b] => Q (.int (if b then 1 else 0)) S
  | _ => False
theorem cd_int : CallR X (.type "int") (lcl X.K dInt) := by
  intro pins s σ H vs us Q I rv h
  obtain ⟨ds, S, R, dv, so, h, k⟩ := h
  refine call_int1 pins s σ H vs us Q I rv ?_
  unfold dInt at h
  split at h
  · rename_i i
    obtain ⟨v, rfl, r⟩ := dvs1 dv
    cases (show v = V.int i from r)
    exact .inl ⟨i, rfl, k (.int i) S _ H (Go.refl so) rfl h⟩
  · rename_i b
    obtain ⟨v, rfl, r⟩ := dvs1 dv
    cases (show v = V.bl b from r)
    exact .inr ⟨b, rfl, k (.int (if b then 1 else 0)) S _ H (Go.refl so) rfl h⟩
  · exact h.elim
/-- a built-in of whole numbers -/
def dI1 (f : Int → Int) : RCall := fun ds S Q => match ds with
  | [.int i] => Q (.int (f i)) S
  | _ => False
def dI2 (f : Int → Int → Int) : RCall := fun ds S Q => match ds with
  | [.int i, .int j] => Q (.int (f i j)) S
  | _ => False
theorem cd_I1 {u : Value} {f : Int → Int} (hc : CallR X u (fun xs H Q => ∃ i, xs = [.int i] ∧ Q (.int (f i)) H)) : CallR X u (lcl X.K (dI1 f)) := by
  intro pins s σ H vs us Q I rv h
  obtain ⟨ds, S, R, dv, so, h, k⟩ := h
  refine hc pins s σ H vs us Q I rv ?_
  unfold dI1 at h
  split at h
  · rename_i i
    obtain ⟨v, rfl, r⟩ := dvs1 dv
    cases (show v = V.int i from r)
    exact ⟨i, rfl, k (.int (f i)) S _ H (Go.refl so) rfl h⟩
  · exact h.elim
theorem cd_I2 {u : Value} {f : Int → Int → Int} (hc : CallR X u (fun xs H Q => ∃ i j, xs = [.int i, .int j] ∧ Q (.int (f i j)) H)) : CallR X u (lcl X.K (dI2 f)) := by
  intro pins s σ H vs us Q I rv h
  obtain ⟨ds, S, R, dv, so, h, k⟩ := h
  refine hc pins s σ H vs us Q I rv ?_
  unfold dI2 at h
  split at h
  · rename_i i j
    obtain ⟨v, w, rfl, r1, r2⟩ := dvs2 dv
    cases (show v = V.int i from r1)
    cases (show w = V.int j from r2)
    exact ⟨i, j, rfl, k (.int (f i j)) S _ H (Go.refl so) rfl h⟩
  · exact h.elim
def dAbs : RCall := fun ds S Q => match ds with
  | [.int i] => Q (.int (if i < 0 then -i else i)) S
  | _ => False
def dMax2 : RCall := fun ds S Q => match ds with
  | [.int i, .int j] => Q (.int (if j > i then j else i)) S
  | _ => False
def dMin2 : RCall := fun ds S Q => match ds with
  | [.int i, .int j] => Q (.int (if j < i then j else i)) S
  | _ => False
def dGcd : RCall := fun ds S Q => match ds with
  | [.int i, .int j] => Q (.int ((Nat.gcd i.natAbs j.natAbs : Nat) : Int)) S
  | _ => False
theorem cd_abs : CallR X (.builtin "abs") (lcl X.K dAbs) := cd_I1 call_abs
theorem cd_max2 (hc : X.calm = true) : CallR X (.builtin "max") (lcl X.K dMax2) := cd_I2 (call_max2 hc)
theorem cd_min2 (hc : X.calm = true) : CallR X (.builtin "min") (lcl X.K dMin2) := cd_I2 (call_min2 hc)
theorem cd_gcd : CallR X (.builtin "math.gcd") (lcl X.K dGcd) := cd_I2 cr_gcd
/-- tuple, list -/
def dTuple : RCall := fun ds S Q => match ds with
  | [.tup xs] => Q (.tup xs) S
  | [d] => ∃ xs, RdL S d xs ∧ Q (.tup xs) S
  | _ => False
theorem cd_tuple : CallR X (.type "tuple") (lcl X.K dTuple) := by
  intro pins s σ H vs us Q I rv h
  obtain ⟨ds, S, R, dv, so, h, k⟩ := h
  refine call_tuple_of pins s σ H vs us Q I rv ?_
  unfold dTuple at h
  split at h
  · rename_i xs
    obtain ⟨v, rfl, a, ws, rfl, q, r⟩ := dvs1 dv
    exact ⟨a, ws, rfl, .inr ⟨q.sq, k (.tup xs) S _ H (Go.refl so) ⟨a, ws, rfl, q, r⟩ h⟩⟩
  · rename_i d _
    obtain ⟨v, rfl, r⟩ := dvs1 dv
    obtain ⟨xs, hx, h⟩ := h
    obtain ⟨a, ws, rfl, q, r⟩ := hx.sq so r
    refine ⟨a, ws, rfl, .inl ⟨q, fun l hl => ?_⟩⟩
    have g := Go.new (o := .tup ws) so hl
    exact k (.tup xs) S _ _ g ⟨l, ws, rfl, .inl upd_same, DVs.go g _ _ r⟩ h
  · exact h.elim
def dList : RCall := fun ds S Q => match ds with
  | [.tup xs] => ∀ p, S p = none → Q (.ref p) (sup S p (.lst xs))
  | [d] => ∃ xs, RdL S d xs ∧ ∀ p, S p = none → Q (.ref p) (sup S p (.lst xs))
  | _ => False
theorem cd_list : CallR X (.type "list") (lcl X.K dList) := by
  intro pins s σ H vs us Q I rv h
  obtain ⟨ds, S, R, dv, so, h, k⟩ := h
  refine call_list_of pins s σ H vs us Q I rv ?_
  unfold dList at h
  split at h
  · rename_i xs
    obtain ⟨v, rfl, a, ws, rfl, q, r⟩ := dvs1 dv
    exact ⟨a, ws, rfl, .inr q.sq, fun l hl => k (.ref l) _ _ _ (Go.newLst so hl r) rfl (h l (so.free hl))⟩
  · rename_i d _
    obtain ⟨v, rfl, r⟩ := dvs1 dv
    obtain ⟨xs, hx, h⟩ := h
    obtain ⟨a, ws, rfl, q, r⟩ := hx.sq so r
    exact ⟨a, ws, rfl, .inl q, fun l hl => k (.ref l) _ _ _ (Go.newLst so hl r) rfl (h l (so.free hl))⟩
  · exact h.elim
/-- sum, all, any of a list -/
def dSum : RCall := fun ds S Q => match ds with
  | [d] => ∃ ns : List Int, RdL S d (ns.map D.int) ∧ Q (.int ns.sum) S
  | _ => False
theorem cd_sum (hc : X.calm = true) : CallR X (.builtin "sum") (lcl X.K dSum) := by
  intro pins s σ H vs us Q I rv h
  obtain ⟨ds, S, R, dv, so, h, k⟩ := h
  refine cr_sum hc pins s σ H vs us Q I rv ?_
  unfold dSum at h
  split at h
  · rename_i d
    obtain ⟨v, rfl, r⟩ := dvs1 dv
    obtain ⟨ns, hx, h⟩ := h
    obtain ⟨a, ws, rfl, q, r⟩ := hx.sq so r
    rw [DVs.ints r] at q
    exact ⟨a, ns, rfl, q, k (.int ns.sum) S _ H (Go.refl so) rfl h⟩
  · exact h.elim
def dAll : RCall := fun ds S Q => match ds with
  | [d] => ∃ bs : List Bool, RdL S d (bs.map D.bl) ∧ Q (.bl (bs.all id)) S
  | _ => False
def dAny : RCall := fun ds S Q => match ds with
  | [d] => ∃ bs : List Bool, RdL S d (bs.map D.bl) ∧ Q (.bl (bs.any id)) S
  | _ => False
theorem cd_all (hc : X.calm = true) : CallR X (.builtin "all") (lcl X.K dAll) := by
  intro pins s σ H vs us Q I rv h
  obtain ⟨ds, S, R, dv, so, h, k⟩ := h
  refine cr_all hc pins s σ H vs us Q I rv ?_
  unfold dAll at h
  split at h
  · rename_i d
    obtain ⟨v, rfl, r⟩ := dvs1 dv
    obtain ⟨ns, hx, h⟩ := h
    obtain ⟨a, ws, rfl, q, r⟩ := hx.sq so r
    rw [DVs.bls r] at q
    exact ⟨a, ns, rfl, q, k (.bl (ns.all id)) S _ H (Go.refl so) rfl h⟩
  · exact h.elim
theorem cd_any (hc : X.calm = true) : CallR X (.builtin "any") (lcl X.K dAny) := by
  intro pins s σ H vs us Q I rv h
  obtain ⟨ds, S, R, dv, so, h, k⟩ := h
  refine cr_any hc pins s σ H vs us Q I rv ?_
  unfold dAny at h
  split at h
  · rename_i d
    obtain ⟨v, rfl, r⟩ := dvs1 dv
    obtain ⟨ns, hx, h⟩ := h
    obtain ⟨a, ws, rfl, q, r⟩ := hx.sq so r
    rw [DVs.bls r] at q
    exact ⟨a, ns, rfl, q, k (.bl (ns.any id)) S _ H (Go.refl so) rfl h⟩
  · exact h.elim

/-! ### isinstance -/
inductive Ty where
  | int | bool | none | str | tup | lst | dct
  deriving DecidableEq
def Ty.nm : Ty → String
  | .int => "int" | .bool => "bool" | .none => "NoneType" | .str => "str" | .tup => "tuple" | .lst => "list" | .dct => "dict"
def isi : Ty → Ty → Bool
  | .int, .int => true | .bool, .bool => true | .bool, .int => true | .none, .none => true | .str, .str => true | .tup, .tup => true | .lst, .lst => true | .dct, .dct => true
  | _, _ => false
theorem isi_kit : ∀ t c : Ty, kitB t.nm c.nm = some (isi t c) := by
  intro t c
  cases t <;> cases c <;> decide +kernel
def dTy : D → Sto → (Ty → Prop) → Prop
  | .non, _, k => k .none
  | .bl _, _, k => k .bool
  | .int _, _, k => k .int
  | .str _, _, k => k .str
  | .tup _, _, k => k .tup
  | .fro _, _, k => k .lst
  | .ref a, S, k => (∃ xs, S a = some (.lst xs) ∧ k .lst) ∨ ∃ kvs, S a = some (.dK kvs) ∧ k .dct
  | _, _, _ => False
theorem dTy_of {K : PySem.W.Frag} {H : Hp} {S : Sto} (so : SOk K H S) : ∀ {d : D} {v : V} {k : Ty → Prop}, DV K H d v → dTy d S k → ∃ t : Ty, TyX K H v (.type t.nm) ∧ k t
  | .non, _, _, h, q => by cases (show _ = V.non from h); exact ⟨.none, .base .non, q⟩
  | .bl b, _, _, h, q => by cases (show _ = V.bl b from h); exact ⟨.bool, .base (.bl b), q⟩
  | .int b, _, _, h, q => by cases (show _ = V.int b from h); exact ⟨.int, .base (.int b), q⟩
  | .str b, _, _, h, q => by cases (show _ = V.str b from h); exact ⟨.str, .base (.str b), q⟩
  | .tup b, _, _, h, q => by
    obtain ⟨a, vs, rfl, e, _⟩ := h
    rcases e with e | ⟨o, its, n, e, c, _⟩
    · exact ⟨.tup, .base (.tup e), q⟩
    · exact ⟨.tup, .kTuple e c, q⟩
  | .fro b, _, _, h, q => by
    obtain ⟨a, vs, rfl, e, _⟩ := h
    rcases e with ⟨o, e⟩ | ⟨o, its, n, e, c, _⟩
    · exact ⟨.lst, .base (.frz e), q⟩
    · exact ⟨.lst, .kList e c, q⟩
  | .ref a, _, _, h, q => by
    cases (show _ = V.ref a from h)
    rcases q with ⟨xs, e, q⟩ | ⟨xs, e, q⟩
    · obtain ⟨vs, e1, _⟩ := so a _ e
      exact ⟨.lst, .base (.lst e1), q⟩
    · obtain ⟨vs, e1, _⟩ := so a _ e
      exact ⟨.dct, .base (.dK e1), q⟩
  | .ty _, _, _, _, q => q.elim
  | .exc _ _, _, _, _, q => q.elim
/-- a class's name as a value -/
theorem pd_ty {x : Str} {c : Ty} {pos : Pos} (hm : X.mg x = none) (hv : bootBuiltins x = some (.type c.nm)) (hg : Gl X x := by rfl) (hn : x ≠ "__name__" := by decide) (hd : (x == ("__debug__" : Str)) = false := by decide) : PD X y (.Name x pos) (rC (.ty c.nm)) :=
  pd_c (pe_bltn (v := .ty c.nm) hg hm hv rfl hn hd) fun _ => rfl
def dIsi : RCall := fun ds S Q => match ds with
  | [d, .ty n] => ∀ c : Ty, c.nm = n → dTy d S fun t => Q (.bl (isi t c)) S
  | [d, .tup [.ty n, .ty m]] => ∀ c c' : Ty, c.nm = n → c'.nm = m → dTy d S fun t => Q (.bl (isi t c || isi t c')) S
  | _ => False
end
end DL
set_option Elab.async false
set_option linter.all false
set_option maxRecDepth 100000
set_option maxHeartbeats 4000000
namespace DL
open PySem PySem.Spec PyProof.Rows L2
section
variable {X : Cx} {y : DXw} {pos p p2 apos : Pos} {e a b o : Expr} {es : List Expr} {x : Str} {ta : RA} {te ti to : RE}

/-! ### isinstance -/
def rIs1 (c : Ty) (te : RE) : RE := fun ρ S Q => te ρ S fun d S1 => dTy d S1 fun t => Q (.bl (isi t c)) S1
def rIs2 (c c' : Ty) (te : RE) : RE := fun ρ S Q => te ρ S fun d S1 => dTy d S1 fun t => Q (.bl (isi t c || isi t c')) S1
theorem pd_isi1 (c : Ty) {cn : Str} (he : PD X y e te) (hm : X.mg "isinstance" = none) (hmc : X.mg cn = none) (hvc : bootBuiltins cn = some (.type c.nm) := by decide +kernel) (hg : Gl X "isinstance" := by rfl) (hgc : Gl X cn := by rfl) (hn : cn ≠ "__name__" := by decide) (hdb : (cn == ("__debug__" : Str)) = false := by decide)
    (h1 : starEach [e, .Name cn p2] X.env = (false, eval e X.env) :: starEach [.Name cn p2] X.env := by rfl) (h2 : starEach [.Name cn p2] X.env = (false, eval (.Name cn p2) X.env) :: starEach [] X.env := by rfl) (hpl : (backTo pos (starEach [.Name cn p2] X.env)).any (·.1) = false := by rfl) :
    PD X y (.Call (.Name "isinstance" p) [e, .Name cn p2] [] pos) (rIs1 c te) := by
  refine PD.of (pe_callB call_isi hg hm (by decide +kernel) (pa_cons he (pa_cons (pe_bltn (v := .ty c.nm) hgc hmc hvc rfl hn hdb) pa_nil h2) h1) (by decide) (by decide) h1 hpl) fun σ H Q h => ?_
  obtain ⟨ρ, S, R, sr, so, h, k⟩ := h
  refine ⟨ρ, S, _, sr, so, h, fun d S1 v H1 g dv hd => ?_⟩
  obtain ⟨t, ht, q⟩ := dTy_of g.ok dv hd
  exact ⟨v, .ty c.nm, .type t.nm, .type c.nm, _, rfl, .ty _, ht, kit_ty (isi_kit t c), k (.bl (isi t c)) S1 _ H1 g rfl q⟩
theorem pd_isi2 (c c' : Ty) {cn cn' : Str} {kk : Nat} {p3 p4 : Pos} (he : PD X y e te) (hm : X.mg "isinstance" = none) (hmc : X.mg cn = none) (hmc' : X.mg cn' = none) (hvc : bootBuiltins cn = some (.type c.nm) := by decide +kernel) (hvc' : bootBuiltins cn' = some (.type c'.nm) := by decide +kernel) (hg : Gl X "isinstance" := by rfl) (hgc : Gl X cn := by rfl) (hgc' : Gl X cn' := by rfl) (hn : cn ≠ "__name__" := by decide) (hdb : (cn == ("__debug__" : Str)) = false := by decide) (hn' : cn' ≠ "__name__" := by decide) (hdb' : (cn' == ("__debug__" : Str)) = false := by decide)
    (h1 : starEach [e, .Tuple [.Name cn p2, .Name cn' p3] kk p4] X.env = (false, eval e X.env) :: starEach [.Tuple [.Name cn p2, .Name cn' p3] kk p4] X.env := by rfl) (h2 : starEach [.Tuple [.Name cn p2, .Name cn' p3] kk p4] X.env = (false, eval (.Tuple [.Name cn p2, .Name cn' p3] kk p4) X.env) :: starEach [] X.env := by rfl) (hpl : (backTo pos (starEach [.Tuple [.Name cn p2, .Name cn' p3] kk p4] X.env)).any (·.1) = false := by rfl)
    (h3 : starEach [.Name cn p2, .Name cn' p3] X.env = (false, eval (.Name cn p2) X.env) :: starEach [.Name cn' p3] X.env := by rfl) (h4 : starEach [.Name cn' p3] X.env = (false, eval (.Name cn' p3) X.env) :: starEach [] X.env := by rfl) :
    PD X y (.Call (.Name "isinstance" p) [e, .Tuple [.Name cn p2, .Name cn' p3] kk p4] [] pos) (rIs2 c c' te) := by
  refine PD.of (pe_callB call_isiT hg hm (by decide +kernel) (pa_cons he (pa_cons (pe_tup (pa_cons (pe_bltn (v := .ty c.nm) hgc hmc hvc rfl hn hdb) (pa_cons (pe_bltn (v := .ty c'.nm) hgc' hmc' hvc' rfl hn' hdb') pa_nil h4) h3)) pa_nil h2) h1) (by decide) (by decide) h1 hpl) fun σ H Q h => ?_
  obtain ⟨ρ, S, R, sr, so, h, k⟩ := h
  refine ⟨ρ, S, _, sr, so, h, fun d S1 v H1 g dv hd => ?_⟩
  refine ⟨by show 2 ≤ sizeLine; decide, fun q hq => ?_⟩
  have g2 := Go.new (K := X.K) (o := .tup [.ty c.nm, .ty c'.nm]) g.ok hq
  obtain ⟨t, ht, hr⟩ := dTy_of g2.ok (DV.go g2 _ _ dv) hd
  refine ⟨v, q, [.ty c.nm, .ty c'.nm], .type t.nm, [.type c.nm, .type c'.nm], isi t c || isi t c', rfl, upd_same, .cons (.ty _) (.cons (.ty _) .nil), ht, ?_, k (.bl (isi t c || isi t c')) S1 _ _ (g.trans g2) rfl hr⟩
  refine kitAny_cons (kit_ty (isi_kit t c)) (fun z => ?_) fun z => by rw [z]; rfl
  rw [z, Bool.false_or]
  exact kitAny_cons (kit_ty (isi_kit t c')) (fun z => by rw [z]; exact kitAny_nil) fun z => z

/-! ### items -/
def dIx : ROp
  | .tup xs, .int i, S, R => ∃ d, atI xs i = some d ∧ R d S
  | .str x, .int i, S, R => ∃ c, x.length ≤ sizeLine ∧ atI x.cps.toList i = some c ∧ R (.str ⟨#[c]⟩) S
  | d, .int i, S, R => ∃ xs v, RdL S d xs ∧ atI xs i = some v ∧ R v S
  | _, _, _, _ => False
theorem atI_dv {K : PySem.W.Frag} {H : Hp} {xs : List D} {vs : List V} {i : Int} {d : D} (r : DVs K H xs vs) (h : atI xs i = some d) : ∃ v, atI vs i = some v ∧ DV K H d v := by
  unfold atI at h ⊢
  rw [← r.length]
  cases e : ixN xs.length i with
  | none => rw [e] at h; cases h
  | some j =>
    rw [e] at h
    exact r.get h
theorem dIx_case {x y : D} {S : Sto} {R : D → Sto → Prop} (h : dIx x y S R) : ∃ i, y = .int i ∧ ((∃ xs d, x = .tup xs ∧ atI xs i = some d ∧ R d S) ∨ (∃ z c, x = .str z ∧ z.length ≤ sizeLine ∧ atI z.cps.toList i = some c ∧ R (.str ⟨#[c]⟩) S) ∨ ∃ xs v, RdL S x xs ∧ atI xs i = some v ∧ R v S) := by
  cases y with
  | int i =>
    refine ⟨i, rfl, ?_⟩
    cases x with
    | tup xs => obtain ⟨d, h1, h2⟩ := (show ∃ d, atI xs i = some d ∧ R d S from h); exact .inl ⟨xs, d, rfl, h1, h2⟩
    | str z => obtain ⟨c, h1, h2, h3⟩ := (show ∃ c, z.length ≤ sizeLine ∧ atI z.cps.toList i = some c ∧ R (.str ⟨#[c]⟩) S from h); exact .inr (.inl ⟨z, c, rfl, h1, h2, h3⟩)
    | _ => exact .inr (.inr h)
  | _ => cases x <;> exact False.elim h
theorem id_seq : IxR X (lop X.K dIx) := by
  intro value slice pins s σ H v w vv ww Q I rv rw' h hs
  obtain ⟨x, z, S, R, dx, dz, so, h, k⟩ := h
  obtain ⟨i, rfl, hc⟩ := dIx_case h
  cases (show w = V.int i from dz)
  refine ix_seq value slice pins s σ H _ _ vv ww Q I rv rw' ?_ hs
  rcases hc with ⟨xs, d, rfl, e, h⟩ | ⟨z, c, rfl, hl, e, h⟩ | ⟨xs, d, hx, e, h⟩
  · obtain ⟨a, vs, rfl, q, r⟩ := dx
    obtain ⟨u, e2, r2⟩ := atI_dv r e
    exact .inr (.inl ⟨a, vs, i, u, rfl, rfl, q.sq, e2, k d S _ H (Go.refl so) r2 h⟩)
  · cases (show v = V.str z from dx)
    exact .inr (.inr ⟨z, i, c, rfl, rfl, hl, e, k (.str ⟨#[c]⟩) S _ H (Go.refl so) rfl h⟩)
  · obtain ⟨a, vs, rfl, q, r⟩ := hx.sq so dx
    obtain ⟨u, e2, r2⟩ := atI_dv r e
    exact .inl ⟨a, vs, i, u, rfl, rfl, q, e2, k d S _ H (Go.refl so) r2 h⟩
theorem pd_ix (ha : PD X y a te) (hb : PD X y b ti) (hs : PlainIx b := by exact fun _ _ => rfl) : PD X y (.Subscript a b pos) (rBin dIx te ti) :=
  PD.of (pe_ix id_seq ha hb hs) fun _ _ _ h => bin_of (fun _ _ _ _ z => z) h
/-- xs[i] = v -/
def dSet : RSet := fun o i v S R => match o, i with
  | .ref a, .int k => ∃ xs j, S a = some (.lst xs) ∧ ixN xs.length k = some j ∧ R (sup S a (.lst (xs.set j v)))
  | _, _ => False
theorem sd_list : PSet X (lset X.K dSet) := by
  intro pins s σ H o i v ov iv u Q I ro ri rv h
  obtain ⟨x, k, d, S, R, dx, dk, dv, so, h, c⟩ := h
  refine set_list pins s σ H o i v ov iv u Q I ro ri rv ?_
  cases x <;> cases k <;> first | exact False.elim h | skip
  case ref.int a j =>
    cases (show o = V.ref a from dx); cases (show i = V.int j from dk)
    obtain ⟨xs, m, e, hj, h⟩ := h
    obtain ⟨vs, e1, r⟩ := so a _ e
    exact ⟨a, vs, j, m, rfl, rfl, e1, by rw [← r.length]; exact hj, c _ _ (Go.setLst so e (r.set m dv)) h⟩

/-! ### slices -/
abbrev RO := Ro → Sto → (Option Int → Sto → Prop) → Prop
def lO (K : PySem.W.Frag) (y : DXw) (t : RO) : TO := fun σ H Q => ∃ ρ S R, SRv K σ H ρ ∧ SX K y H S ∧ t ρ S R ∧ ∀ i S' H', Go K H S H' S' → R i S' → Q i H'
def PDO (X : Cx) (y : DXw) (e : Option Expr) (t : RO) : Prop := PO X e (lO X.K y t)
def rNoP : RO := fun _ S Q => Q none S
def rPart (t : RE) : RO := fun ρ S Q => t ρ S fun d S1 => match d with
  | .int i => Q (some i) S1
  | _ => False
theorem pdo_none : PDO X y none rNoP := ⟨fun pins s σ H Q I h => by
  obtain ⟨ρ, S, R, sr, so, h, k⟩ := h
  exact po_none.run pins s σ H Q I (k none S H (Go.refl so.so) h)⟩
theorem pdo_some (h : PD X y e te) : PDO X y (some e) (rPart te) := ⟨fun pins s σ H Q I q => by
  refine (po_some h).run pins s σ H Q I ?_
  obtain ⟨ρ, S, R, sr, so, h, k⟩ := q
  refine ⟨ρ, S, _, sr, so, h, fun d S' v H' g dv hd => ?_⟩
  cases d with
  | int i => exact ⟨i, dv, k (some i) S' H' g hd⟩
  | _ => exact False.elim hd⟩
def cutD (xs : List D) (lo hi : Option Int) : List D := (xs.drop (HT.sIx xs.length 0 lo)).take (HT.sIx xs.length xs.length hi - HT.sIx xs.length 0 lo)
theorem cutD_dv {K : PySem.W.Frag} {H : Hp} {xs : List D} {vs : List V} (r : DVs K H xs vs) (lo hi : Option Int) : DVs K H (cutD xs lo hi) (cutV vs lo hi) := by
  unfold cutD cutV
  rw [← r.length]
  exact (r.drop _).take _
abbrev RSl := D → Option Int → Option Int → Sto → (D → Sto → Prop) → Prop
def dSl : RSl := fun d lo hi S R => match d with
  | .tup xs => ¬ (HT.sIx xs.length 0 lo = 0 ∧ HT.sIx xs.length xs.length hi = xs.length) ∧ R (.tup (cutD xs lo hi)) S
  | _ => ∃ xs, RdL S d xs ∧ ∀ p, S p = none → R (.ref p) (sup S p (.lst (cutD xs lo hi)))
def lsl (K : PySem.W.Frag) (q : RSl) : V → Option Int → Option Int → Hp → VK → Prop := fun v lo hi H Q => ∃ d S R, DV K H d v ∧ SOk K H S ∧ q d lo hi S R ∧ ∀ d S' z H', Go K H S H' S' → DV K H' d z → R d S' → Q z H'
theorem sd_sl : SlR X (lsl X.K dSl) := by
  have lst : ∀ {d : D} {lo hi : Option Int} {v : V} {S : Sto} {H : Hp} {R : D → Sto → Prop} {Q : VK}, SOk X.K H S → DV X.K H d v → (∃ xs, RdL S d xs ∧ ∀ p, S p = none → R (.ref p) (sup S p (.lst (cutD xs lo hi)))) → (∀ d S' z H', Go X.K H S H' S' → DV X.K H' d z → R d S' → Q z H') → rSlL X.K v lo hi H Q := fun so dv ⟨xs, hx, h⟩ k => by
    obtain ⟨a, vs, rfl, q, r⟩ := hx.sq so dv
    exact ⟨a, vs, rfl, q, fun p hp => k (.ref p) _ _ _ (Go.newLst so hp (cutD_dv r _ _)) rfl (h p (so.free hp))⟩
  intro pins s σ H x v vl vu lo hi sl Q I rx hs pl pu h
  obtain ⟨d, S, R, dv, so, h, k⟩ := h
  refine ((sl_tup (X := X)).or (sl_list (X := X))) pins s σ H x v vl vu lo hi sl Q I rx hs pl pu ?_
  cases d with
  | tup xs =>
    obtain ⟨a, vs, rfl, q, r⟩ := dv
    refine .inl ⟨a, vs, rfl, q.sq, by rw [← r.length]; exact h.1, fun p hp => ?_⟩
    have g := Go.new (K := X.K) (o := .tup (cutV vs lo hi)) so hp
    exact k (.tup (cutD xs lo hi)) S _ _ g ⟨p, _, rfl, .inl upd_same, DVs.go g _ _ (cutD_dv r _ _)⟩ h.2
  | _ => exact .inr (lst so dv h k)
def rSl (te : RE) (tl th : RO) : RE := fun ρ S Q => te ρ S fun d S1 => tl ρ S1 fun l S2 => th ρ S2 fun u S3 => dSl d l u S3 Q
theorem pd_slice {lo hi : Option Expr} {tl th : RO} (he : PD X y e te) (hl : PDO X y lo tl) (hu : PDO X y hi th) : PD X y (.Subscript e (.Slice lo hi none p2) pos) (rSl te tl th) := by
  refine PD.of (pe_slice sd_sl he hl hu) fun σ H Q h => ?_
  obtain ⟨ρ, S, R, sr, so, h, k⟩ := h
  refine ⟨ρ, S, _, sr, so, h, fun d S1 v H1 g1 dv h1 => ⟨ρ, S1, _, sr.go g1, so.go g1, h1, fun l S2 H2 g2 h2 => ⟨ρ, S2, _, (sr.go g1).go g2, (so.go g1).go g2, h2, fun u S3 H3 g3 h3 => ?_⟩⟩⟩
  exact ⟨d, S3, R, DV.go (g2.trans g3) _ _ dv, g3.ok, h3, fun d S' z H' g dz hz => k d S' z H' (g1.trans (g2.trans (g3.trans g))) dz hz⟩

/-! ### methods of lists -/
abbrev RMt := D → List D → Sto → (D → Sto → Prop) → Prop
def isL : D → Sto → Prop
  | .ref a, S => ∃ xs, S a = some (.lst xs)
  | _, _ => False
def lmt (K : PySem.W.Frag) (q : RMt) : V → List V → Hp → VK → Prop := fun v vs H Q => ∃ d ds S R, DV K H d v ∧ DVs K H ds vs ∧ SOk K H S ∧ q d ds S R ∧ ∀ d S' z H', Go K H S H' S' → DV K H' d z → R d S' → Q z H'
def rBM (q : RMt) (to : RE) (ta : RA) : RE := fun ρ S Q => to ρ S fun o S1 => isL o S1 ∧ ta ρ S1 fun ds S2 => q o ds S2 Q
def rBM0 (q : RMt) (to : RE) : RE := fun ρ S Q => to ρ S fun o S1 => isL o S1 ∧ q o [] S1 Q
theorem isL_ty {K : PySem.W.Frag} {H : Hp} {S : Sto} (so : SOk K H S) {d : D} {v : V} (dv : DV K H d v) (h : isL d S) : tyV K "list" v H := by
  cases d with
  | ref a =>
    cases (show v = V.ref a from dv)
    obtain ⟨xs, e⟩ := h
    obtain ⟨vs, e1, _⟩ := so a _ e
    exact .inl ⟨rfl, vs, SqL.of e1⟩
  | _ => exact False.elim h
variable {name : Str} {id : String} {cpos : Pos}
theorem pd_lm {q : RMt} (slot : Slot "list" name id) (hty : typeOf (.builtin id) = pure (.type "method_descriptor")) (hm : MtR X id (lmt X.K q)) (ho : PD X y o to) (ha : PDA X y (e :: es) ta)
    (hbase : attributeBase o name X.env (eval o X.env) = eval o X.env := by rfl)
    (hfew : ((backTo cpos (starEach (e :: es) X.env)).all (fun x => !x.1) && (backToKw cpos (keywordEach [] X.env)).all (fun x => x.1.isSome)
      && decide ((e :: es).length + ([] : List Keyword).length + (if ([] : List Keyword).isEmpty then 0 else 1) < 30)) = true := by rfl)
    (hline : (apos.endLine == cpos.line) = true := by rfl) (hs : starEach (e :: es) X.env = (false, eval e X.env) :: starEach es X.env := by rfl) (hplain : (backTo cpos (starEach es X.env)).any (·.1) = false := by rfl) :
    PD X y (.Call (.Attribute o name apos) (e :: es) [] cpos) (rBM q to ta) :=
  PD.of (pe_bm PySem.F.plainAttrs_list slot hty hm ho ha hbase hfew hline hs hplain) fun σ H Q h => by
    obtain ⟨ρ, S, R, sr, so, h, k⟩ := h
    refine ⟨ρ, S, _, sr, so, h, fun d S1 v H1 g1 dv h1 => ⟨isL_ty g1.ok dv h1.1, ρ, S1, _, sr.go g1, so.go g1, h1.2, fun ds S2 vs H2 g2 dvs hn h2 => ?_⟩⟩
    exact ⟨d, ds, S2, R, DV.go g2 _ _ dv, dvs, g2.ok, h2, fun d S' z H' g dz hz => k d S' z H' (g1.trans (g2.trans g)) dz hz⟩
theorem pd_lm0 {q : RMt} (slot : Slot "list" name id) (hty : typeOf (.builtin id) = pure (.type "method_descriptor")) (hm : MtR X id (lmt X.K q)) (ho : PD X y o to)
    (hbase : attributeBase o name X.env (eval o X.env) = eval o X.env := by rfl) (hline : (apos.endLine == cpos.line) = true := by rfl) : PD X y (.Call (.Attribute o name apos) [] [] cpos) (rBM0 q to) :=
  PD.of (pe_bm0 PySem.F.plainAttrs_list slot hty hm ho hbase hline) fun σ H Q h => by
    obtain ⟨ρ, S, R, sr, so, h, k⟩ := h
    refine ⟨ρ, S, _, sr, so, h, fun d S1 v H1 g1 dv h1 => ⟨isL_ty g1.ok dv h1.1, ?_⟩⟩
    exact ⟨d, [], S1, R, dv, DVs.nil, g1.ok, h1.2, fun d S' z H' g dz hz => k d S' z H' (g1.trans g) dz hz⟩
def dAppend : RMt := fun o ds S R => match o, ds with
  | .ref a, [d] => ∃ xs, S a = some (.lst xs) ∧ xs.length < sizeLine ∧ R .non (sup S a (.lst (xs ++ [d])))
  | _, _ => False
theorem md_append : MtR X "list.append" (lmt X.K dAppend) := by
  intro pins s σ H v vs vv us Q I rv rs h
  obtain ⟨o, ds, S, R, dv, dvs, so, h, k⟩ := h
  refine mt_append pins s σ H v vs vv us Q I rv rs ?_
  unfold dAppend at h
  split at h
  · rename_i a d
    cases (show v = V.ref a from dv)
    obtain ⟨w, rfl, dw⟩ := dvs1 dvs
    obtain ⟨xs, e, hl, h⟩ := h
    obtain ⟨ws, e1, r⟩ := so a _ e
    exact ⟨a, ws, w, rfl, rfl, e1, by rw [← r.length]; exact hl, k .non _ _ _ (Go.setLst so e (r.append (DVs.cons dw DVs.nil))) rfl h⟩
  · exact h.elim
def dInsert : RMt := fun o ds S R => match o, ds with
  | .ref a, [.int i, d] => ∃ xs, S a = some (.lst xs) ∧ xs.length < sizeLine ∧ 0 ≤ i ∧ i < 2 ^ 63 ∧ R .non (sup S a (.lst (xs.take i.toNat ++ [d] ++ xs.drop i.toNat)))
  | _, _ => False
theorem md_insert : MtR X "list.insert" (lmt X.K dInsert) := by
  intro pins s σ H v vs vv us Q I rv rs h
  obtain ⟨o, ds, S, R, dv, dvs, so, h, k⟩ := h
  refine mt_insert pins s σ H v vs vv us Q I rv rs ?_
  unfold dInsert at h
  split at h
  · rename_i a i d
    cases (show v = V.ref a from dv)
    obtain ⟨w, w2, rfl, dw, dw2⟩ := dvs2 dvs
    cases (show w = V.int i from dw)
    obtain ⟨xs, e, hl, h0, h1, h⟩ := h
    obtain ⟨ws, e1, r⟩ := so a _ e
    exact ⟨a, ws, i, w2, rfl, rfl, e1, by rw [← r.length]; exact hl, h0, h1, k .non _ _ _ (Go.setLst so e (((r.take _).append (DVs.cons dw2 DVs.nil)).append (r.drop _))) rfl h⟩
  · exact h.elim
def dExtend : RMt := fun o ds S R => match o, ds with
  | .ref a, [.ref b] => ∃ xs zs, S a = some (.lst xs) ∧ S b = some (.lst zs) ∧ xs.length + zs.length ≤ sizeLine ∧ R .non (sup S a (.lst (xs ++ zs)))
  | _, _ => False
theorem md_extend : MtR X "list.extend" (lmt X.K dExtend) := by
  intro pins s σ H v vs vv us Q I rv rs h
  obtain ⟨o, ds, S, R, dv, dvs, so, h, k⟩ := h
  refine mt_extend pins s σ H v vs vv us Q I rv rs ?_
  unfold dExtend at h
  split at h
  · rename_i a b
    cases (show v = V.ref a from dv)
    obtain ⟨w, rfl, dw⟩ := dvs1 dvs
    cases (show w = V.ref b from dw)
    obtain ⟨xs, zs, e, e', hl, h⟩ := h
    obtain ⟨ws, e1, r⟩ := so a _ e
    obtain ⟨ws', e1', r'⟩ := so b _ e'
    exact ⟨a, b, ws, ws', rfl, rfl, e1, e1', by rw [← r.length, ← r'.length]; exact hl, k .non _ _ _ (Go.setLst so e (r.append r')) rfl h⟩
  · exact h.elim
end
end DL
set_option Elab.async false
set_option linter.all false
set_option maxRecDepth 100000
set_option maxHeartbeats 4000000
namespace DL
open PySem PySem.Spec PyProof.Rows L2
section
variable {X : Cx} {y : DXw} {pos p p2 pos' apos : Pos} {e a b o i value : Expr} {es : List Expr} {x : Str} {ta : RA} {te ti to td tv : RE}

/-! ### flat values in lists and tuples -/
def fl : D → V
  | .non => .non | .bl b => .bl b | .int i => .int i | .str x => .str x | _ => .ref 0
def fb : D → Bool
  | .non => true | .bl _ => true | .int _ => true | .str _ => true | _ => false
theorem fl_of {K : PySem.W.Frag} {H : Hp} {d : D} {v : V} (h : fb d = true) (dv : DV K H d v) : v = fl d ∧ flatV v = true := by
  cases d with
  | non => cases (show v = V.non from dv); exact ⟨rfl, rfl⟩
  | bl b => cases (show v = V.bl b from dv); exact ⟨rfl, rfl⟩
  | int b => cases (show v = V.int b from dv); exact ⟨rfl, rfl⟩
  | str b => cases (show v = V.str b from dv); exact ⟨rfl, rfl⟩
  | _ => cases h
theorem fls_of {K : PySem.W.Frag} {H : Hp} : ∀ {ds : List D} {vs : List V}, ds.all fb = true → DVs K H ds vs → vs = ds.map fl ∧ vs.all flatV = true
  | [], _, _, h => by cases (show _ = [] from h); exact ⟨rfl, rfl⟩
  | d :: ds, _, f, h => by
    obtain ⟨v, ws, rfl, r, q⟩ := h
    rw [List.all_cons, Bool.and_eq_true] at f
    obtain ⟨e1, f1⟩ := fl_of f.1 r
    obtain ⟨e2, f2⟩ := fls_of f.2 q
    exact ⟨by rw [e1, e2, List.map_cons], by rw [List.all_cons, f1, f2]; rfl⟩
def inD (x : D) (xs : List D) : Bool := inV (fl x) (xs.map fl)
def dIn (n : Bool) : ROp := fun x c S R => match c with
  | .tup xs => fb x = true ∧ xs.all fb = true ∧ R (.bl (if n then !inD x xs else inD x xs)) S
  | _ => ∃ xs, RdL S c xs ∧ fb x = true ∧ xs.all fb = true ∧ R (.bl (if n then !inD x xs else inD x xs)) S
theorem dIn_of {n : Bool} {x c : D} {S : Sto} {R : D → Sto → Prop} {H : Hp} {v w : V} {Q : VK} (so : SOk X.K H S) (dx : DV X.K H x v) (dc : DV X.K H c w) (h : dIn n x c S R) (k : ∀ d S' z H', Go X.K H S H' S' → DV X.K H' d z → R d S' → Q z H') : rIn X.K n v w H Q := by
  have fin : ∀ {a : Addr} {xs : List D} {vs : List V}, w = .ref a → (SqL X.K H a vs ∨ SqT X.K H a vs) → DVs X.K H xs vs → fb x = true → xs.all fb = true → R (.bl (if n then !inD x xs else inD x xs)) S → rIn X.K n v w H Q := fun {a xs vs} e q r f1 f2 h => by
    obtain ⟨e1, g1⟩ := fl_of f1 dx
    obtain ⟨e2, g2⟩ := fls_of f2 r
    refine ⟨a, vs, e, q, g1, g2, ?_⟩
    rw [e1, e2]
    exact k (.bl (if n then !inD x xs else inD x xs)) S _ H (Go.refl so) rfl h
  cases c with
  | tup xs =>
    obtain ⟨a, vs, e, q, r⟩ := dc
    exact fin e (.inr q.sq) r h.1 h.2.1 h.2.2
  | _ =>
    obtain ⟨xs, hx, f1, f2, h⟩ := h
    obtain ⟨a, vs, e, q, r⟩ := hx.sq so dc
    exact fin e (.inl q) r f1 f2 h
theorem od_in : OpR X (compareOp .In) (lop X.K (dIn false)) := by
  intro pins s σ H v w vv ww Q I rv rw' h
  obtain ⟨x, y, S, R, dx, dy, so, h, k⟩ := h
  exact op_in_seq pins s σ H v w vv ww Q I rv rw' (dIn_of so dx dy h k)
theorem od_notin : OpR X (compareOp .NotIn) (lop X.K (dIn true)) := by
  intro pins s σ H v w vv ww Q I rv rw' h
  obtain ⟨x, y, S, R, dx, dy, so, h, k⟩ := h
  exact op_notIn_seq pins s σ H v w vv ww Q I rv rw' (dIn_of so dx dy h k)

/-! ### dicts by ints and texts -/
def dkey : Key → D
  | .inl i => .int i
  | .inr x => .str x
def keyD : D → Option Key
  | .int i => some (.inl i)
  | .str x => some (.inr x)
  | _ => none
theorem keyD_v {K : PySem.W.Frag} {H : Hp} {d : D} {v : V} {k : Key} (h : keyD d = some k) (dv : DV K H d v) : v = kV k := by
  cases d with
  | int i => cases h; exact dv
  | str i => cases h; exact dv
  | _ => cases h
def dval (kvs : List (Key × D)) (k : Key) : Option D := (kvs.find? fun kv => decide (kv.1 = k)).map (·.2)
def dput (kvs : List (Key × D)) (k : Key) (v : D) : List (Key × D) := if kvs.any (fun kv => decide (kv.1 = k)) then kvs.map (fun kv => if kv.1 = k then (kv.1, v) else kv) else kvs ++ [(k, v)]
theorem DKs.val {K : PySem.W.Frag} {H : Hp} {ds : List (Key × D)} {vs : List (Key × V)} (h : DKs K H ds vs) (k : Key) : (dval ds k).isSome = (valV vs k).isSome ∧ ∀ d, dval ds k = some d → ∃ v, valV vs k = some v ∧ DV K H d v := by
  induction h with
  | nil => exact ⟨rfl, fun _ e => by cases e⟩
  | @cons k' d v ds vs r _ ih =>
    by_cases e : k' = k
    · subst e
      refine ⟨by simp [dval, valV, List.find?_cons], fun d' h => ⟨v, by simp [valV, List.find?_cons], ?_⟩⟩
      have : d = d' := by simpa [dval, List.find?_cons] using h
      rw [← this]; exact r
    · have e1 : dval ((k', d) :: ds) k = dval ds k := by simp [dval, List.find?_cons, e]
      have e2 : valV ((k', v) :: vs) k = valV vs k := valV_neg e
      rw [e1, e2]
      exact ih
theorem DKs.any {K : PySem.W.Frag} {H : Hp} {ds : List (Key × D)} {vs : List (Key × V)} (h : DKs K H ds vs) (k : Key) : (ds.any fun kv => decide (kv.1 = k)) = vs.any fun kv => decide (kv.1 = k) := by
  induction h with
  | nil => rfl
  | cons _ _ ih => rw [List.any_cons, List.any_cons, ih]
theorem DKs.append {K : PySem.W.Frag} {H : Hp} {ds : List (Key × D)} {vs : List (Key × V)} (h : DKs K H ds vs) {k : Key} {d : D} {v : V} (r : DV K H d v) : DKs K H (ds ++ [(k, d)]) (vs ++ [(k, v)]) := by
  induction h with
  | nil => exact .cons r .nil
  | cons q _ ih => exact .cons q ih
theorem DKs.put {K : PySem.W.Frag} {H : Hp} {ds : List (Key × D)} {vs : List (Key × V)} (h : DKs K H ds vs) (k : Key) {d : D} {v : V} (r : DV K H d v) : DKs K H (dput ds k d) (putK vs k v) := by
  have m : DKs K H (ds.map fun kv => if kv.1 = k then (kv.1, d) else kv) (vs.map fun kv => if kv.1 = k then (kv.1, v) else kv) := by
    induction h with
    | nil => exact .nil
    | @cons k' d' v' ds vs q _ ih =>
      rw [List.map_cons, List.map_cons]
      by_cases e : k' = k
      · rw [if_pos e, if_pos e]; exact .cons r ih
      · rw [if_neg e, if_neg e]; exact .cons q ih
  unfold dput putK
  rw [h.any k]
  split
  · exact m
  · exact h.append r
def rDNew : RE := fun _ S Q => ∀ p, S p = none → Q (.ref p) (sup S p (.dK []))
theorem pd_dnew : PD X y (.Dict [] [] pos) rDNew := by
  refine PD.of pe_dnewK fun σ H Q h => ?_
  obtain ⟨ρ, S, R, sr, so, h, k⟩ := h
  intro p hp
  exact k (.ref p) _ _ _ (Go.newDK so.so hp .nil) rfl (h p (so.so.free hp))
def isD (S : Sto) (o k : D) (f : Addr → List (Key × D) → Key → Prop) : Prop := match o with
  | .ref a => ∃ kvs key, S a = some (.dK kvs) ∧ keyD k = some key ∧ f a kvs key
  | _ => False
def rDGet (td ti : RE) : RE := fun ρ S Q => td ρ S fun o S1 => ti ρ S1 fun k S2 => isD S2 o k fun _ kvs key => ∃ d, dval kvs key = some d ∧ Q d S2
def rDIn (n : Bool) (ti td : RE) : RE := fun ρ S Q => ti ρ S fun k S1 => td ρ S1 fun o S2 => isD S2 o k fun _ kvs key => Q (.bl (if n then !(dval kvs key).isSome else (dval kvs key).isSome)) S2
theorem isD_of {K : PySem.W.Frag} {S : Sto} {H : Hp} {o k : D} {v w : V} {f : Addr → List (Key × D) → Key → Prop} (so : SOk K H S) (dv : DV K H o v) (dw : DV K H k w) (h : isD S o k f) : ∃ a kvs vs key, v = .ref a ∧ S a = some (.dK kvs) ∧ H a = some (.dK vs) ∧ DKs K H kvs vs ∧ w = kV key ∧ f a kvs key := by
  cases o with
  | ref a =>
    obtain ⟨kvs, key, e, ek, h⟩ := h
    obtain ⟨vs, e1, r⟩ := so a _ e
    exact ⟨a, kvs, vs, key, dv, e, e1, r, keyD_v ek dw, h⟩
  | _ => exact False.elim h
theorem pd_dget (hu : X.A.units + 1 < cLine) (ho : PD X y o td) (hi : PD X y i ti) (hs : NoSl i := by exact fun _ _ => rfl) : PD X y (.Subscript o i pos) (rDGet td ti) := by
  refine PD.of (pe_dget hu ho hi hs) fun σ H Q h => ?_
  obtain ⟨ρ, S, R, sr, so, h, k⟩ := h
  refine ⟨ρ, S, _, sr, so, h, fun x S1 v H1 g1 dv h1 => ⟨ρ, S1, _, sr.go g1, so.go g1, h1, fun z S2 w H2 g2 dw h2 => ?_⟩⟩
  obtain ⟨a, kvs, vs, key, rfl, _, e1, r, rfl, d, hd, h3⟩ := isD_of g2.ok (DV.go g2 _ _ dv) dw h2
  obtain ⟨u, hu, ru⟩ := (r.val key).2 d hd
  exact ⟨a, u, rfl, hu ▸ DGet.k e1, k d S2 u H2 (g1.trans g2) ru h3⟩
theorem din_read {n : Bool} {σ : L2.St} {H : Hp} {Q : VK} (h : lE X.K y (rDIn n ti td) σ H Q) : lE X.K y ti σ H fun w H1 => lE X.K y td σ H1 fun v H2 => ∃ a o, v = .ref a ∧ DGet H2 a w o ∧ Q (.bl (if n then !o.isSome else o.isSome)) H2 := by
  obtain ⟨ρ, S, R, sr, so, h, k⟩ := h
  refine ⟨ρ, S, _, sr, so, h, fun z S1 w H1 g1 dw h1 => ⟨ρ, S1, _, sr.go g1, so.go g1, h1, fun x S2 v H2 g2 dv h2 => ?_⟩⟩
  obtain ⟨a, kvs, vs, key, rfl, _, e1, r, rfl, h3⟩ := isD_of g2.ok dv (DV.go g2 _ _ dw) h2
  refine ⟨a, _, rfl, DGet.k e1, ?_⟩
  rw [← (r.val key).1]
  exact k (.bl (if n then !(dval kvs key).isSome else (dval kvs key).isSome)) S2 _ H2 (g1.trans g2) rfl h3
theorem pd_din (hu : X.A.units + 1 < cLine) (hi : PD X y i ti) (ho : PD X y o td) (hb : behindInMarks .In o = false := by rfl) : PD X y (.Compare i [.In] [o] pos) (rDIn false ti td) := PD.of (pe_cmp (pc_din hu hi ho) hb) fun _ _ _ h => din_read (n := false) h
theorem pd_dnotin (hu : X.A.units + 1 < cLine) (hi : PD X y i ti) (ho : PD X y o td) (hb : behindInMarks .NotIn o = false := by rfl) : PD X y (.Compare i [.NotIn] [o] pos) (rDIn true ti td) := PD.of (pe_cmp (pc_dnotin hu hi ho) hb) fun _ _ _ h => din_read (n := true) h
theorem pdt_din (hu : X.A.units + 1 < cLine) (hi : PD X y i ti) (ho : PD X y o td) (hb : behindInMarks .In o = false := by rfl) : PDT X y (.Compare i [.In] [o] pos) (rTst (rDIn false ti td)) := PDT.of (pt_cmp (pc_din hu hi ho) hb) fun _ _ _ h => tst_of (fun _ _ _ h => din_read (n := false) h) h
theorem pdt_dnotin (hu : X.A.units + 1 < cLine) (hi : PD X y i ti) (ho : PD X y o td) (hb : behindInMarks .NotIn o = false := by rfl) : PDT X y (.Compare i [.NotIn] [o] pos) (rTst (rDIn true ti td)) := PDT.of (pt_cmp (pc_dnotin hu hi ho) hb) fun _ _ _ h => tst_of (fun _ _ _ h => din_read (n := true) h) h
def rDPut (td ti tv : RE) : RS := fun E ρ S => tv ρ S fun d S1 => td ρ S1 fun o S2 => ti ρ S2 fun k S3 => isD S3 o k fun a kvs key => kvs.length < sizeLine ∧ E.nx ρ (sup S3 a (.dK (dput kvs key d)))
theorem pd_dput (hu : X.A.units + 1 < cLine) (ho : PD X y o td) (hi : PD X y i ti) (hv : PD X y value tv) (hs : swapsWith value (some (.Subscript o i pos')) pos.line X.env = pure false := by rfl) : PDS X y (.Assign [.Subscript o i pos'] value pos) (rDPut td ti tv) := by
  refine PDS.of (ps_dput hu ho hi hv hs) fun D σ H h => ?_
  obtain ⟨ρ, S, E, sr, so, h, eo⟩ := h
  refine ⟨ρ, S, _, sr, so, h, fun d S1 u H1 g1 du h1 => ⟨ρ, S1, _, sr.go g1, so.go g1, h1, fun x S2 v H2 g2 dv h2 => ⟨ρ, S2, _, (sr.go g1).go g2, (so.go g1).go g2, h2, fun z S3 w H3 g3 dw h3 => ?_⟩⟩⟩
  obtain ⟨a, kvs, vs, key, rfl, e0, e1, r, rfl, hl, h4⟩ := isD_of g3.ok (DV.go g3 _ _ dv) dw h3
  have gA := g1.trans (g2.trans g3)
  have g4 := Go.setDK g3.ok e0 (r.put key (DV.go (g2.trans g3) _ _ du))
  exact ⟨a, _, rfl, DPut.k e1 (by rw [← r.length]; exact hl), eo.nx ρ _ σ _ (gA.trans g4) ((sr.go gA).go g4) h4⟩

/-! ### tuple(range(..)) -/
def rRgT (ta : RA) : RE := fun ρ S Q => ta ρ S fun ds S1 => match ds with
  | [.int j] => j ≤ 16777216 ∧ Q (.tup (rgI 0 j.toNat)) S1
  | [.int i, .int j] => (0 ≤ i ∧ i ≤ 16777216 ∧ 0 ≤ j ∧ j ≤ 16777216) ∧ Q (.tup (rgI i (j - i).toNat)) S1
  | _ => False
theorem rgI_dv {K : PySem.W.Frag} {H : Hp} {i j : Int} : DVs K H (rgI i (j - i).toNat) (rgV i j) := by
  unfold rgI rgV
  generalize (List.range (j - i).toNat) = l
  induction l with
  | nil => exact DVs.nil
  | cons a l ih => exact DVs.cons rfl ih
theorem pd_tupRg1 {ti : RE} {p q : Pos} (hc : X.calm = true) (hm : X.mg "tuple" = none) (hm2 : X.mg "range" = none) (hi : PD X y a ti) (hg : Gl X "tuple" := by rfl) (hg2 : Gl X "range" := by rfl) (na : starEach [.Call (.Name "range" q) [a] [] p2] X.env = (false, eval (.Call (.Name "range" q) [a] [] p2) X.env) :: starEach [] X.env := by rfl)
    (nb : starEach [a] X.env = (false, eval a X.env) :: starEach [] X.env := by rfl) : PD X y (.Call (.Name "tuple" p) [.Call (.Name "range" q) [a] [] p2] [] pos) (fun ρ S Q => ti ρ S fun d S1 => match d with | .int j => (0 ≤ j ∧ j ≤ 16777216) ∧ Q (.tup (rgI 0 j.toNat)) S1 | _ => False) := by
  refine PD.of (pe_tupRg hc hg hm (prg_1 hg2 hm2 hi nb) na) fun σ H Q h => ?_
  obtain ⟨ρ, S, R, sr, so, h, k⟩ := h
  refine ⟨ρ, S, _, sr, so, h, fun d S1 v H1 g dv hd => ?_⟩
  cases d with
  | int j =>
    refine ⟨j, dv, RgOk.of_le (by omega) hd.1.2 (by omega) hd.1.1, fun q hq => ?_⟩
    have g2 := Go.new (K := X.K) (o := .tup (rgV 0 j)) g.ok hq
    have e : (j - 0).toNat = j.toNat := by omega
    exact k (.tup (rgI 0 j.toNat)) S1 _ _ (g.trans g2) ⟨q, _, rfl, .inl upd_same, e ▸ rgI_dv⟩ hd.2
  | _ => exact False.elim hd
theorem pd_tupRg2 {ti tj : RE} {p q : Pos} (hc : X.calm = true) (hm : X.mg "tuple" = none) (hm2 : X.mg "range" = none) (hi : PD X y a ti) (hj : PD X y b tj) (hg : Gl X "tuple" := by rfl) (hg2 : Gl X "range" := by rfl) (na : starEach [.Call (.Name "range" q) [a, b] [] p2] X.env = (false, eval (.Call (.Name "range" q) [a, b] [] p2) X.env) :: starEach [] X.env := by rfl)
    (nb : starEach [a, b] X.env = (false, eval a X.env) :: starEach [b] X.env := by rfl) (nc : starEach [b] X.env = (false, eval b X.env) :: starEach [] X.env := by rfl) (hp : (backTo p2 (starEach [b] X.env)).any (·.1) = false := by rfl) : PD X y (.Call (.Name "tuple" p) [.Call (.Name "range" q) [a, b] [] p2] [] pos)
      (fun ρ S Q => ti ρ S fun d S1 => tj ρ S1 fun f S2 => match d, f with | .int i, .int j => (0 ≤ i ∧ i ≤ 16777216 ∧ 0 ≤ j ∧ j ≤ 16777216) ∧ Q (.tup (rgI i (j - i).toNat)) S2 | _, _ => False) := by
  refine PD.of (pe_tupRg hc hg hm (prg_2 hg2 hm2 hi hj nb nc hp) na) fun σ H Q h => ?_
  obtain ⟨ρ, S, R, sr, so, h, k⟩ := h
  refine ⟨ρ, S, _, sr, so, h, fun d S1 v H1 g1 dv hd => ⟨ρ, S1, _, sr.go g1, so.go g1, hd, fun f S2 w H2 g2 dw hf => ?_⟩⟩
  cases d <;> cases f <;> first | exact False.elim hf | skip
  case int.int i j =>
    cases (show v = V.int i from dv); cases (show w = V.int j from dw)
    refine ⟨i, j, rfl, rfl, RgOk.of_le hf.1.1 hf.1.2.2.2 hf.1.2.1 hf.1.2.2.1, fun q hq => ?_⟩
    have g3 := Go.new (K := X.K) (o := .tup (rgV i j)) g2.ok hq
    exact k (.tup (rgI i (j - i).toNat)) S2 _ _ (g1.trans (g2.trans g3)) ⟨q, _, rfl, .inl upd_same, rgI_dv⟩ hf.2
/-! ### x.bit_length(), factorial, comb -/
def rBits (te : RE) : RE := fun ρ S Q => te ρ S fun d S1 => match d with
  | .int i => Q (.int (Builtin.Int.intBits i : Nat)) S1
  | _ => False
theorem pd_bits (ho : PD X y o te) (hbase : attributeBase o "bit_length" X.env (eval o X.env) = eval o X.env := by rfl) (hline : (apos.endLine == pos.line) = true := by rfl) : PD X y (.Call (.Attribute o "bit_length" apos) [] [] pos) (rBits te) := by
  refine PD.of (pe_bits ho hbase hline) fun σ H Q h => ?_
  obtain ⟨ρ, S, R, sr, so, h, k⟩ := h
  refine ⟨ρ, S, _, sr, so, h, fun d S1 v H1 g dv hd => ?_⟩
  cases d with
  | int i => exact ⟨i, dv, k (.int (Builtin.Int.intBits i : Nat)) S1 _ H1 g rfl hd⟩
  | _ => exact False.elim hd
def dFact : RCall := fun ds S Q => match ds with
  | [.int i] => (0 ≤ i ∧ i ≤ 20000) ∧ Q (.int ((Builtin.Math.factorialNat i.toNat : Nat) : Int)) S
  | _ => False
theorem cd_factorial : CallR X (.builtin "math.factorial") (lcl X.K dFact) := by
  intro pins s σ H vs us Q I rv h
  obtain ⟨ds, S, R, dv, so, h, k⟩ := h
  unfold dFact at h
  split at h
  · rename_i i
    obtain ⟨v, rfl, r⟩ := dvs1 dv
    cases (show v = V.int i from r)
    obtain ⟨u, rfl, t, rfl⟩ := vals1 rv
    exact PySem.W.mc_factorial h.1.1 h.1.2 fun _ => ⟨.int _, H, I.tok _, ⟨_, rfl⟩, k (.int _) S _ H (Go.refl so) rfl h.2⟩
  · exact h.elim
def dComb : RCall := fun ds S Q => match ds with
  | [.int i, .int j] => (0 ≤ i ∧ 0 ≤ j ∧ i ≤ 9000) ∧ Q (.int (PySem.W.mcComb i j)) S
  | _ => False
theorem cd_comb : CallR X (.builtin "math.comb") (lcl X.K dComb) := by
  intro pins s σ H vs us Q I rv h
  obtain ⟨ds, S, R, dv, so, h, k⟩ := h
  unfold dComb at h
  split at h
  · rename_i i j
    obtain ⟨v, w, rfl, r1, r2⟩ := dvs2 dv
    cases (show v = V.int i from r1)
    cases (show w = V.int j from r2)
    obtain ⟨u, u', rfl, ⟨t, rfl⟩, ⟨t', rfl⟩⟩ := vals2 rv
    exact PySem.W.mc_comb h.1.1 h.1.2.1 (by have := h.1.2.2; omega) (.inr (by have := h.1.2.2; omega)) fun _ => ⟨.int _, H, I.tok _, ⟨_, rfl⟩, k (.int _) S _ H (Go.refl so) rfl h.2⟩
  · exact h.elim

/-! ### calls with keywords -/
def rCallK (y : DXw) (spec : DSp) (gD : List D → List D → List D) (ta tk : RA) : RE := fun ρ S Q => ta ρ S fun ds S1 => tk ρ S1 fun zs S2 => spec (gD ds zs) S2 Q fun C d S' => y.d C d ρ S'
structure KBD (K : PySem.W.Frag) (fd : FuncData) (ps ks : List Str) (g : List Value → List Value → List Value) (gD : List D → List D → List D) : Prop where
  to : ∀ (s : Shared) (us ws : List Value), K.In s.heap → (g us ws).length = ps.length → BindsTo s fd ⟨us, ks.zip ws⟩ (ps.zip (g us ws))
  rel : ∀ {H : Hp} {ds zs : List D} {vs ws : List V} {us xs : List Value}, DVs K H ds vs → DVs K H zs ws → Vals vs us → Vals ws xs → ∃ qs, DVs K H (gD ds zs) qs ∧ Vals qs (g us xs)
variable {k : Nat} {f : Addr} {fd : FuncData} {ps ks : List Str} {spec : DSp} {kws : List Keyword} {g : List Value → List Value → List Value} {gD : List D → List D → List D}
theorem run_K {pins : List (Addr × Obj)} {σ : L2.St} {H : Hp} {s : Shared} {Q : VK} {us ws : List Value} {qs : List V} (tk : Takes X y.W) (G : FnOk X.prog X.w X.K X.mg X.base (L2.CX X.prog X.w) k f fd ps (toSp X.K spec)) (hr : Room k X.A) (hb : KBD X.K fd ps ks g gD)
    (I : Inv X pins σ H s) (r : Vals qs (g us ws)) (h : toSp X.K spec qs H Q (WE y.W σ)) : wpAny (model X.prog X.w) X.A (call (.ref f) us (ks.zip ws)) (EP X pins σ Q) X.xe s := by
  have hl : (g us ws).length = ps.length := by rw [← r.length]; exact G.len _ _ _ _ h
  refine wpAny_call (codeAny_mono (G.run X.A X.stack s H ⟨us, ks.zip ws⟩ (g us ws) qs Q _ hr I.env0 (hb.to s us ws I.kIn hl) r h) fun r s' hq => ?_)
  cases r with
  | error e => exact passAt tk σ pins H s e s' I hq
  | ok fl =>
    cases fl with
    | ret u => exact I.after hq
    | next => exact False.elim hq
    | brk => exact False.elim hq
    | cont => exact False.elim hq
theorem pd_callK0 {tkk : RA} {n : Nat} (tk : Takes X y.W) (G : FnOk X.prog X.w X.K X.mg X.base (L2.CX X.prog X.w) k f fd ps (toSp X.K spec)) (hr : Room k X.A) (hm : X.mg x = some (.ref f)) (hk : PySem.W.keepIn X.K (.ref f) = true) (hb : KBD X.K fd ps ks g gD) (hkw : RdK X y kws n tkk)
    (hg : Gl X x := by rfl) (hall : (backToKw pos (keywordEach kws X.env)).all (·.1.isSome) = true := by rfl) (hks : (backToKw pos (keywordEach kws X.env)).filterMap (·.1) = ks := by rfl)
    (hdb : (x == ("__debug__" : Str)) = false := by decide) (hpl : ((backTo pos (starEach [] X.env)).any (·.1) || (backToKw pos (keywordEach kws X.env)).any (·.1.isNone)) = false := by rfl) :
    PD X y (.Call (.Name x p) [] kws pos) (rCallK y spec gD rNil tkk) := by
  refine ⟨fun pins s σ H Q I h => ?_⟩
  obtain ⟨ρ, S, R, sr, so, h, c⟩ := h
  refine wpAny_Call_Name_kw (ld_glob I hg hm ?_ hdb)
  refine PySem.W.callWith_KW0 (h₀ := X.base) I.ok.mod.kin hk hall ?_ hpl
  have hkr := hkw.run pos pins s σ H (fun vs H1 => ∃ zs S1, Go X.K H S H1 S1 ∧ DVs X.K H1 zs vs ∧ spec (gD [] zs) S1 R fun C d S' => y.d C d ρ S') I ⟨ρ, S, _, sr, so, h, fun zs S1 vs H1 g1 dvs _ h1 => ⟨zs, S1, g1, dvs, h1⟩⟩
  refine thn hkr fun ws s2 ⟨vs, H2, I2, rz, zs, S2, g2, dvs, h2⟩ => ⟨I2.kIn, ?_⟩
  rw [hks]
  obtain ⟨qs, hq1, hq2⟩ := hb.rel (H := H2) (ds := []) (vs := []) (us := []) DVs.nil dvs .nil rz
  exact run_K tk G hr hb I2 hq2 ⟨gD [] zs, S2, R, _, hq1, g2.ok, h2, fun d S3 v H3 g3 dv q => c d S3 v H3 (g2.trans g3) dv q, fun C d S3 dx w H3 g3 e dw q => (so.go g2).xo C d ρ S3 dx w σ H3 g3 (sr.go (g2.trans g3)) e dw q⟩
theorem pd_callK {tkk : RA} {n : Nat} (tk : Takes X y.W) (G : FnOk X.prog X.w X.K X.mg X.base (L2.CX X.prog X.w) k f fd ps (toSp X.K spec)) (hr : Room k X.A) (hm : X.mg x = some (.ref f)) (hk : PySem.W.keepIn X.K (.ref f) = true) (hb : KBD X.K fd ps ks g gD) (ha : PDA X y (e :: es) ta) (hkw : RdK X y kws n tkk)
    (hg : Gl X x := by rfl) (hall : (backToKw pos (keywordEach kws X.env)).all (·.1.isSome) = true := by rfl) (hks : (backToKw pos (keywordEach kws X.env)).filterMap (·.1) = ks := by rfl)
    (hdb : (x == ("__debug__" : Str)) = false := by decide) (he : starEach (e :: es) X.env = (false, eval e X.env) :: starEach es X.env := by rfl) (hpl : ((backTo pos (starEach (e :: es) X.env)).any (·.1) || (backToKw pos (keywordEach kws X.env)).any (·.1.isNone)) = false := by rfl) :
    PD X y (.Call (.Name x p) (e :: es) kws pos) (rCallK y spec gD ta tkk) := by
  refine ⟨fun pins s σ H Q I h => ?_⟩
  obtain ⟨ρ, S, R, sr, so, h, c⟩ := h
  refine wpAny_Call_Name_kw (ld_glob I hg hm ?_ hdb)
  have har := ha.run pos pins s σ H (fun vs H1 => ∃ ds S1, Go X.K H S H1 S1 ∧ DVs X.K H1 ds vs ∧ tkk ρ S1 fun zs S2 => spec (gD ds zs) S2 R fun C d S' => y.d C d ρ S') I ⟨ρ, S, _, sr, so, h, fun ds S1 vs H1 g1 dvs _ h1 => ⟨ds, S1, g1, dvs, h1⟩⟩
  refine PySem.W.callWith_KW (h₀ := X.base) I.ok.mod.kin hk hall (thn har fun us s1 ⟨vs, H1, I1, r, ds, S1, g1, dv1, h1⟩ => ?_) hpl he
  have hkr := hkw.run pos pins s1 σ H1 (fun vs H2 => ∃ zs S2, Go X.K H1 S1 H2 S2 ∧ DVs X.K H2 zs vs ∧ spec (gD ds zs) S2 R fun C d S' => y.d C d ρ S') I1 ⟨ρ, S1, _, sr.go g1, so.go g1, h1, fun zs S2 vs H2 g2 dvs _ h2 => ⟨zs, S2, g2, dvs, h2⟩⟩
  refine thn hkr fun ws s2 ⟨ws', H2, I2, rz, zs, S2, g2, dv2, h2⟩ => ⟨I2.kIn, ?_⟩
  rw [hks]
  obtain ⟨qs, hq1, hq2⟩ := hb.rel (H := H2) (DVs.go g2 _ _ dv1) dv2 r rz
  have gA := g1.trans g2
  exact run_K tk G hr hb I2 hq2 ⟨gD ds zs, S2, R, _, hq1, gA.ok, h2, fun d S3 v H3 g3 dv q => c d S3 v H3 (gA.trans g3) dv q, fun C d S3 dx w H3 g3 e dw q => (so.go gA).xo C d ρ S3 dx w σ H3 g3 (sr.go (gA.trans g3)) e dw q⟩
end
end DL
set_option Elab.async false
set_option linter.all false
set_option maxRecDepth 100000
set_option maxHeartbeats 4000000
namespace DL
open PySem PySem.Spec PyProof.Rows L2
/-! ### fractions -/
def fr (q : Rat) : D := .tup [.int q.num, .int (q.den : Int)]
theorem low_num {t b : Int} (hb : 0 < b) : t / ((Nat.gcd t.natAbs b.natAbs : Nat) : Int) = ((t : Rat) / (b : Rat)).num := by
  rw [← Rat.divInt_eq_div, Rat.num_divInt, Int.sign_eq_one_of_pos hb, Int.one_mul, Int.gcd, Nat.gcd_comm]
theorem low_den {t b : Int} (hb : 0 < b) : b / ((Nat.gcd t.natAbs b.natAbs : Nat) : Int) = (((t : Rat) / (b : Rat)).den : Int) := by
  rw [← Rat.divInt_eq_div, Rat.den_divInt, if_neg (by omega), Int.gcd, Nat.gcd_comm]
  have : (b.natAbs : Int) = b := by omega
  rw [Int.natCast_ediv, this]
theorem low_fr {t b : Int} (hb : 0 < b) : D.tup [.int (t / ((Nat.gcd t.natAbs b.natAbs : Nat) : Int)), .int (b / ((Nat.gcd t.natAbs b.natAbs : Nat) : Int))] = fr ((t : Rat) / (b : Rat)) := by
  unfold fr
  rw [← low_num hb, ← low_den hb]
theorem den_pos' (q : Rat) : (0 : Int) < (q.den : Int) := by have := q.den_pos; omega
theorem num_div_den' (q : Rat) : ((q.num : Int) : Rat) / ((q.den : Int) : Rat) = q := by
  rw [← Rat.divInt_eq_div]; exact Rat.num_divInt_den q
theorem mul_fr (a b : Rat) : (((a.num * b.num : Int) : Rat) / (((a.den : Int) * (b.den : Int) : Int) : Rat)) = a * b := by
  have ha := num_div_den' a
  have hb := num_div_den' b
  have da : ((a.den : Int) : Rat) ≠ 0 := by have := a.den_nz; simpa using this
  have db : ((b.den : Int) : Rat) ≠ 0 := by have := b.den_nz; simpa using this
  rw [Rat.intCast_mul, Rat.intCast_mul]
  generalize ((a.num : Int) : Rat) = x at *
  generalize ((b.num : Int) : Rat) = y at *
  generalize ((a.den : Int) : Rat) = u at *
  generalize ((b.den : Int) : Rat) = v at *
  subst ha hb
  grind
theorem add_fr (a b : Rat) : (((a.num * (b.den : Int) + b.num * (a.den : Int) : Int) : Rat) / (((a.den : Int) * (b.den : Int) : Int) : Rat)) = a + b := by
  have ha := num_div_den' a
  have hb := num_div_den' b
  have da : ((a.den : Int) : Rat) ≠ 0 := by have := a.den_nz; simpa using this
  have db : ((b.den : Int) : Rat) ≠ 0 := by have := b.den_nz; simpa using this
  rw [Rat.intCast_add, Rat.intCast_mul, Rat.intCast_mul, Rat.intCast_mul]
  generalize ((a.num : Int) : Rat) = x at *
  generalize ((b.num : Int) : Rat) = y at *
  generalize ((a.den : Int) : Rat) = u at *
  generalize ((b.den : Int) : Rat) = v at *
  subst ha hb
  grind
/-! ### sizes -/
theorem gcd_w {t b : Int} (hb : 0 < b) {n : Nat} (h : b.natAbs < 2 ^ n) (h0 : 0 < n) (h9 : n ≤ 9000) (z : Int) : CDivW z ((Nat.gcd t.natAbs b.natAbs : Nat) : Int) := by
  have h1 : 0 < Nat.gcd t.natAbs b.natAbs := Nat.gcd_pos_of_pos_right _ (by omega)
  have h2 : Nat.gcd t.natAbs b.natAbs ≤ b.natAbs := Nat.gcd_le_right _ (by omega)
  exact wide_div (b := n) (by omega) (by rw [Int.natAbs_natCast]; omega) h0 h9
theorem small_r {i j : Int} (h1 : -(2 ^ 64) < j) (h2 : j < 2 ^ 64) : CMulW i j ∨ CMul i j := .inr (.inr ⟨h1, h2⟩)
theorem small_l {i j : Int} (h1 : -(2 ^ 64) < i) (h2 : i < 2 ^ 64) : CMulW i j ∨ CMul i j := .inr (.inl ⟨h1, h2⟩)
theorem div_s {i j : Int} (h : 0 < j) (hb : j < 2 ^ 8000) : CDivW i j := wide_div (b := 8000) h (by omega) (by decide) (by decide)
end DL
set_option Elab.async false
set_option linter.all false
set_option maxRecDepth 100000
set_option maxHeartbeats 4000000
namespace DL
open PySem PySem.Spec PyProof.Rows L2
/-! ### loops -/
theorem for_rg {lo : Int} {n : Nat} {g : RG} {tb : RS} {E : DEnds} {ρ : Ro} {S : Sto} (W : Nat → Ro → Sto → Prop) (h0 : W 0 ρ S)
    (hs : ∀ (i : Nat) ρ' S', i < n → W i ρ' S' → g (.int (lo + (i : Int))) ρ' S' fun ρ2 S2 => tb { E with nx := W (i + 1), ct := W (i + 1), bk := E.nx } ρ2 S2) (hd : ∀ ρ' S', W n ρ' S' → E.nx ρ' S') :
    ∃ W : Nat → Ro → Sto → Prop, W 0 ρ S ∧ ∀ i ρ' S', W i ρ' S' → (fun (_ : Sto) => True) S' ∧
      (∀ x, (rgI lo n)[i]? = some x → g x ρ' S' fun ρ2 S2 => tb { E with nx := W (i + 1), ct := W (i + 1), bk := E.nx } ρ2 S2) ∧ (i = (rgI lo n).length → E.nx ρ' S') := by
  refine ⟨W, h0, fun i ρ' S' h => ⟨trivial, fun x hx => ?_, fun e => ?_⟩⟩
  · obtain ⟨hi, rfl⟩ := rgI_inv hx
    exact hs i ρ' S' hi h
  · rw [rgI_len] at e
    subst e
    exact hd ρ' S' h
theorem for_xs {xs : List D} {src : Sto → Prop} {g : RG} {tb : RS} {E : DEnds} {ρ : Ro} {S : Sto} (W : Nat → Ro → Sto → Prop) (h0 : W 0 ρ S) (hq : ∀ i ρ' S', W i ρ' S' → src S')
    (hs : ∀ (i : Nat) x ρ' S', xs[i]? = some x → W i ρ' S' → g x ρ' S' fun ρ2 S2 => tb { E with nx := W (i + 1), ct := W (i + 1), bk := E.nx } ρ2 S2) (hd : ∀ ρ' S', W xs.length ρ' S' → E.nx ρ' S') :
    ∃ W : Nat → Ro → Sto → Prop, W 0 ρ S ∧ ∀ i ρ' S', W i ρ' S' → src S' ∧
      (∀ x, xs[i]? = some x → g x ρ' S' fun ρ2 S2 => tb { E with nx := W (i + 1), ct := W (i + 1), bk := E.nx } ρ2 S2) ∧ (i = xs.length → E.nx ρ' S') :=
  ⟨W, h0, fun i ρ' S' h => ⟨hq i ρ' S' h, fun x hx => hs i x ρ' S' hx h, fun e => by subst e; exact hd ρ' S' h⟩⟩
/-- a comprehension whose elements are values f i x, the store but growing -/
def Ext (S S' : Sto) : Prop := ∀ a c, S a = some c → S' a = some c
theorem Ext.refl (S : Sto) : Ext S S := fun _ _ h => h
theorem Ext.trans {S S1 S2 : Sto} (a : Ext S S1) (b : Ext S1 S2) : Ext S S2 := fun c o h => b c o (a c o h)
theorem Ext.new {S : Sto} {p : Addr} (h : S p = none) (c : Cell) : Ext S (sup S p c) := fun a o e => by
  rw [sup_ne (fun z => ?_)]
  · exact e
  · subst z; rw [h] at e; cases e
theorem Ext.free {S S' : Sto} (e : Ext S S') {p : Addr} (h : S' p = none) : S p = none := by
  cases q : S p with
  | none => rfl
  | some o => rw [e p o q] at h; cases h
theorem Ext.rd {S S' : Sto} (e : Ext S S') {d : D} {xs : List D} (h : RdL S d xs) : RdL S' d xs := by
  rcases h with ⟨a, rfl, h⟩ | rfl
  · exact .inl ⟨a, rfl, e _ _ h⟩
  · exact .inr rfl
mutual
theorem Pat.imp : ∀ (p : Pat) (d : D) (ρ : Ro) (k k' : Ro → Prop), (∀ ρ', k ρ' → k' ρ') → Pat.put p d ρ k → Pat.put p d ρ k'
  | .n i, d, ρ, k, k', m, h => m _ h
  | .t ps, d, ρ, k, k', m, h => by
    cases d with
    | tup xs => exact Pat.imps ps xs ρ k k' m h
    | _ => exact False.elim h
theorem Pat.imps : ∀ (ps : List Pat) (ds : List D) (ρ : Ro) (k k' : Ro → Prop), (∀ ρ', k ρ' → k' ρ') → Pat.puts ps ds ρ k → Pat.puts ps ds ρ k'
  | [], ds, ρ, k, k', m, h => by
    cases ds with
    | nil => exact m _ h
    | cons _ _ => exact False.elim h
  | p :: ps, ds, ρ, k, k', m, h => by
    cases ds with
    | nil => exact False.elim h
    | cons d ds => exact Pat.imp p d ρ _ _ (fun ρ' h => Pat.imps ps ds ρ' k k' m h) h
end
def WM (n : Nat) (f : Nat → D) (S : Sto) : Nat → List D → Sto → Prop := fun i acc S' => i ≤ n ∧ acc = (List.range i).map f ∧ Ext S S'
theorem lc_rgm {lo : Int} {n : Nat} {p : Pat} {tt : RT} {te : RE} {vs : List Nat} {ρ : Ro} {S : Sto} {G : Addr → Sto → List D → Prop} (f : Nat → D)
    (hs : ∀ (i : Nat) acc S', i < n → WM n f S i acc S' → Pat.put p (.int (lo + (i : Int))) (dwipe ρ vs) fun ρ2 => tt ρ2 S' fun b S3 => IFB b (te ρ2 S3 fun d S4 => acc.length < sizeLine ∧ WM n f S (i + 1) (acc ++ [d]) S4) (WM n f S (i + 1) acc S3))
    (hd : ∀ S' q, Ext S S' → S' q = none → G q S' ((List.range n).map f)) :
    ∃ W : Nat → List D → Sto → Prop, W 0 [] S ∧ ∀ i acc S', W i acc S' → (fun (_ : Sto) => True) S' ∧
      (∀ x, (rgI lo n)[i]? = some x → Pat.put p x (dwipe ρ vs) fun ρ2 => tt ρ2 S' fun b S3 => IFB b (te ρ2 S3 fun d S4 => acc.length < sizeLine ∧ W (i + 1) (acc ++ [d]) S4) (W (i + 1) acc S3)) ∧
      (i = (rgI lo n).length → ∀ p, S' p = none → G p S' acc) := by
  refine ⟨WM n f S, ⟨Nat.zero_le _, by simp, Ext.refl S⟩, fun i acc S' w => ⟨trivial, fun x hx => ?_, fun h q hq => ?_⟩⟩
  · obtain ⟨hi, rfl⟩ := rgI_inv hx
    exact hs i acc S' hi w
  · rw [rgI_len] at h
    subst h
    obtain ⟨_, rfl, e⟩ := w
    exact hd S' q e hq
theorem lc_leaf {n i : Nat} {f : Nat → D} {S S' S4 : Sto} {acc : List D} {d : D} (hi : i < n) (w : WM n f S i acc S') (hn : n ≤ sizeLine) (hd : d = f i) (he : Ext S' S4) : acc.length < sizeLine ∧ WM n f S (i + 1) (acc ++ [d]) S4 := by
  obtain ⟨_, rfl, e⟩ := w
  refine ⟨by simp; omega, hi, ?_, e.trans he⟩
  rw [List.range_succ, List.map_append, hd]
  rfl
/-- over the items of a list -/
def WL (xs : List D) (f : D → D) (S : Sto) : Nat → List D → Sto → Prop := fun i acc S' => i ≤ xs.length ∧ acc = (xs.take i).map f ∧ Ext S S'
theorem lc_xsm {xs : List D} {src : Sto → Prop} {p : Pat} {tt : RT} {te : RE} {vs : List Nat} {ρ : Ro} {S : Sto} {G : Addr → Sto → List D → Prop} (f : D → D) (hq : ∀ S', Ext S S' → src S')
    (hs : ∀ (i : Nat) x acc S', xs[i]? = some x → WL xs f S i acc S' → Pat.put p x (dwipe ρ vs) fun ρ2 => tt ρ2 S' fun b S3 => IFB b (te ρ2 S3 fun d S4 => acc.length < sizeLine ∧ WL xs f S (i + 1) (acc ++ [d]) S4) (WL xs f S (i + 1) acc S3))
    (hd : ∀ S' q, Ext S S' → S' q = none → G q S' (xs.map f)) :
    ∃ W : Nat → List D → Sto → Prop, W 0 [] S ∧ ∀ i acc S', W i acc S' → src S' ∧
      (∀ x, xs[i]? = some x → Pat.put p x (dwipe ρ vs) fun ρ2 => tt ρ2 S' fun b S3 => IFB b (te ρ2 S3 fun d S4 => acc.length < sizeLine ∧ W (i + 1) (acc ++ [d]) S4) (W (i + 1) acc S3)) ∧
      (i = xs.length → ∀ p, S' p = none → G p S' acc) := by
  refine ⟨WL xs f S, ⟨Nat.zero_le _, by simp, Ext.refl S⟩, fun i acc S' w => ⟨hq S' w.2.2, fun x hx => hs i x acc S' hx w, fun h q hq => ?_⟩⟩
  subst h
  obtain ⟨_, rfl, e⟩ := w
  rw [List.take_length]
  exact hd S' q e hq
theorem lc_leafL {xs : List D} {i : Nat} {f : D → D} {S S' S4 : Sto} {acc : List D} {d x : D} (hx : xs[i]? = some x) (w : WL xs f S i acc S') (hn : xs.length ≤ sizeLine) (hd : d = f x) (he : Ext S' S4) : acc.length < sizeLine ∧ WL xs f S (i + 1) (acc ++ [d]) S4 := by
  obtain ⟨_, rfl, e⟩ := w
  have hi : i < xs.length := (List.getElem?_eq_some_iff.mp hx).1
  refine ⟨by simp; omega, hi, ?_, e.trans he⟩
  rw [List.take_succ, hx, List.map_append, hd]
  rfl
end DL
set_option Elab.async false
set_option linter.all false
set_option maxRecDepth 100000
set_option maxHeartbeats 4000000
namespace DL
open PySem PySem.Spec PyProof.Rows L2
section
variable {X : Cx} {y : DXw} {st : Stmt} {rest : List Stmt} {t u : RS} {e : Expr} {te : RE} {pos : Pos}
/-- a, b, c = x, y, z with plain local names -/
def rPar3 (i j l : Nat) (ta : RA) : RS := fun E ρ S => ta ρ S fun ds S1 => match ds with
  | [d, e, f] => E.nx (((ρ.set i (some d)).set j (some e)).set l (some f)) S1
  | _ => False
theorem pd_par3 (i j l : Nat) {x z w : Str} {a b c : Expr} {ta : RA} {px py pz pt pos : Pos} {kt k2 pt2} (hc : X.calm = true) (hN : X.N.Nodup) (ha : PDA X y [a, b, c] ta)
    (hw : swappedStores [.Tuple [.Name x px, .Name z py, .Name w pz] kt pt] (.Tuple [a, b, c] k2 pt2) X.env = pure (some [x, z, w]))
    (hi : X.N[i]? = some x := by rfl) (hj : X.N[j]? = some z := by rfl) (hl : X.N[l]? = some w := by rfl) (hij : i ≠ j := by decide) (hil : i ≠ l := by decide) (hjl : j ≠ l := by decide)
    (hx : X.env.scope.names.lookup x = some .local := by rfl) (hy : X.env.scope.names.lookup z = some .local := by rfl) (hz : X.env.scope.names.lookup w = some .local := by rfl)
    (hs : swapsWithSole [.Tuple [.Name x px, .Name z py, .Name w pz] kt pt] (.Tuple [a, b, c] k2 pt2) pos.line X.env = pure false := by rfl) :
    PDS X y (.Assign [.Tuple [.Name x px, .Name z py, .Name w pz] kt pt] (.Tuple [a, b, c] k2 pt2) pos) (rPar3 i j l ta) := PDS.of (ps_par3 hc hN hi hj hl hij hil hjl hx hy hz ha hw hs) fun D σ H h => by
  obtain ⟨ρ, S, E, sr, so, h, eo⟩ := h
  refine ⟨ρ, S, _, sr, so, h, fun ds S1 vs H1 g1 dvs hn h1 => ?_⟩
  match ds, dvs, h1 with
  | [d, e, f], dvs, h1 =>
    obtain ⟨v, ws, rfl, dv1, v2, ws2, rfl, dv2, v3, ws3, rfl, dv3, q⟩ := dvs
    cases (show ws3 = [] from q)
    exact ⟨v, v2, v3, rfl, eo.nx _ S1 _ H1 g1 ((((sr.go g1).set dv1 i).set dv2 j).set dv3 l) h1⟩
  | [], _, h1 => exact h1.elim
  | [_], _, h1 => exact h1.elim
  | [_, _], _, h1 => exact h1.elim
  | _ :: _ :: _ :: _ :: _, _, h1 => exact h1.elim
end

/-! ### a def whose garbage is dropped -/
theorem Go.less {K : PySem.W.Frag} {H H' : Hp} {S S' S2 : Sto} (g : Go K H S H' S') (e : Ext S2 S') : Go K H S H' S2 :=
  ⟨g.ok0, fun a c h => g.ok a c (e a c h), g.frame, fun a o h1 h2 => by
    cases q : S2 a with
    | none => rfl
    | some c => exact absurd (e a c q) (by rw [g.ex a o h1 h2]; exact fun z => by cases z)⟩
theorem fnE {P : Program} {w : World} {K : PySem.W.Frag} {mg : Str → Option Value} {base : Heap} {x qual : Str} {st : Stmt} {f : Addr} {fd : FuncData} {N ps : List Str} {k : Nat} {sp : DSp} (F : Fun K x qual st f fd) (S : FnScope N ps (defScope st))
    (len : ∀ ds S Q E, sp ds S Q E → ds.length = ps.length)
    (hbody : ∀ (cdv : Value) (A : Around) (outer : List Env) (s : Shared) (H : Hp) (E : XK) (RX : Addr → D → Sto → Prop), Room k (A.deeper (envOfC qual (defScope st) s.heap.objs.size f cdv)) →
      ∃ t, PDSs (cxOf (L2.CX P w) P w K mg base N qual (defScope st) f cdv A outer s H E) (yOf E RX) (defBody st) t ∧ ∀ ds S Q, sp ds S Q RX → t { nx := fun _ S' => ∃ S2, Ext S2 S' ∧ Q .non S2, rt := fun d S' => ∃ S2, Ext S2 S' ∧ Q d S2 } (startD N ds) S) :
    FnOk P w K mg base (L2.CX P w) (k + 1) f fd ps (toSp K sp) := by
  refine F.okX S (fun vs H Q E h => ?_) (fun cdv A outer s H vs Q E hr h => ?_)
  · obtain ⟨ds, S, R, RX, dvs, _, h, _⟩ := h
    rw [← dvs.length]
    exact len _ _ _ _ h
  · obtain ⟨ds, S, R, RX, dvs, so, h, k1, k2⟩ := h
    obtain ⟨t, ht, hq⟩ := hbody cdv A outer s H E RX hr
    refine ⟨_, ht, startD N ds, S, _, start_srv dvs, ⟨so, fun C d ρ S' dx w' σ H' g _ e dv q => k2 C d S' dx w' H' g e dv q⟩, hq ds S R h, ?_⟩
    exact ⟨fun ρ S' σ H' g _ ⟨S2, e, q⟩ => k1 .non S2 .non H' (g.less e) rfl q, fun d S' v H' g dv ⟨S2, e, q⟩ => k1 d S2 v H' (g.less e) dv q, fun _ _ _ _ _ _ z => z, fun _ _ _ _ _ _ z => z⟩
theorem fnok0 {P : Program} {w : World} {K : PySem.W.Frag} {mg : Str → Option Value} {base : Heap} {f : Addr} {fd : FuncData} {ps : List Str} {k : Nat} : FnOk P w K mg base (L2.CX P w) k f fd ps (toSp K fun _ _ _ _ => False) :=
  ⟨fun _ _ _ _ ⟨_, _, _, _, _, _, h, _⟩ => h.elim, fun _ _ _ _ _ _ _ _ _ _ _ _ _ ⟨_, _, _, _, _, _, h, _⟩ => h.elim⟩
/-! ### told and due -/
def cellsD (S : Sto) : D → Option (List D)
  | .ref a => match S a with
    | some (.lst xs) => some xs
    | _ => none
  | .fro xs => some xs
  | _ => none
def sameD (S : Sto) : Nat → D → D → Prop
  | 0, _, _ => False
  | _ + 1, told, .non => told = .non
  | _ + 1, told, .bl b => told = .bl b
  | _ + 1, told, .int i => told = .int i
  | _ + 1, told, .str x => told = .str x
  | n + 1, told, .tup xs => ∃ ys, told = .tup ys ∧ ys.length = xs.length ∧ xs.length < 1000000 ∧ ∀ (i : Nat) y x, ys[i]? = some y → xs[i]? = some x → sameD S n y x
  | n + 1, told, due => ∃ xs ys, RdL S due xs ∧ RdL S told ys ∧ ys.length = xs.length ∧ xs.length < 1000000 ∧ ∀ (i : Nat) y x, ys[i]? = some y → xs[i]? = some x → sameD S n y x
def sp_same (n : Nat) : DSp := fun ds S Q _ => ∃ told due, ds = [told, due] ∧ sameD S n told due ∧ Q (.bl true) S
theorem cut_to {xs : List D} {r : Nat} (h : r ≤ xs.length) : cutD xs none (some (r : Int)) = xs.take r := by
  unfold cutD
  rw [HT.sIx_none, HT.sIx_nat, Nat.min_eq_left h]
  rfl
theorem cut_from {xs : List D} {r : Nat} (h : r ≤ xs.length) : cutD xs (some (r : Int)) none = xs.drop r := by
  unfold cutD
  rw [HT.sIx_none, HT.sIx_nat, Nat.min_eq_left h, List.take_of_length_le (by simp)]
theorem take_get {xs : List D} {r j : Nat} {x : D} (h : (xs.take r)[j]? = some x) : xs[j]? = some x := by
  rw [List.getElem?_take] at h
  split at h
  · exact h
  · cases h
theorem drop_get {xs : List D} {r j : Nat} {x : D} (h : (xs.drop r)[j]? = some x) : xs[r + j]? = some x := by
  rw [List.getElem?_drop] at h
  exact h
theorem Ext.wr {S S' : Sto} {p : Addr} {c : Cell} (e : Ext S S') (h : S p = none) : Ext S (sup S' p c) := fun a o q => by
  rw [sup_ne (fun z => ?_)]
  · exact e a o q
  · subst z; rw [h] at q; cases q

/-! ### calls with keywords: what goes where -/
def gk {α : Type} (n m : Nat) (pm : List Nat) (us ws : List α) : List α := if us.length = n ∧ ws.length = m then pm.filterMap fun i => (us ++ ws)[i]? else []
theorem gk_rel {K : PySem.W.Frag} {n m : Nat} {pm : List Nat} {H : Hp} {ds zs : List D} {vs ws : List V} {us xs : List Value} (h1 : DVs K H ds vs) (h2 : DVs K H zs ws) (r1 : Vals vs us) (r2 : Vals ws xs) :
    ∃ qs, DVs K H (gk n m pm ds zs) qs ∧ Vals qs (gk n m pm us xs) := by
  have l1 := h1.length
  have l2 := h2.length
  have l3 := r1.length
  have l4 := r2.length
  by_cases c : ds.length = n ∧ zs.length = m
  · refine ⟨pm.filterMap fun i => (vs ++ ws)[i]?, ?_, ?_⟩
    · rw [show gk n m pm ds zs = pm.filterMap fun i => (ds ++ zs)[i]? from if_pos c]
      have hA := h1.append h2
      clear c
      induction pm with
      | nil => exact rfl
      | cons i pm ih =>
        rw [List.filterMap_cons, List.filterMap_cons]
        cases e : (ds ++ zs)[i]? with
        | none =>
          have : (vs ++ ws)[i]? = none := by
            rw [List.getElem?_eq_none_iff] at e ⊢
            rw [← hA.length]; exact e
          rw [this]
          exact ih
        | some d =>
          obtain ⟨v, e2, dv⟩ := hA.get e
          rw [e2]
          exact ⟨v, _, rfl, dv, ih⟩
    · rw [show gk n m pm us xs = pm.filterMap fun i => (us ++ xs)[i]? from if_pos (by omega)]
      have hA := r1.append r2
      clear c
      induction pm with
      | nil => exact .nil
      | cons i pm ih =>
        rw [List.filterMap_cons, List.filterMap_cons]
        cases e : (vs ++ ws)[i]? with
        | none =>
          have : (us ++ xs)[i]? = none := by
            rw [List.getElem?_eq_none_iff] at e ⊢
            rw [← hA.length]; exact e
          rw [this]
          exact ih
        | some d =>
          obtain ⟨v, e2, dv⟩ := hA.get e
          rw [e2]
          exact .cons dv ih
  · rw [show gk n m pm ds zs = [] from if_neg c, show gk n m pm us xs = [] from if_neg (by omega)]
    exact ⟨[], rfl, .nil⟩
theorem KBD.of {K : PySem.W.Frag} {x qual : Str} {st : Stmt} {f : Addr} {fd : FuncData} {ps ks : List Str} (n m : Nat) (pm : List Nat) (F : Fun K x qual st f fd) (hp : 0 < ps.length)
    (h : ∀ (kV doc pq : Value) (an : Option Addr) (cdv ct : Value) (us ws : List Value), us.length = n → ws.length = m → bindArgs (PySem.W.fnOf x qual (defArgs st) (defBody st) (defScope st) .none kV doc pq an cdv ct) ⟨us, ks.zip ws⟩ = pure (ps.zip (gk n m pm us ws))) :
    KBD K fd ps ks (gk n m pm) (gk n m pm) := by
  obtain ⟨oc, od, kV, doc, pq, an, cdv, ct, osl, rfl, lk, hcd⟩ := F.ex
  refine ⟨fun s us ws _ hl => ?_, fun h1 h2 r1 r2 => gk_rel h1 h2 r1 r2⟩
  by_cases c : us.length = n ∧ ws.length = m
  · exact .of_eq (h kV doc pq an cdv ct us ws c.1 c.2)
  · rw [show gk n m pm us ws = [] from if_neg c] at hl
    exact absurd hl (by simp; omega)

/-! ### the end -/
theorem law_end {K : PySem.W.Frag} {H : Hp} {a : Addr} {ns : List Int} (hO : Only H) (hS : SqL K H a (ns.map V.int)) {sp : DSp} (h : ∀ S, sp [.fro (ns.map D.int)] S (fun d _ => d = .bl true) (fun _ _ _ => False)) :
    toSp K sp [.ref a] H (fun v _ => v = .bl true) (fun _ _ _ => False) := by
  refine ⟨[.fro (ns.map D.int)], fun _ => none, _, _, ⟨_, _, rfl, ⟨a, ns.map V.int, rfl, ?_, DVs.of_ints⟩, rfl⟩, (fun _ _ z => by cases z), h _, (fun d S v H' _ dv e => by subst e; exact dv), fun _ _ _ _ _ _ _ _ _ z => z⟩
  rcases hS with hS | hS
  · rcases hS with hS | ⟨o, hS⟩
    · rcases hO a with e | ⟨o, xs, e⟩
      · rw [e] at hS; cases hS
      · rw [e] at hS; cases hS
    · exact .inl ⟨o, hS⟩
  · exact .inr hS
theorem cx_end (P : Program) (w : World) (H : Hp) (s : Shared) (e : Value) (s' : Shared) : L2.CX P w [] H s (fun _ _ _ => False) e s' → False := fun ⟨_, _, _, _, _, _, _, _, _, _, _, _, h⟩ => h
theorem law_binds {K : PySem.W.Frag} {x qual : Str} {st : Stmt} {f : Addr} {fd : FuncData} {p : Str} (F : Fun K x qual st f fd) (h : ∀ (kV doc pm : Value) (an : Option Addr) (cdv ct : Value) (u : Value), bindArgs (PySem.W.fnOf x qual (defArgs st) (defBody st) (defScope st) .none kV doc pm an cdv ct) ⟨[u], []⟩ = pure [(p, u)]) :
    ∀ (s : Shared) (u : Value), BindsTo s fd ⟨[u], []⟩ [(p, u)] := fun s u => by
  obtain ⟨oc, od, kV, doc, pm, an, cdv, ct, osl, rfl, _⟩ := F.ex
  exact .of_eq (h kV doc pm an cdv ct u)
end DL
set_option Elab.async false
set_option linter.all false
set_option maxRecDepth 100000
set_option maxHeartbeats 4000000
namespace K38
open PySem PySem.Spec PyProof.Rows L2 DL
local macro_rules | `(tactic| walk_at "w") => `(tactic| conv => whnf)
local macro_rules | `(tactic| walk_at "g") => `(tactic| ((conv => whnf); repeat' (first | (refine IFB.t ?_ ?_; rfl; conv => whnf) | (refine IFB.f ?_ ?_; rfl; conv => whnf))))
def topS (i : Nat) : Stmt := PySem.Challenge.pw_wholeplays_k38_whole_means_of_even_thing.main.body.getD i (.Pass ⟨0, 0, 0, 0⟩)
abbrev s_is_integer : Stmt := topS 5
theorem sc_is_integer : FnScope ["value"] ["value"] (defScope s_is_integer) := ⟨rfl, rfl, rfl, by decide +kernel, rfl, by decide +kernel, by decide +kernel⟩
abbrev s_is_natural : Stmt := topS 6
theorem sc_is_natural : FnScope ["value"] ["value"] (defScope s_is_natural) := ⟨rfl, rfl, rfl, by decide +kernel, rfl, by decide +kernel, by decide +kernel⟩
abbrev s_is_below : Stmt := topS 7
theorem sc_is_below : FnScope ["value", "many"] ["value", "many"] (defScope s_is_below) := ⟨rfl, rfl, rfl, by decide +kernel, rfl, by decide +kernel, by decide +kernel⟩
abbrev s_lowest : Stmt := topS 8
theorem sc_lowest : FnScope ["top", "bottom", "common"] ["top", "bottom"] (defScope s_lowest) := ⟨rfl, rfl, rfl, by decide +kernel, rfl, by decide +kernel, by decide +kernel⟩
abbrev s_whole : Stmt := topS 9
theorem sc_whole : FnScope ["a"] ["a"] (defScope s_whole) := ⟨rfl, rfl, rfl, by decide +kernel, rfl, by decide +kernel, by decide +kernel⟩
abbrev s_product : Stmt := topS 10
theorem sc_product : FnScope ["a", "b"] ["a", "b"] (defScope s_product) := ⟨rfl, rfl, rfl, by decide +kernel, rfl, by decide +kernel, by decide +kernel⟩
abbrev s_power : Stmt := topS 11
theorem sc_power : FnScope ["b", "n", "found", "turn"] ["b", "n"] (defScope s_power) := ⟨rfl, rfl, rfl, by decide +kernel, rfl, by decide +kernel, by decide +kernel⟩
abbrev s_check_throws : Stmt := topS 13
theorem sc_check_throws : FnScope ["n"] ["n"] (defScope s_check_throws) := ⟨rfl, rfl, rfl, by decide +kernel, rfl, by decide +kernel, by decide +kernel⟩
abbrev s_doublings : Stmt := topS 15
theorem sc_doublings : FnScope ["bottom", "odd", "a", "turn", "r", "rest"] ["bottom"] (defScope s_doublings) := ⟨rfl, rfl, rfl, by decide +kernel, rfl, by decide +kernel, by decide +kernel⟩
abbrev s_toss_cost : Stmt := topS 16
theorem sc_toss_cost : FnScope ["number", "top", "bottom", "a", "r", "rest", "ahead", "again", "turn", "rounds"] ["number"] (defScope s_toss_cost) := ⟨rfl, rfl, rfl, by decide +kernel, rfl, by decide +kernel, by decide +kernel⟩
abbrev s_even_of : Stmt := topS 17
theorem sc_even_of : FnScope ["n"] ["n"] (defScope s_even_of) := ⟨rfl, rfl, rfl, by decide +kernel, rfl, by decide +kernel, by decide +kernel⟩
abbrev s_even_mean : Stmt := topS 18
theorem sc_even_mean : FnScope ["n"] ["n"] (defScope s_even_mean) := ⟨rfl, rfl, rfl, by decide +kernel, rfl, by decide +kernel, by decide +kernel⟩
abbrev s_shuffle_mean : Stmt := topS 19
theorem sc_shuffle_mean : FnScope ["n"] ["n"] (defScope s_shuffle_mean) := ⟨rfl, rfl, rfl, by decide +kernel, rfl, by decide +kernel, by decide +kernel⟩
abbrev s_lot_mean : Stmt := topS 20
theorem sc_lot_mean : FnScope ["n", "k"] ["n", "k"] (defScope s_lot_mean) := ⟨rfl, rfl, rfl, by decide +kernel, rfl, by decide +kernel, by decide +kernel⟩
abbrev s_law_well : Stmt := topS 22
theorem sc_law_well : FnScope ["script", "place", "cell"] ["script", "place"] (defScope s_law_well) := ⟨rfl, rfl, rfl, by decide +kernel, rfl, by decide +kernel, by decide +kernel⟩
abbrev s_law_dip : Stmt := topS 23
theorem sc_law_dip : FnScope ["well", "upto", "figure", "mixed"] ["well", "upto"] (defScope s_law_dip) := ⟨rfl, rfl, rfl, by decide +kernel, rfl, by decide +kernel, by decide +kernel⟩
abbrev s_law_same : Stmt := topS 24
theorem sc_law_same : FnScope ["told", "due", "kind", "spot"] ["told", "due"] (defScope s_law_same) := ⟨rfl, rfl, rfl, by decide +kernel, rfl, by decide +kernel, by decide +kernel⟩
abbrev s_law_low : Stmt := topS 25
theorem sc_law_low : FnScope ["top", "bottom", "one", "other"] ["top", "bottom"] (defScope s_law_low) := ⟨rfl, rfl, rfl, by decide +kernel, rfl, by decide +kernel, by decide +kernel⟩
abbrev s_law_even : Stmt := topS 27
theorem sc_law_even : FnScope ["n", "knots", "met", "row", "begin", "ahead", "again", "rounds", "halves", "one"] ["n"] (defScope s_law_even) := ⟨rfl, rfl, rfl, by decide +kernel, rfl, by decide +kernel, by decide +kernel⟩
abbrev s_law_ways : Stmt := topS 28
theorem sc_law_ways : FnScope ["n", "k", "row", "thing", "at"] ["n", "k"] (defScope s_law_ways) := ⟨rfl, rfl, rfl, by decide +kernel, rfl, by decide +kernel, by decide +kernel⟩
abbrev s_law : Stmt := topS 29
theorem sc_law : FnScope ["script", "spot", "well", "n", "due", "orders", "thing", "k"] ["script"] (defScope s_law) := ⟨rfl, rfl, rfl, by decide +kernel, rfl, by decide +kernel, by decide +kernel⟩
structure Txt (K : PySem.W.Frag) (mg : Str → Option Value) where
  a_is_integer : Addr
  fd_is_integer : FuncData
  m_is_integer : mg "is_integer" = some (.ref a_is_integer)
  F_is_integer : Fun K "is_integer" "is_integer" s_is_integer a_is_integer fd_is_integer
  d_is_integer : Binds K fd_is_integer ["value"] []
  a_is_natural : Addr
  fd_is_natural : FuncData
  m_is_natural : mg "is_natural" = some (.ref a_is_natural)
  F_is_natural : Fun K "is_natural" "is_natural" s_is_natural a_is_natural fd_is_natural
  d_is_natural : Binds K fd_is_natural ["value"] []
  a_is_below : Addr
  fd_is_below : FuncData
  m_is_below : mg "is_below" = some (.ref a_is_below)
  F_is_below : Fun K "is_below" "is_below" s_is_below a_is_below fd_is_below
  d_is_below : Binds K fd_is_below ["value", "many"] []
  a_lowest : Addr
  fd_lowest : FuncData
  m_lowest : mg "lowest" = some (.ref a_lowest)
  F_lowest : Fun K "lowest" "lowest" s_lowest a_lowest fd_lowest
  d_lowest : Binds K fd_lowest ["top", "bottom"] []
  a_whole : Addr
  fd_whole : FuncData
  m_whole : mg "whole" = some (.ref a_whole)
  F_whole : Fun K "whole" "whole" s_whole a_whole fd_whole
  d_whole : Binds K fd_whole ["a"] []
  a_product : Addr
  fd_product : FuncData
  m_product : mg "product" = some (.ref a_product)
  F_product : Fun K "product" "product" s_product a_product fd_product
  d_product : Binds K fd_product ["a", "b"] []
  a_power : Addr
  fd_power : FuncData
  m_power : mg "power" = some (.ref a_power)
  F_power : Fun K "power" "power" s_power a_power fd_power
  d_power : Binds K fd_power ["b", "n"] []
  a_check_throws : Addr
  fd_check_throws : FuncData
  m_check_throws : mg "check_throws" = some (.ref a_check_throws)
  F_check_throws : Fun K "check_throws" "check_throws" s_check_throws a_check_throws fd_check_throws
  d_check_throws : Binds K fd_check_throws ["n"] []
  a_doublings : Addr
  fd_doublings : FuncData
  m_doublings : mg "doublings" = some (.ref a_doublings)
  F_doublings : Fun K "doublings" "doublings" s_doublings a_doublings fd_doublings
  d_doublings : Binds K fd_doublings ["bottom"] []
  a_toss_cost : Addr
  fd_toss_cost : FuncData
  m_toss_cost : mg "toss_cost" = some (.ref a_toss_cost)
  F_toss_cost : Fun K "toss_cost" "toss_cost" s_toss_cost a_toss_cost fd_toss_cost
  d_toss_cost : Binds K fd_toss_cost ["number"] []
  a_even_of : Addr
  fd_even_of : FuncData
  m_even_of : mg "even_of" = some (.ref a_even_of)
  F_even_of : Fun K "even_of" "even_of" s_even_of a_even_of fd_even_of
  d_even_of : Binds K fd_even_of ["n"] []
  a_even_mean : Addr
  fd_even_mean : FuncData
  m_even_mean : mg "even_mean" = some (.ref a_even_mean)
  F_even_mean : Fun K "even_mean" "even_mean" s_even_mean a_even_mean fd_even_mean
  d_even_mean : Binds K fd_even_mean ["n"] []
  a_shuffle_mean : Addr
  fd_shuffle_mean : FuncData
  m_shuffle_mean : mg "shuffle_mean" = some (.ref a_shuffle_mean)
  F_shuffle_mean : Fun K "shuffle_mean" "shuffle_mean" s_shuffle_mean a_shuffle_mean fd_shuffle_mean
  d_shuffle_mean : Binds K fd_shuffle_mean ["n"] []
  a_lot_mean : Addr
  fd_lot_mean : FuncData
  m_lot_mean : mg "lot_mean" = some (.ref a_lot_mean)
  F_lot_mean : Fun K "lot_mean" "lot_mean" s_lot_mean a_lot_mean fd_lot_mean
  d_lot_mean : Binds K fd_lot_mean ["n", "k"] []
  a_law_well : Addr
  fd_law_well : FuncData
  m_law_well : mg "_law_well" = some (.ref a_law_well)
  F_law_well : Fun K "_law_well" "_law_well" s_law_well a_law_well fd_law_well
  d_law_well : Binds K fd_law_well ["script", "place"] []
  a_law_dip : Addr
  fd_law_dip : FuncData
  m_law_dip : mg "_law_dip" = some (.ref a_law_dip)
  F_law_dip : Fun K "_law_dip" "_law_dip" s_law_dip a_law_dip fd_law_dip
  d_law_dip : Binds K fd_law_dip ["well", "upto"] []
  a_law_same : Addr
  fd_law_same : FuncData
  m_law_same : mg "_law_same" = some (.ref a_law_same)
  F_law_same : Fun K "_law_same" "_law_same" s_law_same a_law_same fd_law_same
  d_law_same : Binds K fd_law_same ["told", "due"] []
  a_law_low : Addr
  fd_law_low : FuncData
  m_law_low : mg "_law_low" = some (.ref a_law_low)
  F_law_low : Fun K "_law_low" "_law_low" s_law_low a_law_low fd_law_low
  d_law_low : Binds K fd_law_low ["top", "bottom"] []
  a_law_even : Addr
  fd_law_even : FuncData
  m_law_even : mg "_law_even" = some (.ref a_law_even)
  F_law_even : Fun K "_law_even" "_law_even" s_law_even a_law_even fd_law_even
  d_law_even : Binds K fd_law_even ["n"] []
  a_law_ways : Addr
  fd_law_ways : FuncData
  m_law_ways : mg "_law_ways" = some (.ref a_law_ways)
  F_law_ways : Fun K "_law_ways" "_law_ways" s_law_ways a_law_ways fd_law_ways
  d_law_ways : Binds K fd_law_ways ["n", "k"] []
  a_law : Addr
  fd_law : FuncData
  m_law : mg "law" = some (.ref a_law)
  F_law : Fun K "law" "law" s_law a_law fd_law
  d_law : Binds K fd_law ["script"] []
  b_abs : mg "abs" = none
  b_bool : mg "bool" = none
  b_int : mg "int" = none
  b_isinstance : mg "isinstance" = none
  b_len : mg "len" = none
  b_list : mg "list" = none
  b_max : mg "max" = none
  b_min : mg "min" = none
  b_range : mg "range" = none
  b_str : mg "str" = none
  b_tuple : mg "tuple" = none
  i_comb : mg "comb" = some (.builtin "math.comb")
  i_factorial : mg "factorial" = some (.builtin "math.factorial")
  i_gcd : mg "gcd" = some (.builtin "math.gcd")
theorem kb_even_mean_0_n {K : PySem.W.Frag} {mg : Str → Option Value} (T : Txt K mg) : KBD K T.fd_even_mean ["n"] ["n"] (gk 0 1 [0]) (gk 0 1 [0]) := KBD.of 0 1 [0] T.F_even_mean (by decide) fun _ _ _ _ _ _ us ws h1 h2 => match us, ws, h1, h2 with | [], [_], _, _ => rfl
theorem kb_lot_mean_0_k_n {K : PySem.W.Frag} {mg : Str → Option Value} (T : Txt K mg) : KBD K T.fd_lot_mean ["n", "k"] ["k", "n"] (gk 0 2 [1, 0]) (gk 0 2 [1, 0]) := KBD.of 0 2 [1, 0] T.F_lot_mean (by decide) fun _ _ _ _ _ _ us ws h1 h2 => match us, ws, h1, h2 with | [], [_, _], _, _ => rfl
theorem kb_shuffle_mean_0_n {K : PySem.W.Frag} {mg : Str → Option Value} (T : Txt K mg) : KBD K T.fd_shuffle_mean ["n"] ["n"] (gk 0 1 [0]) (gk 0 1 [0]) := KBD.of 0 1 [0] T.F_shuffle_mean (by decide) fun _ _ _ _ _ _ us ws h1 h2 => match us, ws, h1, h2 with | [], [_], _, _ => rfl
end K38
set_option Elab.async false
set_option linter.all false
set_option maxRecDepth 100000
set_option maxHeartbeats 4000000
namespace K38
/-! ### the plain mathematics -/
def st1 (p : Nat × Nat) : Nat × Nat := if p.1 % 2 = 0 then (p.1 / 2, p.2 + 1) else p
def it1 (n : Nat) : Nat → Nat × Nat
  | 0 => (n, 0)
  | k + 1 => st1 (it1 n k)
def st2 (odd : Nat) (p : Nat × Nat) : Nat × Nat := if p.1 = 1 % odd then p else (2 * p.1 % odd, p.2 + 1)
def it2 (odd : Nat) : Nat → Nat × Nat
  | 0 => (2 % odd, 1)
  | k + 1 => st2 odd (it2 odd k)
def dblA (n b : Nat) : Nat := (it1 n b).2
def dblO (n b : Nat) : Nat := (it1 n b).1
def dblR (n b : Nat) : Nat := (it2 (dblO n b) (dblO n b)).2
theorem it1_pos {n : Nat} (h : 0 < n) : ∀ k, 0 < (it1 n k).1
  | 0 => h
  | k + 1 => by
    have := it1_pos h k
    show 0 < (st1 _).1
    unfold st1
    split <;> (try dsimp only) <;> omega
theorem it1_le (n : Nat) : ∀ k, (it1 n k).1 ≤ n ∧ (it1 n k).2 ≤ k
  | 0 => ⟨Nat.le_refl _, Nat.le_refl _⟩
  | k + 1 => by
    have := it1_le n k
    show (st1 _).1 ≤ n ∧ (st1 _).2 ≤ k + 1
    unfold st1
    split <;> (try dsimp only) <;> omega
theorem it2_le (o : Nat) : ∀ k, 1 ≤ (it2 o k).2 ∧ (it2 o k).2 ≤ k + 1
  | 0 => ⟨Nat.le_refl _, Nat.le_refl _⟩
  | k + 1 => by
    have := it2_le o k
    show 1 ≤ (st2 o _).2 ∧ (st2 o _).2 ≤ k + 1 + 1
    unfold st2
    split <;> (try dsimp only) <;> omega
def xN (n : Nat) : Nat → Nat
  | 0 => 1 % n
  | k + 1 => 2 * xN n k % n
def XN (n : Nat) : Nat → Nat
  | 0 => 0
  | k + 1 => 2 * (XN n k + xN n k)
def YN (n a : Nat) : Nat → Nat
  | 0 => 0
  | k + 1 => 2 * (YN n a k + xN n (a + k))
theorem xN_lt {n : Nat} (h : 0 < n) : ∀ k, xN n k < n
  | 0 => Nat.mod_lt _ h
  | k + 1 => Nat.mod_lt _ h
theorem XN_le {n : Nat} (h : 0 < n) : ∀ k, XN n k + 2 * n ≤ n * 2 ^ (k + 1)
  | 0 => by simp [XN]; omega
  | k + 1 => by
    have h1 := XN_le h k
    have h2 := xN_lt h k
    have e : n * 2 ^ (k + 1 + 1) = 2 * (n * 2 ^ (k + 1)) := by rw [Nat.pow_succ]; grind
    show 2 * (XN n k + xN n k) + 2 * n ≤ _
    omega
theorem YN_le {n : Nat} (h : 0 < n) (a : Nat) : ∀ k, YN n a k + 2 * n ≤ n * 2 ^ (k + 1)
  | 0 => by simp [YN]; omega
  | k + 1 => by
    have h1 := YN_le h a k
    have h2 := xN_lt h (a + k)
    have e : n * 2 ^ (k + 1 + 1) = 2 * (n * 2 ^ (k + 1)) := by rw [Nat.pow_succ]; grind
    show 2 * (YN n a k + xN n (a + k)) + 2 * n ≤ _
    omega
theorem XN_add (n a : Nat) : ∀ r, XN n (a + r) = 2 ^ r * XN n a + YN n a r
  | 0 => by simp [YN]
  | r + 1 => by
    show 2 * (XN n (a + r) + xN n (a + r)) = 2 ^ (r + 1) * XN n a + 2 * (YN n a r + xN n (a + r))
    rw [XN_add n a r, Nat.pow_succ]
    grind
/-- the value's integer form -/
def Dn (n a r : Nat) : Int := (XN n (a + r) : Int) - XN n a
theorem Dn_eq (n a r : Nat) : Dn n a r = (XN n a : Int) * (2 ^ r - 1) + YN n a r := by
  unfold Dn
  rw [XN_add]
  have : ((2 ^ r * XN n a + YN n a r : Nat) : Int) = 2 ^ r * (XN n a : Int) + YN n a r := by simp
  rw [this]
  grind
theorem per {n a r : Nat} (h : xN n (a + r) = xN n a) : ∀ j, xN n (a + j + r) = xN n (a + j)
  | 0 => h
  | j + 1 => by
    have e : a + (j + 1) + r = (a + j + r) + 1 := by omega
    rw [e]
    show 2 * xN n (a + j + r) % n = 2 * xN n (a + j) % n
    rw [per h j]
theorem shift {n a r : Nat} (h : xN n (a + r) = xN n a) : ∀ j, Dn n (a + j) r = 2 ^ j * Dn n a r
  | 0 => by simp
  | j + 1 => by
    have e : Dn n (a + (j + 1)) r = 2 * Dn n (a + j) r := by
      unfold Dn
      have e1 : a + (j + 1) + r = (a + j + r) + 1 := by omega
      have e2 : a + (j + 1) = (a + j) + 1 := by omega
      rw [e1, e2]
      have p := per h j
      show ((2 * (XN n (a + j + r) + xN n (a + j + r)) : Nat) : Int) - ((2 * (XN n (a + j) + xN n (a + j)) : Nat) : Int) = _
      rw [p]
      omega
    rw [e, shift h j, Int.pow_succ]
    grind
theorem mult {n a r : Nat} (h : xN n (a + r) = xN n a) : ∀ k, Dn n a (k * r) * (2 ^ r - 1) = Dn n a r * (2 ^ (k * r) - 1)
  | 0 => by simp [Dn]
  | k + 1 => by
    have ih := mult h k
    have e : Dn n a ((k + 1) * r) = Dn n a (k * r) + Dn n (a + k * r) r := by
      unfold Dn
      have e1 : a + (k + 1) * r = a + k * r + r := by rw [Nat.succ_mul]; omega
      rw [e1]
      omega
    have e2 : (2 : Int) ^ ((k + 1) * r) = 2 ^ (k * r) * 2 ^ r := by rw [Nat.succ_mul, Int.pow_add]
    rw [e, shift h (k * r), e2]
    grind
theorem perm {n a r : Nat} (h : xN n (a + r) = xN n a) : ∀ k, xN n (a + k * r) = xN n a
  | 0 => by simp
  | k + 1 => by
    have e1 : a + (k + 1) * r = a + k * r + r := by rw [Nat.succ_mul]; omega
    rw [e1, per h (k * r), perm h k]
theorem pow_pos' (r : Nat) (h : 0 < r) : (0 : Int) < 2 ^ r - 1 := by
  have h1 : 1 < 2 ^ r := Nat.one_lt_two_pow (by omega)
  have h2 : ((1 : Nat) : Int) < ((2 ^ r : Nat) : Int) := Int.ofNat_lt.mpr h1
  have h3 : ((2 ^ r : Nat) : Int) = (2 : Int) ^ r := by simp
  omega
theorem cross {n a r a' r' : Nat} (h : xN n (a + r) = xN n a) (h' : xN n (a' + r') = xN n a') (hr : 0 < r) (hr' : 0 < r') :
    Dn n a r * (2 ^ a' * (2 ^ r' - 1)) = Dn n a' r' * (2 ^ a * (2 ^ r - 1)) := by
  -- both at a + a', over r * r'
  have hA : xN n (a + a' + r) = xN n (a + a') := per h a'
  have hA' : xN n (a' + a + r') = xN n (a' + a) := per h' a
  have s1 := shift h a'
  have s2 := shift h' a
  have m1 := mult hA r'
  have m2 := mult hA' r
  have e1 : a' + a = a + a' := by omega
  have e2 : r * r' = r' * r := Nat.mul_comm _ _
  rw [e1, e2] at m2
  rw [e1] at s2
  rw [s1] at m1
  rw [s2] at m2
  have p1 : (2 : Int) ^ (r' * r) - 1 ≠ 0 := by
    have := pow_pos' (r' * r) (Nat.mul_pos hr' hr)
    omega
  -- m1 : G * (2^r - 1) = 2^a' D * (2^(r' r) - 1); m2 : G * (2^r' - 1) = 2^a D' * (2^(r' r) - 1)
  have key : (Dn n a r * (2 ^ a' * (2 ^ r' - 1))) * (2 ^ (r' * r) - 1) = (Dn n a' r' * (2 ^ a * (2 ^ r - 1))) * (2 ^ (r' * r) - 1) := by
    grind
  exact Int.eq_of_mul_eq_mul_right p1 key
def V (n a r : Nat) : Rat := ((Dn n a r : Int) : Rat) / (((2 : Int) ^ a * ((2 : Int) ^ r - 1) : Int) : Rat)
theorem two_pos (a : Nat) : (0 : Int) < 2 ^ a := Int.pow_pos (by decide)
theorem V_eq {n a r a' r' : Nat} (h : xN n (a + r) = xN n a) (h' : xN n (a' + r') = xN n a') (hr : 0 < r) (hr' : 0 < r') : V n a r = V n a' r' := by
  unfold V
  have c := cross h h' hr hr'
  have d1 : (0 : Int) < 2 ^ a * (2 ^ r - 1) := Int.mul_pos (two_pos a) (pow_pos' r hr)
  have d2 : (0 : Int) < 2 ^ a' * (2 ^ r' - 1) := Int.mul_pos (two_pos a') (pow_pos' r' hr')
  rw [← Rat.divInt_eq_div, ← Rat.divInt_eq_div, Rat.divInt_eq_divInt_iff (by omega) (by omega)]
  exact c
end K38
set_option Elab.async false
set_option linter.all false
set_option maxRecDepth 100000
set_option maxHeartbeats 4000000
namespace K38
open PySem PySem.Spec PyProof.Rows L2 DL
local macro_rules | `(tactic| walk_at "w") => `(tactic| conv => whnf)
local macro_rules | `(tactic| walk_at "g") => `(tactic| ((conv => whnf); repeat' (first | (refine IFB.t ?_ ?_; rfl; conv => whnf) | (refine IFB.f ?_ ?_; rfl; conv => whnf))))

def RB (n : Nat) (q : Rat) : Prop := q.num.natAbs < 2 ^ n ∧ q.den < 2 ^ n
def sp_is_integer : DSp := fun ds S Q _ => ∃ i, ds = [.int i] ∧ Q (.bl true) S
def sp_is_natural : DSp := fun ds S Q _ => ∃ i, ds = [.int i] ∧ Q (.bl (decide (0 ≤ i))) S
def sp_is_below : DSp := fun ds S Q _ => ∃ i m, ds = [.int i, .int m] ∧ 0 ≤ i ∧ i < m ∧ Q (.bl true) S
def sp_lowest : DSp := fun ds S Q _ => ∃ t b, ds = [.int t, .int b] ∧ 0 < b ∧ b.natAbs < 2 ^ 8000 ∧ Q (fr ((t : Rat) / (b : Rat))) S
def sp_whole : DSp := fun ds S Q _ => ∃ i : Int, ds = [.int i] ∧ Q (fr (i : Rat)) S
def sp_product : DSp := fun ds S Q _ => ∃ a b, ds = [fr a, fr b] ∧ RB 4000 a ∧ RB 4000 b ∧ Q (fr (a * b)) S
def sp_power : DSp := fun ds S Q _ => ∃ n : Nat, ds = [.int 2, .int (n : Int)] ∧ n ≤ 10000 ∧ Q (.int (2 ^ n)) S
def sp_check_throws : DSp := fun ds S Q _ => ∃ n, ds = [.int n] ∧ 1 ≤ n ∧ Q .non S
theorem ok_is_integer {P : Program} {w : World} {K : PySem.W.Frag} {mg : Str → Option Value} {base : Heap} (T : Txt K mg) : FnOk P w K mg base (L2.CX P w) 1 T.a_is_integer T.fd_is_integer ["value"] (toSp K sp_is_integer) := by
  refine fnD T.F_is_integer sc_is_integer (fun ds S Q E h => ?_) (fun cdv A outer s H E RX hr => ⟨_, (pds_one (pd_ret (pd_and (pd_isi1 .int (pd_var 0) T.b_isinstance T.b_int) (pd_one (pd_not (pd_isi1 .bool (pd_var 0) T.b_isinstance T.b_bool)))))), fun ds S Q h => ?_⟩)
  · obtain ⟨_, rfl, _⟩ := h
    rfl
  · obtain ⟨i, rfl, h⟩ := h
    walk_at "g"
    exact h
theorem ok_is_natural {P : Program} {w : World} {K : PySem.W.Frag} {mg : Str → Option Value} {base : Heap} (T : Txt K mg) : FnOk P w K mg base (L2.CX P w) 2 T.a_is_natural T.fd_is_natural ["value"] (toSp K sp_is_natural) := by
  refine fnD T.F_is_natural sc_is_natural (fun ds S Q E h => ?_) (fun cdv A outer s H E RX hr => ⟨_, (pds_one (pd_ret (pd_and (pd_call (takes_of rfl rfl rfl rfl) (ok_is_integer T) (hr.mono (by decide)) T.m_is_integer T.F_is_integer.kp T.d_is_integer (pda_cons (pd_var 0) pda_nil)) (pd_one (pd_cmp od_ge (pd_var 0) pd_int))))), fun ds S Q h => ?_⟩)
  · obtain ⟨_, rfl, _⟩ := h
    rfl
  · obtain ⟨i, rfl, h⟩ := h
    walk_at "g"
    refine ⟨i, rfl, ?_⟩
    walk_at "g"
    exact h
theorem ok_is_below {P : Program} {w : World} {K : PySem.W.Frag} {mg : Str → Option Value} {base : Heap} (T : Txt K mg) : FnOk P w K mg base (L2.CX P w) 3 T.a_is_below T.fd_is_below ["value", "many"] (toSp K sp_is_below) := by
  refine fnD T.F_is_below sc_is_below (fun ds S Q E h => ?_) (fun cdv A outer s H E RX hr => ⟨_, (pds_one (pd_ret (pd_and (pd_call (takes_of rfl rfl rfl rfl) (ok_is_natural T) (hr.mono (by decide)) T.m_is_natural T.F_is_natural.kp T.d_is_natural (pda_cons (pd_var 0) pda_nil)) (pd_one (pd_cmp od_lt (pd_var 0) (pd_var 1)))))), fun ds S Q h => ?_⟩)
  · obtain ⟨_, _, rfl, _⟩ := h
    rfl
  · obtain ⟨i, m, rfl, h0, h1, h⟩ := h
    walk_at "g"
    refine ⟨i, rfl, ?_⟩
    walk_at "w"
    refine IFB.t (decide_eq_true h0) ?_
    walk_at "w"
    rw [decide_eq_true h1]
    exact h
theorem ok_lowest {P : Program} {w : World} {K : PySem.W.Frag} {mg : Str → Option Value} {base : Heap} (T : Txt K mg) : FnOk P w K mg base (L2.CX P w) 1 T.a_lowest T.fd_lowest ["top", "bottom"] (toSp K sp_lowest) := by
  refine fnD T.F_lowest sc_lowest (fun ds S Q E h => ?_) (fun cdv A outer s H E RX hr => ⟨_, (pds_cons (pd_set 2 sc_lowest.nd (pd_bltFun cd_gcd T.i_gcd (pda_cons (pd_var 0) (pda_cons (pd_var 1) pda_nil))))
    (pds_cons (pd_ifS (pdt_cmp od_lt (pd_var 1) pd_int) (pds_one (pd_set 2 sc_lowest.nd (pd_neg (pd_var 2)))) pds_nil)
    (pds_one (pd_ret (pd_tup (pda_cons (pd_bin od_fdiv (pd_var 0) (pd_var 2)) (pda_cons (pd_bin od_fdiv (pd_var 1) (pd_var 2)) pda_nil))))))), fun ds S Q h => ?_⟩)
  · obtain ⟨_, _, rfl, _⟩ := h
    rfl
  · obtain ⟨t, b, rfl, h0, hb, h⟩ := h
    walk_at "w"
    refine IFB.f (decide_eq_false (by omega)) ?_
    walk_at "w"
    refine ⟨gcd_w h0 hb (by decide) (by decide) _, ?_⟩
    walk_at "w"
    refine ⟨gcd_w h0 hb (by decide) (by decide) _, ?_⟩
    walk_at "w"
    rw [low_fr h0]
    exact h
theorem ok_whole {P : Program} {w : World} {K : PySem.W.Frag} {mg : Str → Option Value} {base : Heap} (T : Txt K mg) : FnOk P w K mg base (L2.CX P w) 1 T.a_whole T.fd_whole ["a"] (toSp K sp_whole) := by
  refine fnD T.F_whole sc_whole (fun ds S Q E h => ?_) (fun cdv A outer s H E RX hr => ⟨_, (pds_one (pd_ret (pd_tup (pda_cons (pd_var 0) (pda_cons pd_int pda_nil))))), fun ds S Q h => ?_⟩)
  · obtain ⟨_, rfl, _⟩ := h
    rfl
  · obtain ⟨i, rfl, h⟩ := h
    walk_at "w"
    exact h
theorem ok_product {P : Program} {w : World} {K : PySem.W.Frag} {mg : Str → Option Value} {base : Heap} (T : Txt K mg) : FnOk P w K mg base (L2.CX P w) 2 T.a_product T.fd_product ["a", "b"] (toSp K sp_product) := by
  refine fnD T.F_product sc_product (fun ds S Q E h => ?_) (fun cdv A outer s H E RX hr => ⟨_, (pds_one (pd_ret (pd_call (takes_of rfl rfl rfl rfl) (ok_lowest T) (hr.mono (by decide)) T.m_lowest T.F_lowest.kp T.d_lowest (pda_cons (pd_bin od_mul (pd_ix (pd_var 0) pd_int) (pd_ix (pd_var 1) pd_int)) (pda_cons (pd_bin od_mul (pd_ix (pd_var 0) pd_int) (pd_ix (pd_var 1) pd_int)) pda_nil))))), fun ds S Q h => ?_⟩)
  · obtain ⟨_, _, rfl, _⟩ := h
    rfl
  · obtain ⟨a, b, rfl, ha, hb, h⟩ := h
    walk_at "w"
    refine ⟨_, rfl, ?_⟩
    walk_at "w"
    refine ⟨_, rfl, ?_⟩
    walk_at "w"
    refine ⟨.inl (wide_mul ha.1 hb.1 (by decide) (by decide) (by decide)), ?_⟩
    walk_at "w"
    refine ⟨_, rfl, ?_⟩
    walk_at "w"
    refine ⟨_, rfl, ?_⟩
    walk_at "w"
    have h1 : ((a.den : Int)).natAbs < 2 ^ 4000 := by rw [Int.natAbs_natCast]; exact ha.2
    have h2 : ((b.den : Int)).natAbs < 2 ^ 4000 := by rw [Int.natAbs_natCast]; exact hb.2
    refine ⟨.inl (wide_mul h1 h2 (by decide) (by decide) (by decide)), ?_⟩
    walk_at "w"
    refine ⟨_, _, rfl, Int.mul_pos (den_pos' a) (den_pos' b), ?_, ?_⟩
    · exact wide_lt h1 h2
    · walk_at "w"
      rw [mul_fr]
      exact h
theorem ok_power {P : Program} {w : World} {K : PySem.W.Frag} {mg : Str → Option Value} {base : Heap} (T : Txt K mg) : FnOk P w K mg base (L2.CX P w) 1 T.a_power T.fd_power ["b", "n"] (toSp K sp_power) := by
  refine fnD T.F_power sc_power (fun ds S Q E h => ?_) (fun cdv A outer s H E RX hr => ⟨_, (pds_cons (pd_set 2 sc_power.nd pd_int)
    (pds_cons (pd_for (passes_of rfl) rfl (pdi_range1 T.b_range (pda_cons (pd_var 1) pda_nil)) (pdg_name 3 sc_power.nd) (pds_one (pd_set 2 sc_power.nd (pd_bin od_mul (pd_var 2) (pd_var 0)))))
    (pds_one (pd_ret (pd_var 2))))), fun ds S Q h => ?_⟩)
  · obtain ⟨_, rfl, _⟩ := h
    rfl
  · obtain ⟨n, rfl, hn, h⟩ := h
    walk_at "w"
    refine ⟨⟨by omega, by omega⟩, for_rg (fun i ρ' S' => S' = S ∧ ∃ o, ρ' = [some (.int 2), some (.int n), some (.int (2 ^ i)), o]) ⟨rfl, _, rfl⟩ ?_ ?_⟩
    · rintro i _ _ hi ⟨rfl, o, rfl⟩
      walk_at "w"
      refine ⟨small_r (by decide) (by decide), ?_⟩
      walk_at "w"
      exact ⟨rfl, _, by rw [Int.pow_succ]; rfl⟩
    · rintro _ _ ⟨rfl, o, rfl⟩
      walk_at "w"
      exact h
theorem ok_check_throws {P : Program} {w : World} {K : PySem.W.Frag} {mg : Str → Option Value} {base : Heap} (T : Txt K mg) : FnOk P w K mg base (L2.CX P w) 2 T.a_check_throws T.fd_check_throws ["n"] (toSp K sp_check_throws) := by
  refine fnD T.F_check_throws sc_check_throws (fun ds S Q E h => ?_) (fun cdv A outer s H E RX hr => ⟨_, (pds_one (pd_ifS (PDW.pt (pdw_or (pdt_not (pdt_tru (pd_call (takes_of rfl rfl rfl rfl) (ok_is_integer T) (hr.mono (by decide)) T.m_is_integer T.F_is_integer.kp T.d_is_integer (pda_cons (pd_var 0) pda_nil)))) (pdw_or1 (pdt_cmp od_lt (pd_var 0) pd_int)))) (pds_one pd_never) pds_nil)), fun ds S Q h => ?_⟩)
  · obtain ⟨_, rfl, _⟩ := h
    rfl
  · obtain ⟨i, rfl, h0, h⟩ := h
    walk_at "w"
    refine ⟨i, rfl, ?_⟩
    walk_at "g"
    refine IFB.f (decide_eq_false (by omega)) ?_
    walk_at "g"
    exact h
end K38
set_option Elab.async false
set_option linter.all false
set_option maxRecDepth 100000
set_option maxHeartbeats 4000000
namespace K38
open PySem PySem.Spec PyProof.Rows L2 DL
local macro_rules | `(tactic| walk_at "w") => `(tactic| conv => whnf)
local macro_rules | `(tactic| walk_at "g") => `(tactic| ((conv => whnf); repeat' (first | (refine IFB.t ?_ ?_; rfl; conv => whnf) | (refine IFB.f ?_ ?_; rfl; conv => whnf))))

def dA (n : Nat) : Nat := dblA n (Nat.log2 n + 1)
def dO (n : Nat) : Nat := dblO n (Nat.log2 n + 1)
def dR (n : Nat) : Nat := dblR n (Nat.log2 n + 1)
def tossN (n : Nat) : Int := (XN n (dA n) : Int) * (2 ^ dR n - 1) + YN n (dA n) (dR n)
def tossD (n : Nat) : Int := (n : Int) * 2 ^ dA n * (2 ^ dR n - 1)
def tossV (n : Nat) : Rat := (tossN n : Rat) / (tossD n : Rat)
def eV (n : Nat) : Rat := ((n : Int) : Rat) * tossV n
def sp_doublings : DSp := fun ds S Q _ => ∃ n : Nat, ds = [.int n] ∧ 0 < n ∧ n ≤ 1000 ∧ Q (.tup [.int (dA n), .int (dR n)]) S
def sp_toss_cost : DSp := fun ds S Q _ => ∃ n : Nat, ds = [.tup [.int 1, .int n]] ∧ 0 < n ∧ n ≤ 1000 ∧ Q (fr (tossV n)) S
def sp_even_of : DSp := fun ds S Q _ => ∃ n : Nat, ds = [.int n] ∧ 0 < n ∧ n ≤ 1000 ∧ Q (fr (eV n)) S
def sp_even_mean : DSp := sp_even_of
def sp_shuffle_mean : DSp := fun ds S Q _ => ∃ n : Nat, ds = [.int n] ∧ 0 < n ∧ n ≤ 6 ∧ Q (fr (eV (Builtin.Math.factorialNat n))) S
def sp_lot_mean : DSp := fun ds S Q _ => ∃ n k : Nat, ds = [.int n, .int k] ∧ 0 < n ∧ n ≤ 12 ∧ k ≤ n ∧ Q (fr (eV (PySem.W.mcComb n k).toNat)) S
theorem dO_pos {n : Nat} (h : 0 < n) : 0 < dO n := it1_pos h _
theorem dO_le (n : Nat) : dO n ≤ n := (it1_le n _).1
theorem dA_le {n : Nat} (h : 0 < n) (h1 : n ≤ 1000) : dA n ≤ 10 := by
  have h2 := (it1_le n (Nat.log2 n + 1)).2
  have h3 : Nat.log2 n < 10 := (Nat.log2_lt (by omega)).mpr (by omega)
  show (it1 n (Nat.log2 n + 1)).2 ≤ 10
  omega
theorem dR_le {n : Nat} (h1 : n ≤ 1000) : 1 ≤ dR n ∧ dR n ≤ 1001 := by
  have h2 := it2_le (dO n) (dO n)
  have h3 := dO_le n
  show 1 ≤ (it2 (dO n) (dO n)).2 ∧ (it2 (dO n) (dO n)).2 ≤ 1001
  omega
theorem bits_n {n : Nat} (h : 0 < n) : Builtin.Int.intBits (n : Int) = Nat.log2 n + 1 := by
  unfold Builtin.Int.intBits
  rw [if_neg (by simp; omega), Int.natAbs_natCast]
theorem lt_p {x : Nat} {n : Nat} (h : x < 2 ^ n) : ((x : Nat) : Int).natAbs < 2 ^ n := by rw [Int.natAbs_natCast]; exact h
theorem pm_nat (r : Nat) : (2 : Int) ^ r - 1 = ((2 ^ r - 1 : Nat) : Int) := by
  have : 1 ≤ 2 ^ r := Nat.one_le_two_pow
  rw [Int.ofNat_sub this]
  simp
theorem pm_lt (r : Nat) : (2 ^ r - 1 : Nat) < 2 ^ r := by
  have : 1 ≤ 2 ^ r := Nat.one_le_two_pow
  omega
theorem p2_nat (r : Nat) : (2 : Int) ^ r = ((2 ^ r : Nat) : Int) := by simp
theorem XN_lt {n k : Nat} (h : 0 < n) (h1 : n ≤ 1000) : XN n k < 2 ^ (k + 11) := by
  have h2 := XN_le h k
  have h3 : n * 2 ^ (k + 1) ≤ 2 ^ 10 * 2 ^ (k + 1) := Nat.mul_le_mul_right _ (by omega)
  rw [← Nat.pow_add] at h3
  have e : 10 + (k + 1) = k + 11 := by omega
  rw [e] at h3
  omega
theorem YN_lt {n a k : Nat} (h : 0 < n) (h1 : n ≤ 1000) : YN n a k < 2 ^ (k + 11) := by
  have h2 := YN_le h a k
  have h3 : n * 2 ^ (k + 1) ≤ 2 ^ 10 * 2 ^ (k + 1) := Nat.mul_le_mul_right _ (by omega)
  rw [← Nat.pow_add] at h3
  have e : 10 + (k + 1) = k + 11 := by omega
  rw [e] at h3
  omega
theorem lt_mono {x a b : Nat} (h : x < 2 ^ a) (hab : a ≤ b) : x < 2 ^ b := Nat.lt_of_lt_of_le h (Nat.pow_le_pow_right (by decide) hab)
theorem tossD_pos {n : Nat} (h : 0 < n) (h1 : n ≤ 1000) : 0 < tossD n := Int.mul_pos (Int.mul_pos (by omega) (two_pos _)) (pow_pos' _ (dR_le h1).1)
theorem tossD_lt {n : Nat} (h : 0 < n) (h1 : n ≤ 1000) : (tossD n).natAbs < 2 ^ 1100 := by
  unfold tossD
  rw [p2_nat, pm_nat]
  have a := dA_le h h1
  have r := dR_le h1
  have b1 : ((n : Int)).natAbs < 2 ^ 10 := lt_p (by omega)
  have b2 : ((2 ^ dA n : Nat) : Int).natAbs < 2 ^ 11 := lt_p (Nat.pow_lt_pow_right (by decide) (by omega))
  have b3 : ((2 ^ dR n - 1 : Nat) : Int).natAbs < 2 ^ 1001 := lt_p (lt_mono (pm_lt _) r.2)
  exact lt_mono (wide_lt (wide_lt b1 b2) b3) (by decide)
theorem tossN_lt {n : Nat} (h : 0 < n) (h1 : n ≤ 1000) : (tossN n).natAbs < 2 ^ 1100 := by
  unfold tossN
  rw [pm_nat]
  have a := dA_le h h1
  have r := dR_le h1
  have b1 : ((XN n (dA n) : Nat) : Int).natAbs < 2 ^ 21 := lt_p (lt_mono (XN_lt h h1) (by omega))
  have b3 : ((2 ^ dR n - 1 : Nat) : Int).natAbs < 2 ^ 1001 := lt_p (lt_mono (pm_lt _) r.2)
  have b4 : ((YN n (dA n) (dR n) : Nat) : Int).natAbs < 2 ^ 1022 := lt_p (lt_mono (YN_lt h h1) (by omega))
  have b5 := wide_lt b1 b3
  have b6 : (2 : Nat) ^ (21 + 1001) + 2 ^ 1022 ≤ 2 ^ 1100 := by decide +kernel
  omega
theorem rb_div {t b : Int} {n : Nat} (hb : 0 < b) (h1 : t.natAbs < 2 ^ n) (h2 : b.natAbs < 2 ^ n) : RB n ((t : Rat) / (b : Rat)) := by
  constructor
  · rw [← low_num hb]
    exact Nat.lt_of_le_of_lt (by rw [Int.natAbs_ediv_of_dvd (Int.natAbs_dvd_natAbs.mp (by rw [Int.natAbs_natCast]; exact Nat.gcd_dvd_left _ _))]; exact Nat.div_le_self _ _) h1
  · have e := low_den (t := t) hb
    have : ((((t : Rat) / (b : Rat)).den : Nat) : Int) ≤ b := by
      rw [← e]
      exact Int.ediv_le_self _ (by omega)
    omega
theorem RB.mono {n m : Nat} {q : Rat} (h : RB n q) (l : n ≤ m) : RB m q := ⟨lt_mono h.1 l, lt_mono h.2 l⟩
theorem ok_doublings {P : Program} {w : World} {K : PySem.W.Frag} {mg : Str → Option Value} {base : Heap} (T : Txt K mg) : FnOk P w K mg base (L2.CX P w) 1 T.a_doublings T.fd_doublings ["bottom"] (toSp K sp_doublings) := by
  refine fnD T.F_doublings sc_doublings (fun ds S Q E h => ?_) (fun cdv A outer s H E RX hr => ⟨_, (pds_cons (pd_par 1 2 rfl sc_doublings.nd (pda_cons (pd_var 0) (pda_cons pd_int pda_nil)) rfl)
    (pds_cons (pd_for (passes_of rfl) rfl (pdi_range1 T.b_range (pda_cons (pd_bits (pd_var 0)) pda_nil)) (pdg_name 3 sc_doublings.nd) (pds_one (pd_ifS (pdt_cmp (od_eq hr.units) (pd_bin od_mod (pd_var 1) pd_int) pd_int) (pds_one (pd_par 1 2 rfl sc_doublings.nd (pda_cons (pd_bin od_fdiv (pd_var 1) pd_int) (pda_cons (pd_bin od_add (pd_var 2) pd_int) pda_nil)) rfl)) pds_nil)))
    (pds_cons (pd_par 4 5 rfl sc_doublings.nd (pda_cons pd_int (pda_cons (pd_bin od_mod pd_int (pd_var 1)) pda_nil)) rfl)
    (pds_cons (pd_for (passes_of rfl) rfl (pdi_range1 T.b_range (pda_cons (pd_var 1) pda_nil)) (pdg_name 3 sc_doublings.nd) (pds_one (pd_ifS (pdt_cmp (od_ne hr.units) (pd_var 5) (pd_bin od_mod pd_int (pd_var 1))) (pds_one (pd_par 5 4 rfl sc_doublings.nd (pda_cons (pd_bin od_mod (pd_bin od_mul pd_int (pd_var 5)) (pd_var 1)) (pda_cons (pd_bin od_add (pd_var 4) pd_int) pda_nil)) rfl)) pds_nil)))
    (pds_one (pd_ret (pd_tup (pda_cons (pd_var 2) (pda_cons (pd_var 4) pda_nil))))))))), fun ds S Q h => ?_⟩)
  · obtain ⟨_, rfl, _⟩ := h
    rfl
  · obtain ⟨n, rfl, h0, h1, h⟩ := h
    walk_at "w"
    rw [bits_n h0]
    have hl : Nat.log2 n < 10 := (Nat.log2_lt (by omega)).mpr (by omega)
    refine ⟨⟨by omega, by omega⟩, for_rg (fun i ρ' S' => S' = S ∧ ∃ o, ρ' = [some (.int n), some (.int (it1 n i).1), some (.int (it1 n i).2), o, none, none]) ⟨rfl, _, rfl⟩ ?_ ?_⟩
    · rintro i _ _ hi ⟨rfl, o, rfl⟩
      walk_at "w"
      refine ⟨by decide, ?_⟩
      walk_at "w"
      refine IFB.p (fun c => ?_) (fun c => ?_)
      · have e : it1 n (i + 1) = ((it1 n i).1 / 2, (it1 n i).2 + 1) := by
          show st1 _ = _
          unfold st1
          rw [if_pos (by omega)]
        walk_at "w"
        refine ⟨div_s (by decide) (by decide), ?_⟩
        walk_at "w"
        exact ⟨rfl, _, by rw [e]; rfl⟩
      · have e : it1 n (i + 1) = it1 n i := by
          show st1 _ = _
          unfold st1
          rw [if_neg (by omega)]
        walk_at "w"
        exact ⟨rfl, _, by rw [e]; rfl⟩
    · rintro _ s0 ⟨e_, o, rfl⟩
      subst e_
      have e0 : ((Nat.log2 n + 1 : Nat) : Int).toNat = Nat.log2 n + 1 := by omega
      rw [e0]
      have hp : 0 < dO n := dO_pos h0
      have hle := dO_le n
      walk_at "w"
      refine ⟨by show (0 : Int) < ((dO n : Nat) : Int); omega, ?_⟩
      walk_at "w"
      refine ⟨⟨by show ((dO n : Nat) : Int) < _; omega, by show _ ≤ ((dO n : Nat) : Int); omega⟩, for_rg (fun i ρ' S' => S' = s0 ∧ ∃ o, ρ' = [some (.int n), some (.int (dO n)), some (.int (dA n)), o, some (.int (it2 (dO n) i).2), some (.int (it2 (dO n) i).1)]) ⟨rfl, _, rfl⟩ ?_ ?_⟩
      · rintro i _ _ hi ⟨rfl, o, rfl⟩
        walk_at "w"
        refine ⟨by omega, ?_⟩
        walk_at "w"
        refine IFB.np (fun c => ?_) (fun c => ?_)
        · have e : it2 (dO n) (i + 1) = (2 * (it2 (dO n) i).1 % dO n, (it2 (dO n) i).2 + 1) := by
            show st2 _ _ = _
            unfold st2
            rw [if_neg (fun z => c (by rw [z]; rfl))]
          walk_at "w"
          refine ⟨small_l (by decide) (by decide), ?_⟩
          walk_at "w"
          refine ⟨by omega, ?_⟩
          walk_at "w"
          exact ⟨rfl, _, by rw [e]; rfl⟩
        · have e : it2 (dO n) (i + 1) = it2 (dO n) i := by
            show st2 _ _ = _
            unfold st2
            rw [if_pos (by have c' : (((it2 (dO n) i).1 : Nat) : Int) = ((1 % dO n : Nat) : Int) := c; omega)]
          walk_at "w"
          exact ⟨rfl, _, by rw [e]; rfl⟩
      · rintro _ _ ⟨rfl, o, rfl⟩
        walk_at "w"
        exact h
theorem ok_toss_cost {P : Program} {w : World} {K : PySem.W.Frag} {mg : Str → Option Value} {base : Heap} (T : Txt K mg) : FnOk P w K mg base (L2.CX P w) 2 T.a_toss_cost T.fd_toss_cost ["number"] (toSp K sp_toss_cost) := by
  refine fnD T.F_toss_cost sc_toss_cost (fun ds S Q E h => ?_) (fun cdv A outer s H E RX hr => ⟨_, (pds_cons (pd_asg (pd_var 0) (pdg_tup rfl (pdgs_cons (pdg_name 1 sc_toss_cost.nd) (pdgs_cons (pdg_name 2 sc_toss_cost.nd) pdgs_nil))))
    (pds_cons (pd_asg (pd_call (takes_of rfl rfl rfl rfl) (ok_doublings T) (hr.mono (by decide)) T.m_doublings T.F_doublings.kp T.d_doublings (pda_cons (pd_var 2) pda_nil)) (pdg_tup rfl (pdgs_cons (pdg_name 3 sc_toss_cost.nd) (pdgs_cons (pdg_name 4 sc_toss_cost.nd) pdgs_nil))))
    (pds_cons (pd_par3 5 6 7 rfl sc_toss_cost.nd (pda_cons (pd_bin od_mod (pd_var 1) (pd_var 2)) (pda_cons pd_int (pda_cons pd_int pda_nil))) rfl)
    (pds_cons (pd_for (passes_of rfl) rfl (pdi_range1 T.b_range (pda_cons (pd_var 3) pda_nil)) (pdg_name 8 sc_toss_cost.nd) (pds_one (pd_par 6 5 rfl sc_toss_cost.nd (pda_cons (pd_bin od_mul pd_int (pd_bin od_add (pd_var 6) (pd_var 5))) (pda_cons (pd_bin od_mod (pd_bin od_mul pd_int (pd_var 5)) (pd_var 2)) pda_nil)) rfl)))
    (pds_cons (pd_for (passes_of rfl) rfl (pdi_range1 T.b_range (pda_cons (pd_var 4) pda_nil)) (pdg_name 8 sc_toss_cost.nd) (pds_one (pd_par 7 5 rfl sc_toss_cost.nd (pda_cons (pd_bin od_mul pd_int (pd_bin od_add (pd_var 7) (pd_var 5))) (pda_cons (pd_bin od_mod (pd_bin od_mul pd_int (pd_var 5)) (pd_var 2)) pda_nil)) rfl)))
    (pds_cons (pd_set 9 sc_toss_cost.nd (pd_bin od_sub (pd_call (takes_of rfl rfl rfl rfl) (ok_power T) (hr.mono (by decide)) T.m_power T.F_power.kp T.d_power (pda_cons pd_int (pda_cons (pd_var 4) pda_nil))) pd_int))
    (pds_one (pd_ret (pd_call (takes_of rfl rfl rfl rfl) (ok_lowest T) (hr.mono (by decide)) T.m_lowest T.F_lowest.kp T.d_lowest (pda_cons (pd_bin od_add (pd_bin od_mul (pd_var 6) (pd_var 9)) (pd_var 7)) (pda_cons (pd_bin od_mul (pd_bin od_mul (pd_var 2) (pd_call (takes_of rfl rfl rfl rfl) (ok_power T) (hr.mono (by decide)) T.m_power T.F_power.kp T.d_power (pda_cons pd_int (pda_cons (pd_var 3) pda_nil)))) (pd_var 9)) pda_nil))))))))))), fun ds S Q h => ?_⟩)
  · obtain ⟨_, rfl, _⟩ := h
    rfl
  · obtain ⟨n, rfl, h0, h1, h⟩ := h
    have ha := dA_le h0 h1
    have hr1 := dR_le h1
    have hxp : ∀ k, xN n k < n := xN_lt h0
    walk_at "w"
    refine ⟨rfl, ?_⟩
    walk_at "w"
    refine ⟨n, rfl, h0, h1, ?_⟩
    walk_at "w"
    refine ⟨rfl, ?_⟩
    walk_at "w"
    refine ⟨by omega, ?_⟩
    walk_at "w"
    refine ⟨⟨by omega, by omega⟩, for_rg (fun i ρ' S' => S' = S ∧ ∃ o, ρ' = [some (.tup [.int 1, .int n]), some (.int 1), some (.int n), some (.int (dA n)), some (.int (dR n)), some (.int (xN n i)), some (.int (XN n i)), some (.int 0), o, none]) ⟨rfl, _, rfl⟩ ?_ ?_⟩
    · rintro i _ _ hi ⟨rfl, o, rfl⟩
      walk_at "w"
      refine ⟨small_l (by decide) (by decide), ?_⟩
      walk_at "w"
      refine ⟨small_l (by decide) (by decide), ?_⟩
      walk_at "w"
      refine ⟨by omega, ?_⟩
      walk_at "w"
      exact ⟨rfl, _, rfl⟩
    · rintro _ s0 ⟨e_, o, rfl⟩
      subst e_
      have e0 : ((dA n : Nat) : Int).toNat = dA n := by omega
      rw [e0]
      walk_at "w"
      refine ⟨⟨by omega, by omega⟩, for_rg (fun i ρ' S' => S' = s0 ∧ ∃ o, ρ' = [some (.tup [.int 1, .int n]), some (.int 1), some (.int n), some (.int (dA n)), some (.int (dR n)), some (.int (xN n (dA n + i))), some (.int (XN n (dA n))), some (.int (YN n (dA n) i)), o, none]) ⟨rfl, _, rfl⟩ ?_ ?_⟩
      · rintro i _ _ hi ⟨rfl, o, rfl⟩
        walk_at "w"
        refine ⟨small_l (by decide) (by decide), ?_⟩
        walk_at "w"
        refine ⟨small_l (by decide) (by decide), ?_⟩
        walk_at "w"
        refine ⟨by omega, ?_⟩
        walk_at "w"
        exact ⟨rfl, _, rfl⟩
      · rintro _ _ ⟨rfl, o, rfl⟩
        have e0 : ((dR n : Nat) : Int).toNat = dR n := by omega
        rw [e0]
        have b1 : ((XN n (dA n) : Nat) : Int).natAbs < 2 ^ 21 := lt_p (lt_mono (XN_lt h0 h1) (by omega))
        have b3 : ((2 : Int) ^ dR n - 1).natAbs < 2 ^ 1001 := by rw [pm_nat]; exact lt_p (lt_mono (pm_lt _) hr1.2)
        have b5 : ((n : Int)).natAbs < 2 ^ 10 := lt_p (by omega)
        have b6 : ((2 : Int) ^ dA n).natAbs < 2 ^ 11 := by rw [p2_nat]; exact lt_p (Nat.pow_lt_pow_right (by decide) (by omega))
        walk_at "w"
        refine ⟨dR n, rfl, by omega, ?_⟩
        walk_at "w"
        refine ⟨.inl (wide_mul b1 b3 (by decide) (by decide) (by decide)), ?_⟩
        walk_at "w"
        refine ⟨dA n, rfl, by omega, ?_⟩
        walk_at "w"
        refine ⟨.inl (wide_mul b5 b6 (by decide) (by decide) (by decide)), ?_⟩
        walk_at "w"
        refine ⟨.inl (wide_mul (wide_lt b5 b6) b3 (by decide) (by decide) (by decide)), ?_⟩
        walk_at "w"
        exact ⟨_, _, rfl, tossD_pos h0 h1, lt_mono (tossD_lt h0 h1) (by decide), h⟩
theorem ok_even_of {P : Program} {w : World} {K : PySem.W.Frag} {mg : Str → Option Value} {base : Heap} (T : Txt K mg) : FnOk P w K mg base (L2.CX P w) 3 T.a_even_of T.fd_even_of ["n"] (toSp K sp_even_of) := by
  refine fnD T.F_even_of sc_even_of (fun ds S Q E h => ?_) (fun cdv A outer s H E RX hr => ⟨_, (pds_one (pd_ret (pd_call (takes_of rfl rfl rfl rfl) (ok_product T) (hr.mono (by decide)) T.m_product T.F_product.kp T.d_product (pda_cons (pd_call (takes_of rfl rfl rfl rfl) (ok_whole T) (hr.mono (by decide)) T.m_whole T.F_whole.kp T.d_whole (pda_cons (pd_var 0) pda_nil)) (pda_cons (pd_call (takes_of rfl rfl rfl rfl) (ok_toss_cost T) (hr.mono (by decide)) T.m_toss_cost T.F_toss_cost.kp T.d_toss_cost (pda_cons (pd_tup (pda_cons pd_int (pda_cons (pd_var 0) pda_nil))) pda_nil)) pda_nil))))), fun ds S Q h => ?_⟩)
  · obtain ⟨_, rfl, _⟩ := h
    rfl
  · obtain ⟨n, rfl, h0, h1, h⟩ := h
    walk_at "w"
    refine ⟨n, rfl, ?_⟩
    walk_at "w"
    refine ⟨n, rfl, h0, h1, ?_⟩
    walk_at "w"
    have rb1 : RB 4000 (((n : Int) : Rat)) := ⟨lt_mono (a := 10) (lt_p (by omega)) (by decide), by show 1 < _; decide +kernel⟩
    exact ⟨_, _, rfl, rb1, (rb_div (tossD_pos h0 h1) (tossN_lt h0 h1) (tossD_lt h0 h1)).mono (by decide), h⟩
theorem ok_even_mean {P : Program} {w : World} {K : PySem.W.Frag} {mg : Str → Option Value} {base : Heap} (T : Txt K mg) : FnOk P w K mg base (L2.CX P w) 4 T.a_even_mean T.fd_even_mean ["n"] (toSp K sp_even_mean) := by
  refine fnD T.F_even_mean sc_even_mean (fun ds S Q E h => ?_) (fun cdv A outer s H E RX hr => ⟨_, (pds_cons (pd_expr (pd_call (takes_of rfl rfl rfl rfl) (ok_check_throws T) (hr.mono (by decide)) T.m_check_throws T.F_check_throws.kp T.d_check_throws (pda_cons (pd_var 0) pda_nil)))
    (pds_one (pd_ret (pd_call (takes_of rfl rfl rfl rfl) (ok_even_of T) (hr.mono (by decide)) T.m_even_of T.F_even_of.kp T.d_even_of (pda_cons (pd_var 0) pda_nil))))), fun ds S Q h => ?_⟩)
  · obtain ⟨_, rfl, _⟩ := h
    rfl
  · obtain ⟨n, rfl, h0, h1, h⟩ := h
    walk_at "w"
    refine ⟨n, rfl, by omega, ?_⟩
    walk_at "w"
    exact ⟨n, rfl, h0, h1, h⟩
theorem ok_shuffle_mean {P : Program} {w : World} {K : PySem.W.Frag} {mg : Str → Option Value} {base : Heap} (T : Txt K mg) : FnOk P w K mg base (L2.CX P w) 4 T.a_shuffle_mean T.fd_shuffle_mean ["n"] (toSp K sp_shuffle_mean) := by
  refine fnD T.F_shuffle_mean sc_shuffle_mean (fun ds S Q E h => ?_) (fun cdv A outer s H E RX hr => ⟨_, (pds_cons (pd_expr (pd_call (takes_of rfl rfl rfl rfl) (ok_check_throws T) (hr.mono (by decide)) T.m_check_throws T.F_check_throws.kp T.d_check_throws (pda_cons (pd_var 0) pda_nil)))
    (pds_one (pd_ret (pd_call (takes_of rfl rfl rfl rfl) (ok_even_of T) (hr.mono (by decide)) T.m_even_of T.F_even_of.kp T.d_even_of (pda_cons (pd_bltFun cd_factorial T.i_factorial (pda_cons (pd_var 0) pda_nil)) pda_nil))))), fun ds S Q h => ?_⟩)
  · obtain ⟨_, rfl, _⟩ := h
    rfl
  · obtain ⟨n, rfl, h0, h1, h⟩ := h
    walk_at "w"
    refine ⟨n, rfl, by omega, ?_⟩
    walk_at "w"
    refine ⟨⟨by omega, by omega⟩, ?_⟩
    walk_at "w"
    have e : ((n : Nat) : Int).toNat = n := by omega
    rw [e]
    refine ⟨Builtin.Math.factorialNat n, rfl, ?_, ?_, h⟩
    · exact (by decide +kernel : ∀ n : Nat, n < 7 → 0 < Builtin.Math.factorialNat n) n (by omega)
    · exact (by decide +kernel : ∀ n : Nat, n < 7 → Builtin.Math.factorialNat n ≤ 1000) n (by omega)
theorem ok_lot_mean {P : Program} {w : World} {K : PySem.W.Frag} {mg : Str → Option Value} {base : Heap} (T : Txt K mg) : FnOk P w K mg base (L2.CX P w) 4 T.a_lot_mean T.fd_lot_mean ["n", "k"] (toSp K sp_lot_mean) := by
  refine fnD T.F_lot_mean sc_lot_mean (fun ds S Q E h => ?_) (fun cdv A outer s H E RX hr => ⟨_, (pds_cons (pd_expr (pd_call (takes_of rfl rfl rfl rfl) (ok_check_throws T) (hr.mono (by decide)) T.m_check_throws T.F_check_throws.kp T.d_check_throws (pda_cons (pd_var 0) pda_nil)))
    (pds_cons (pd_ifS (pdt_not (pdt_tru (pd_call (takes_of rfl rfl rfl rfl) (ok_is_below T) (hr.mono (by decide)) T.m_is_below T.F_is_below.kp T.d_is_below (pda_cons (pd_var 1) (pda_cons (pd_bin od_add (pd_var 0) pd_int) pda_nil))))) (pds_one pd_never) pds_nil)
    (pds_one (pd_ret (pd_call (takes_of rfl rfl rfl rfl) (ok_even_of T) (hr.mono (by decide)) T.m_even_of T.F_even_of.kp T.d_even_of (pda_cons (pd_bltFun cd_comb T.i_comb (pda_cons (pd_var 0) (pda_cons (pd_var 1) pda_nil))) pda_nil)))))), fun ds S Q h => ?_⟩)
  · obtain ⟨_, _, rfl, _⟩ := h
    rfl
  · obtain ⟨n, k, rfl, h0, h1, h2, h⟩ := h
    walk_at "w"
    refine ⟨n, rfl, by omega, ?_⟩
    walk_at "w"
    refine ⟨k, (n : Int) + 1, rfl, by omega, by omega, ?_⟩
    walk_at "g"
    refine ⟨⟨by omega, by omega, by omega⟩, ?_⟩
    walk_at "w"
    have c := (by decide +kernel : ∀ n : Nat, n < 13 → ∀ k : Nat, k < n + 1 → 0 < PySem.W.mcComb n k ∧ PySem.W.mcComb n k ≤ 1000) n (by omega) k (by omega)
    refine ⟨(PySem.W.mcComb n k).toNat, ?_, by omega, by omega, h⟩
    have e : ((PySem.W.mcComb n k).toNat : Int) = PySem.W.mcComb n k := by omega
    rw [e]
end K38
set_option Elab.async false
set_option linter.all false
set_option maxRecDepth 100000
set_option maxHeartbeats 4000000
namespace K38
open PySem PySem.Spec PyProof.Rows L2 DL
local macro_rules | `(tactic| walk_at "w") => `(tactic| conv => whnf)
local macro_rules | `(tactic| walk_at "g") => `(tactic| ((conv => whnf); repeat' (first | (refine IFB.t ?_ ?_; rfl; conv => whnf) | (refine IFB.f ?_ ?_; rfl; conv => whnf))))
theorem rec_law_same {P : Program} {w : World} {K : PySem.W.Frag} {mg : Str → Option Value} {base : Heap} (T : Txt K mg) (n : Nat) : FnOk P w K mg base (L2.CX P w) n T.a_law_same T.fd_law_same ["told", "due"] (toSp K (sp_same n)) := by
  induction n with
  | zero => exact fnok0.imp fun vs H Q E ⟨_, _, _, _, _, _, ⟨_, _, _, h, _⟩, _⟩ => h.elim
  | succ n ih =>
    refine fnD (k := n) (sp := sp_same (n + 1)) T.F_law_same sc_law_same (fun ds S Q E h => ?_) (fun cdv A outer s H E RX hr => ⟨_, (pds_cons (pd_ifS (pdt_cmp od_is (pd_var 1) pd_non) (pds_one (pd_ret (pd_cmp od_is (pd_var 0) pd_non))) pds_nil)
      (pds_cons (pd_ifS (pdt_tru (pd_isi1 .bool (pd_var 1) T.b_isinstance T.b_bool)) (pds_one (pd_ret (pd_and (pd_isi1 .bool (pd_var 0) T.b_isinstance T.b_bool) (pd_one (pd_cmp (od_eq hr.units) (pd_var 0) (pd_var 1)))))) pds_nil)
      (pds_cons (pd_ifS (PDW.pt (pdw_or (pdt_tru (pd_isi1 .tup (pd_var 1) T.b_isinstance T.b_tuple)) (pdw_or1 (pdt_tru (pd_isi1 .lst (pd_var 1) T.b_isinstance T.b_list))))) (pds_cons (pd_set 2 sc_law_same.nd (pd_if (pdt_tru (pd_isi1 .tup (pd_var 1) T.b_isinstance T.b_tuple)) (pd_isi1 .tup (pd_var 0) T.b_isinstance T.b_tuple) (pd_isi1 .lst (pd_var 0) T.b_isinstance T.b_list)))
      (pds_cons (pd_ifS (PDW.pt (pdw_or (pdt_not (pdt_tru (pd_var 2))) (pdw_or1 (pdt_cmp (od_ne hr.units) (pd_blt cd_len T.b_len (by decide +kernel) (pda_cons (pd_var 0) pda_nil)) (pd_blt cd_len T.b_len (by decide +kernel) (pda_cons (pd_var 1) pda_nil)))))) (pds_one (pd_ret pd_bl)) pds_nil)
      (pds_cons (pd_for (passes_of rfl) rfl (pdi_range1 T.b_range (pda_cons (pd_blt cd_len T.b_len (by decide +kernel) (pda_cons (pd_var 1) pda_nil)) pda_nil)) (pdg_name 3 sc_law_same.nd) (pds_one (pd_ifS (pdt_not (pdt_tru (pd_call (takes_of rfl rfl rfl rfl) ih hr T.m_law_same T.F_law_same.kp T.d_law_same (pda_cons (pd_ix (pd_var 0) (pd_var 3)) (pda_cons (pd_ix (pd_var 1) (pd_var 3)) pda_nil))))) (pds_one (pd_ret pd_bl)) pds_nil)))
      (pds_one (pd_ret pd_bl))))) pds_nil)
      (pds_cons (pd_ifS (pdt_tru (pd_isi1 .str (pd_var 1) T.b_isinstance T.b_str)) (pds_one (pd_ret (pd_and (pd_isi1 .str (pd_var 0) T.b_isinstance T.b_str) (pd_one (pd_cmp (od_eq hr.units) (pd_var 0) (pd_var 1)))))) pds_nil)
      (pds_one (pd_ret (pd_and (pd_isi1 .int (pd_var 0) T.b_isinstance T.b_int) (pd_and (pd_not (pd_isi1 .bool (pd_var 0) T.b_isinstance T.b_bool)) (pd_one (pd_cmp (od_eq hr.units) (pd_var 0) (pd_var 1))))))))))), fun ds S Q h => ?_⟩)
    · obtain ⟨_, _, rfl, _⟩ := h
      rfl
    · skip
      obtain ⟨told, due, rfl, hs, h⟩ := h
      cases due with
      | non => cases (show told = .non from hs); walk_at "g"; exact h
      | bl b => cases (show told = .bl b from hs); walk_at "g"; rw [decide_eq_true rfl]; exact h
      | str b => cases (show told = .str b from hs); walk_at "g"; rw [decide_eq_true rfl]; exact h
      | int b => cases (show told = .int b from hs); walk_at "g"; rw [decide_eq_true rfl]; exact h
      | tup xs =>
        obtain ⟨ys, rfl, hl, hb, hq⟩ := (show ∃ ys, told = .tup ys ∧ ys.length = xs.length ∧ xs.length < 1000000 ∧ ∀ (i : Nat) y x, ys[i]? = some y → xs[i]? = some x → sameD S n y x from hs)
        walk_at "g"
        refine IFB.f (by simp [hl]) ?_
        walk_at "g"
        refine ⟨⟨by omega, by omega⟩, for_rg (fun i ρ' S' => S' = S ∧ ∃ o, ρ' = [some (.tup ys), some (.tup xs), some (.bl true), o]) ⟨rfl, _, rfl⟩ ?_ ?_⟩
        · rintro i _ _ hi ⟨rfl, o, rfl⟩
          have hi' : i < xs.length := by omega
          walk_at "w"
          rw [show (0 : Int) + (i : Int) = (i : Int) from Int.zero_add _]
          refine ⟨ys[i]'(by omega), atI_nat (List.getElem?_eq_getElem (by omega)), xs[i], atI_nat (List.getElem?_eq_getElem _), _, _, rfl, hq i _ _ (List.getElem?_eq_getElem _) (List.getElem?_eq_getElem _), ?_⟩
          walk_at "g"
          exact ⟨rfl, _, rfl⟩
        · rintro _ _ ⟨rfl, o, rfl⟩
          walk_at "g"
          exact h
      | fro xs =>
        obtain ⟨xs', ys, hx, hy, hl, hb, hq⟩ := (show ∃ xs' ys, RdL S (.fro xs) xs' ∧ RdL S told ys ∧ ys.length = xs'.length ∧ xs'.length < 1000000 ∧ ∀ (i : Nat) y x, ys[i]? = some y → xs'[i]? = some x → sameD S n y x from hs)
        rcases hx with ⟨_, hx, _⟩ | hx
        · cases hx
        · cases hx
          rcases hy with ⟨b, rfl, ey⟩ | rfl
          · walk_at "g"
            refine .inl ⟨ys, ey, ?_⟩
            walk_at "g"
            refine ⟨ys, .inl ⟨b, rfl, ey⟩, xs, .inr rfl, ?_⟩
            walk_at "g"
            refine IFB.f (by simp [hl]) ?_
            walk_at "g"
            refine ⟨xs, .inr rfl, ⟨by omega, by omega⟩, for_rg (fun i ρ' S' => S' = S ∧ ∃ o, ρ' = [some (.ref b), some (.fro xs), some (.bl true), o]) ⟨rfl, _, rfl⟩ ?_ ?_⟩
            · rintro i _ _ hi ⟨rfl, o, rfl⟩
              have hi' : i < xs.length := by omega
              walk_at "w"
              rw [show (0 : Int) + (i : Int) = (i : Int) from Int.zero_add _]
              refine ⟨ys, ys[i]'(by omega), .inl ⟨b, rfl, ey⟩,  atI_nat (List.getElem?_eq_getElem (by omega)), xs, xs[i], .inr rfl,  atI_nat (List.getElem?_eq_getElem _), _, _, rfl, hq i _ _ (List.getElem?_eq_getElem _) (List.getElem?_eq_getElem _), ?_⟩
              walk_at "g"
              exact ⟨rfl, _, rfl⟩
            · rintro _ _ ⟨rfl, o, rfl⟩
              walk_at "g"
              exact h
          · walk_at "g"
            refine ⟨ys, .inr rfl, xs, .inr rfl, ?_⟩
            walk_at "g"
            refine IFB.f (by simp [hl]) ?_
            walk_at "g"
            refine ⟨xs, .inr rfl, ⟨by omega, by omega⟩, for_rg (fun i ρ' S' => S' = S ∧ ∃ o, ρ' = [some (.fro ys), some (.fro xs), some (.bl true), o]) ⟨rfl, _, rfl⟩ ?_ ?_⟩
            · rintro i _ _ hi ⟨rfl, o, rfl⟩
              have hi' : i < xs.length := by omega
              walk_at "w"
              rw [show (0 : Int) + (i : Int) = (i : Int) from Int.zero_add _]
              refine ⟨ys, ys[i]'(by omega), .inr rfl,  atI_nat (List.getElem?_eq_getElem (by omega)), xs, xs[i], .inr rfl,  atI_nat (List.getElem?_eq_getElem _), _, _, rfl, hq i _ _ (List.getElem?_eq_getElem _) (List.getElem?_eq_getElem _), ?_⟩
              walk_at "g"
              exact ⟨rfl, _, rfl⟩
            · rintro _ _ ⟨rfl, o, rfl⟩
              walk_at "g"
              exact h
      | ref a =>
        obtain ⟨xs, ys, hx, hy, hl, hb, hq⟩ := (show ∃ xs ys, RdL S (.ref a) xs ∧ RdL S told ys ∧ ys.length = xs.length ∧ xs.length < 1000000 ∧ ∀ (i : Nat) y x, ys[i]? = some y → xs[i]? = some x → sameD S n y x from hs)
        rcases hx with ⟨_, e, ex⟩ | hx
        · cases e
          rcases hy with ⟨b, rfl, ey⟩ | rfl
          · walk_at "g"
            refine .inl ⟨xs, ex, ?_⟩
            walk_at "g"
            refine .inl ⟨xs, ex, ?_⟩
            walk_at "g"
            refine .inl ⟨xs, ex, ?_⟩
            walk_at "g"
            refine .inl ⟨xs, ex, ?_⟩
            walk_at "g"
            refine .inl ⟨ys, ey, ?_⟩
            walk_at "g"
            refine ⟨ys, .inl ⟨b, rfl, ey⟩, xs, .inl ⟨_, rfl, ex⟩, ?_⟩
            walk_at "g"
            refine IFB.f (by simp [hl]) ?_
            walk_at "g"
            refine ⟨xs, .inl ⟨_, rfl, ex⟩, ⟨by omega, by omega⟩, for_rg (fun i ρ' S' => S' = S ∧ ∃ o, ρ' = [some (.ref b), some (.ref _), some (.bl true), o]) ⟨rfl, _, rfl⟩ ?_ ?_⟩
            · rintro i _ _ hi ⟨rfl, o, rfl⟩
              have hi' : i < xs.length := by omega
              walk_at "w"
              rw [show (0 : Int) + (i : Int) = (i : Int) from Int.zero_add _]
              refine ⟨ys, ys[i]'(by omega), .inl ⟨b, rfl, ey⟩,  atI_nat (List.getElem?_eq_getElem (by omega)), xs, xs[i], .inl ⟨_, rfl, ex⟩,  atI_nat (List.getElem?_eq_getElem _), _, _, rfl, hq i _ _ (List.getElem?_eq_getElem _) (List.getElem?_eq_getElem _), ?_⟩
              walk_at "g"
              exact ⟨rfl, _, rfl⟩
            · rintro _ _ ⟨rfl, o, rfl⟩
              walk_at "g"
              exact h
          · walk_at "g"
            refine .inl ⟨xs, ex, ?_⟩
            walk_at "g"
            refine .inl ⟨xs, ex, ?_⟩
            walk_at "g"
            refine .inl ⟨xs, ex, ?_⟩
            walk_at "g"
            refine .inl ⟨xs, ex, ?_⟩
            walk_at "g"
            refine ⟨ys, .inr rfl, xs, .inl ⟨_, rfl, ex⟩, ?_⟩
            walk_at "g"
            refine IFB.f (by simp [hl]) ?_
            walk_at "g"
            refine ⟨xs, .inl ⟨_, rfl, ex⟩, ⟨by omega, by omega⟩, for_rg (fun i ρ' S' => S' = S ∧ ∃ o, ρ' = [some (.fro ys), some (.ref _), some (.bl true), o]) ⟨rfl, _, rfl⟩ ?_ ?_⟩
            · rintro i _ _ hi ⟨rfl, o, rfl⟩
              have hi' : i < xs.length := by omega
              walk_at "w"
              rw [show (0 : Int) + (i : Int) = (i : Int) from Int.zero_add _]
              refine ⟨ys, ys[i]'(by omega), .inr rfl,  atI_nat (List.getElem?_eq_getElem (by omega)), xs, xs[i], .inl ⟨_, rfl, ex⟩,  atI_nat (List.getElem?_eq_getElem _), _, _, rfl, hq i _ _ (List.getElem?_eq_getElem _) (List.getElem?_eq_getElem _), ?_⟩
              walk_at "g"
              exact ⟨rfl, _, rfl⟩
            · rintro _ _ ⟨rfl, o, rfl⟩
              walk_at "g"
              exact h
        · cases hx
      | ty _ => obtain ⟨_, _, hx, _⟩ := (show ∃ xs ys, RdL S _ xs ∧ RdL S told ys ∧ _ from hs); rcases hx with ⟨_, hx, _⟩ | hx <;> cases hx
      | exc _ _ => obtain ⟨_, _, hx, _⟩ := (show ∃ xs ys, RdL S _ xs ∧ RdL S told ys ∧ _ from hs); rcases hx with ⟨_, hx, _⟩ | hx <;> cases hx
def sp_law_same : DSp := sp_same 4
theorem ok_law_same {P : Program} {w : World} {K : PySem.W.Frag} {mg : Str → Option Value} {base : Heap} (T : Txt K mg) : FnOk P w K mg base (L2.CX P w) 4 T.a_law_same T.fd_law_same ["told", "due"] (toSp K sp_law_same) := rec_law_same T 4
end K38
set_option Elab.async false
set_option linter.all false
set_option maxRecDepth 100000
set_option maxHeartbeats 4000000
namespace K38
open PySem PySem.Spec PyProof.Rows L2 DL
local macro_rules | `(tactic| walk_at "w") => `(tactic| conv => whnf)
local macro_rules | `(tactic| walk_at "g") => `(tactic| ((conv => whnf); repeat' (first | (refine IFB.t ?_ ?_; rfl; conv => whnf) | (refine IFB.f ?_ ?_; rfl; conv => whnf))))

def WellD (S : Sto) (a : Addr) (c : Int) : Prop := ∃ w0 w1 w2 : Int, S a = some (.lst [.int w0, .int w1, .int w2]) ∧ 0 ≤ w1 ∧ w1 < 10 ^ 30 ∧ 0 ≤ w2 ∧ w2 ≤ c
def sp_well : DSp := fun ds S Q _ => ∃ (xs : List Int) (p : Int), ds = [.fro (xs.map D.int), .int p] ∧ 0 ≤ p ∧ p < 2 ^ 40 ∧ ∀ a S', S a = none → WellD S' a 0 → (∀ b, b ≠ a → S' b = S b) → Q (.ref a) S'
def sp_dip : DSp := fun ds S Q _ => ∃ (a : Addr) (u c : Int), ds = [.ref a, .int u] ∧ WellD S a c ∧ c < 1000000 ∧ 0 < u ∧ u < 2 ^ 64 ∧ ∀ (f : Int) S', 0 ≤ f → f < u → WellD S' a (c + 1) → (∀ b, b ≠ a → S' b = S b) → Q (.int f) S'
theorem WellD.ne {S : Sto} {a p : Addr} {c : Int} (h : WellD S a c) (hp : S p = none) : p ≠ a := fun z => by
  obtain ⟨_, _, _, e, _⟩ := h
  rw [← z, hp] at e
  cases e
theorem WellD.sup {S : Sto} {a p : Addr} {c : Int} {x : Cell} (h : WellD S a c) (hp : S p = none) : WellD (sup S p x) a c := by
  have q := (h.ne hp).symm
  obtain ⟨w0, w1, w2, e, r⟩ := h
  exact ⟨w0, w1, w2, by rw [sup_ne q]; exact e, r⟩
theorem atI_map {xs : List Int} {p : Int} (h : 0 ≤ p) (h1 : p < xs.length) : ∃ c, atI (xs.map D.int) p = some (.int c) := by
  obtain ⟨n, rfl⟩ := Int.eq_ofNat_of_zero_le h
  have : n < xs.length := by omega
  exact ⟨xs[n], atI_nat (by simp [this])⟩
theorem bits_le {k : Int} {n : Nat} (h : k.natAbs < 2 ^ n) : Builtin.Int.intBits k ≤ n := by
  unfold Builtin.Int.intBits
  split
  · exact Nat.zero_le _
  · have : k.natAbs.log2 < n := (Nat.log2_lt (by simp_all)).mpr h
    omega
theorem bits_mul {k j : Int} (h : k.natAbs < 2 ^ 200) (h0 : 0 ≤ j) (hj : j ≤ 100000) : 0 ≤ j ∧ (Builtin.Int.intBits k : Int) * j ≤ 2 ^ 27 := by
  have h1 := bits_le h
  have h2 : (Builtin.Int.intBits k : Int) * j ≤ 200 * 100000 := Int.mul_le_mul (by omega) hj h0 (by decide)
  omega
def sp_law_well := sp_well
def sp_law_dip := sp_dip
theorem ok_law_well {P : Program} {w : World} {K : PySem.W.Frag} {mg : Str → Option Value} {base : Heap} (T : Txt K mg) : FnOk P w K mg base (L2.CX P w) 1 T.a_law_well T.fd_law_well ["script", "place"] (toSp K sp_law_well) := by
  refine fnD T.F_law_well sc_law_well (fun ds S Q E h => ?_) (fun cdv A outer s H E RX hr => ⟨_, (pds_cons (pd_set 2 sc_law_well.nd (pd_if (pdt_cmp od_lt (pd_var 1) (pd_blt cd_len T.b_len (by decide +kernel) (pda_cons (pd_var 0) pda_nil))) (pd_ix (pd_var 0) (pd_var 1)) (pd_bin od_add (pd_bin od_mul (pd_var 1) pd_int) (pd_bin od_mul (pd_blt cd_len T.b_len (by decide +kernel) (pda_cons (pd_var 0) pda_nil)) pd_int))))
    (pds_one (pd_ret (pd_lst (pda_cons (pd_blt (cd_max2 rfl) T.b_max (by decide +kernel) (pda_cons pd_int (pda_cons (pd_bin od_sub (pd_blt cd_abs T.b_abs (by decide +kernel) (pda_cons (pd_var 2) pda_nil)) (pd_bin od_pow pd_int pd_int)) pda_nil))) (pda_cons (pd_bin od_mod (pd_bltTy cd_int T.b_int (by decide +kernel) (pda_cons (pd_bin od_add (pd_bin od_add (pd_bin od_mul (pd_var 2) pd_int) (pd_bin od_mul (pd_var 1) pd_int)) pd_int) pda_nil)) (pd_bin od_add (pd_bin od_pow pd_int pd_int) pd_int)) (pda_cons pd_int pda_nil))))))), fun ds S Q h => ?_⟩)
  · obtain ⟨_, _, rfl, _⟩ := h
    rfl
  · obtain ⟨xs, p, rfl, h0, h1, h⟩ := h
    walk_at "w"
    refine ⟨_, .inr rfl, ?_⟩
    walk_at "w"
    refine IFB.p (fun c1 => ?_) (fun c1 => ?_)
    · obtain ⟨c, ec⟩ := atI_map (xs := xs) h0 (by simpa using c1)
      walk_at "w"
      refine ⟨_, _, .inr rfl, ec, ?_⟩
      walk_at "w"
      refine ⟨by decide, ?_⟩
      walk_at "w"
      refine ⟨small_r (by decide) (by decide), ?_⟩
      walk_at "w"
      refine ⟨small_r (by decide) (by decide), ?_⟩
      walk_at "w"
      refine ⟨by decide, ?_⟩
      walk_at "w"
      refine ⟨by decide, ?_⟩
      walk_at "w"
      intro a ha
      exact h a _ ha ⟨_, _, _, sup_same, Int.emod_nonneg _ (by decide), Int.lt_of_lt_of_le (Int.emod_lt_of_pos _ (by decide)) (by decide), by decide, by decide⟩ (fun b hb => sup_ne hb)
    · walk_at "w"
      refine ⟨small_r (by decide) (by decide), ?_⟩
      walk_at "w"
      refine ⟨_, .inr rfl, ?_⟩
      walk_at "w"
      refine ⟨small_r (by decide) (by decide), ?_⟩
      walk_at "w"
      refine ⟨by decide, ?_⟩
      walk_at "w"
      refine ⟨small_r (by decide) (by decide), ?_⟩
      walk_at "w"
      refine ⟨small_r (by decide) (by decide), ?_⟩
      walk_at "w"
      refine ⟨by decide, ?_⟩
      walk_at "w"
      refine ⟨by decide, ?_⟩
      walk_at "w"
      intro a ha
      exact h a _ ha ⟨_, _, _, sup_same, Int.emod_nonneg _ (by decide), Int.lt_of_lt_of_le (Int.emod_lt_of_pos _ (by decide)) (by decide), by decide, by decide⟩ (fun b hb => sup_ne hb)
theorem ok_law_dip {P : Program} {w : World} {K : PySem.W.Frag} {mg : Str → Option Value} {base : Heap} (T : Txt K mg) : FnOk P w K mg base (L2.CX P w) 1 T.a_law_dip T.fd_law_dip ["well", "upto"] (toSp K sp_law_dip) := by
  refine fnD T.F_law_dip sc_law_dip (fun ds S Q E h => ?_) (fun cdv A outer s H E RX hr => ⟨_, (pds_cons (pd_ifS (pdt_cmp od_gt (pd_ix (pd_var 0) pd_int) pd_int) (pds_cons (pd_set 2 sc_law_dip.nd (pd_bin od_mod (pd_bltTy cd_int T.b_int (by decide +kernel) (pda_cons (pd_ix (pd_var 0) pd_int) pda_nil)) (pd_var 1)))
    (pds_cons (pd_asg (pd_bin od_fdiv (pd_ix (pd_var 0) pd_int) (pd_var 1)) (pdg_sub sd_list (pd_var 0) pd_int))
    (pds_one (pd_ret (pd_var 2))))) pds_nil)
    (pds_cons (pd_asg (pd_bin od_add (pd_ix (pd_var 0) pd_int) pd_int) (pdg_sub sd_list (pd_var 0) pd_int))
    (pds_cons (pd_set 3 sc_law_dip.nd (pd_bin od_mod (pd_bin od_pow (pd_bltTy cd_int T.b_int (by decide +kernel) (pda_cons (pd_bin od_add (pd_ix (pd_var 0) pd_int) (pd_bin od_mul pd_int (pd_ix (pd_var 0) pd_int))) pda_nil)) pd_int) (pd_bin od_add (pd_bin od_pow pd_int pd_int) pd_int)))
    (pds_cons (pd_set 3 sc_law_dip.nd (pd_bin od_mod (pd_bin od_pow (pd_bltTy cd_int T.b_int (by decide +kernel) (pda_cons (pd_bin od_add (pd_var 3) (pd_bin od_mul pd_int (pd_ix (pd_var 0) pd_int))) pda_nil)) pd_int) (pd_bin od_add (pd_bin od_pow pd_int pd_int) pd_int)))
    (pds_one (pd_ret (pd_bin od_mod (pd_bltTy cd_int T.b_int (by decide +kernel) (pda_cons (pd_bin od_fdiv (pd_var 3) pd_int) pda_nil)) (pd_var 1)))))))), fun ds S Q h => ?_⟩)
  · obtain ⟨_, _, _, rfl, _⟩ := h
    rfl
  · obtain ⟨a, u, c, rfl, ⟨w0, w1, w2, e, h1, h2, h3, h4⟩, h5, h6, h7, h⟩ := h
    walk_at "w"
    refine ⟨_, _, .inl ⟨a, rfl, e⟩, rfl, ?_⟩
    walk_at "w"
    refine IFB.p (fun c1 => ?_) (fun c1 => ?_)
    · walk_at "w"
      refine ⟨_, _, .inl ⟨a, rfl, e⟩, rfl, ?_⟩
      walk_at "w"
      refine ⟨h6, ?_⟩
      walk_at "w"
      refine ⟨_, _, .inl ⟨a, rfl, e⟩, rfl, ?_⟩
      walk_at "w"
      refine ⟨div_s h6 (by omega), ?_⟩
      walk_at "w"
      refine ⟨_, 0, e, rfl, ?_⟩
      walk_at "w"
      exact h _ _ (Int.emod_nonneg _ (by omega)) (Int.emod_lt_of_pos _ h6) ⟨_, _, _, sup_same, h1, h2, h3, by omega⟩ (fun b hb => sup_ne hb)
    · walk_at "w"
      refine ⟨_, _, .inl ⟨a, rfl, e⟩, rfl, ?_⟩
      walk_at "w"
      refine ⟨_, 2, e, rfl, ?_⟩
      walk_at "w"
      have e1 : sup S a (.lst (List.set [.int w0, .int w1, .int w2] 2 (.int (w2 + 1)))) a = some (.lst [.int w0, .int w1, .int (w2 + 1)]) := sup_same
      refine ⟨_, _, .inl ⟨a, rfl, e1⟩, rfl, ?_⟩
      walk_at "w"
      refine ⟨_, _, .inl ⟨a, rfl, e1⟩, rfl, ?_⟩
      walk_at "w"
      refine ⟨small_l (by decide) (by decide), ?_⟩
      walk_at "w"
      refine ⟨bits_mul (by have : (2 : Nat) ^ 200 > 10 ^ 50 := by decide
                           omega) (by decide) (by decide), ?_⟩
      walk_at "w"
      refine ⟨by decide, ?_⟩
      walk_at "w"
      refine ⟨by decide, ?_⟩
      generalize hm : (w1 + _ * (w2 + 1)) ^ _ % _ = mx
      have hx0 : 0 ≤ mx := by rw [← hm]; exact Int.emod_nonneg _ (by decide)
      have hx1 : mx < 10 ^ 30 := by rw [← hm]; exact Int.lt_of_lt_of_le (Int.emod_lt_of_pos _ (by decide)) (by decide)
      walk_at "w"
      refine ⟨_, _, .inl ⟨a, rfl, e1⟩, rfl, ?_⟩
      walk_at "w"
      refine ⟨small_l (by decide) (by decide), ?_⟩
      walk_at "w"
      refine ⟨bits_mul (by have : (2 : Nat) ^ 200 > 10 ^ 50 := by decide
                           omega) (by decide) (by decide), ?_⟩
      walk_at "w"
      refine ⟨by decide, ?_⟩
      walk_at "w"
      refine ⟨by decide, ?_⟩
      walk_at "w"
      refine ⟨div_s (by decide) (by decide), ?_⟩
      walk_at "w"
      refine ⟨h6, ?_⟩
      walk_at "w"
      exact h _ _ (Int.emod_nonneg _ (by omega)) (Int.emod_lt_of_pos _ h6) ⟨_, _, _, e1, h1, h2, by omega, by omega⟩ (fun b hb => sup_ne hb)
end K38
set_option Elab.async false
set_option linter.all false
set_option maxRecDepth 100000
set_option maxHeartbeats 4000000
namespace K38
open PySem PySem.Spec PyProof.Rows L2 DL
local macro_rules | `(tactic| walk_at "w") => `(tactic| conv => whnf)
local macro_rules | `(tactic| walk_at "g") => `(tactic| ((conv => whnf); repeat' (first | (refine IFB.t ?_ ?_; rfl; conv => whnf) | (refine IFB.f ?_ ?_; rfl; conv => whnf))))

def sp_low : DSp := fun ds S Q _ => ∃ t b : Int, ds = [.int t, .int b] ∧ 0 < b ∧ b.natAbs < 2 ^ 8000 ∧ Q (fr ((t : Rat) / (b : Rat))) S
theorem abs_nat (i : Int) : (if i < 0 then -i else i) = (i.natAbs : Int) := by split <;> omega
def sp_law_low := sp_low

def kv (n i : Nat) : List (Key × D) := (List.range i).map fun (j : Nat) => ((.inl (xN n j : Int) : Key), D.int (j : Int))
def rw_ (n i : Nat) : List D := (List.range i).map fun (j : Nat) => D.int (xN n j : Int)
def cyc (n : Nat) : Prop := xN n (dA n + dR n) = xN n (dA n)
def sp_law_even : DSp := fun ds S Q _ => ∃ n : Nat, ds = [.int (n : Int)] ∧ 0 < n ∧ n ≤ 1000 ∧ cyc n ∧ Q (fr (eV n)) S
theorem kv_len (n i : Nat) : (kv n i).length = i := by simp [kv]
theorem rw_len (n i : Nat) : (rw_ n i).length = i := by simp [rw_]
theorem kv_none {n i : Nat} {k : Int} (h : ∀ j, j < i → (xN n j : Int) ≠ k) : dval (kv n i) (.inl k : Key) = none := by
  unfold dval kv
  rw [List.find?_map]
  have : (List.range i).find? ((fun kv : Key × D => decide (kv.1 = (.inl k : Key))) ∘ fun (j : Nat) => ((.inl (xN n j : Int) : Key), D.int (j : Int))) = none := by
    rw [List.find?_eq_none]
    intro j hj
    have := h j (List.mem_range.mp hj)
    simpa using this
  rw [this]
  rfl
theorem kv_some {n i : Nat} {k : Int} (h : ∃ j, j < i ∧ (xN n j : Int) = k) : ∃ m, m < i ∧ (xN n m : Int) = k ∧ dval (kv n i) (.inl k : Key) = some (.int (m : Int)) := by
  unfold dval kv
  rw [List.find?_map]
  cases e : (List.range i).find? ((fun kv : Key × D => decide (kv.1 = (.inl k : Key))) ∘ fun (j : Nat) => ((.inl (xN n j : Int) : Key), D.int (j : Int))) with
  | none =>
    rw [List.find?_eq_none] at e
    obtain ⟨j, hj, hk⟩ := h
    exact absurd (by simpa using hk) (e j (List.mem_range.mpr hj))
  | some m =>
    have h1 := List.find?_some e
    have h2 := List.mem_range.mp (List.mem_of_find?_eq_some e)
    exact ⟨m, h2, by simpa using h1, rfl⟩
theorem kv_put {n i : Nat} (h : ∀ j, j < i → (xN n j : Int) ≠ (xN n i : Int)) : dput (kv n i) (.inl (xN n i : Int) : Key) (.int (i : Int)) = kv n (i + 1) := by
  unfold dput
  rw [if_neg]
  · simp [kv, List.range_succ]
  · intro z
    rw [List.any_eq_true] at z
    obtain ⟨kv', hm, hk⟩ := z
    obtain ⟨j, hj, rfl⟩ := List.mem_map.mp hm
    exact h j (List.mem_range.mp hj) (by simpa using hk)
theorem rw_push (n i : Nat) : rw_ n i ++ [.int (xN n i : Int)] = rw_ n (i + 1) := by simp [rw_, List.range_succ]
theorem rw_get {n i j : Nat} {x : D} (h : (rw_ n i)[j]? = some x) : x = .int (xN n j : Int) := by
  unfold rw_ at h
  rw [List.getElem?_map] at h
  by_cases hj : j < i
  · rw [List.getElem?_range hj] at h
    exact (Option.some.inj h).symm
  · rw [List.getElem?_eq_none (by simpa using hj)] at h
    cases h
theorem xN_next {n i : Nat} (h : 0 < n) : (if 2 * (xN n i : Int) ≥ (n : Int) then 2 * (xN n i : Int) - (n : Int) else 2 * (xN n i : Int)) = (xN n (i + 1) : Int) := by
  have h1 := xN_lt h i
  show _ = ((2 * xN n i % n : Nat) : Int)
  split
  · rw [Nat.mod_eq_sub_mod (by omega), Nat.mod_eq_of_lt (by omega)]; omega
  · rw [Nat.mod_eq_of_lt (by omega)]; omega
theorem eV_V {n : Nat} (h0 : 0 < n) (h1 : n ≤ 1000) : eV n = V n (dA n) (dR n) := by
  unfold eV tossV V
  rw [Dn_eq]
  unfold tossN tossD
  have hn : ((n : Int) : Rat) ≠ 0 := by simp; omega
  have hp : (((2 : Int) ^ dA n * ((2 : Int) ^ dR n - 1) : Int) : Rat) ≠ 0 := by
    have := Int.mul_pos (two_pos (dA n)) (pow_pos' _ (dR_le h1).1)
    intro z
    have := Rat.intCast_inj.mp (z.trans Rat.intCast_zero.symm)
    omega
  rw [Int.mul_assoc, Rat.intCast_mul (n : Int)]
  generalize (((2 : Int) ^ dA n * ((2 : Int) ^ dR n - 1) : Int) : Rat) = u at *
  generalize (((XN n (dA n) : Int) * (2 ^ dR n - 1) + YN n (dA n) (dR n) : Int) : Rat) = v at *
  generalize ((n : Int) : Rat) = w at *
  grind
theorem ok_law_low {P : Program} {w : World} {K : PySem.W.Frag} {mg : Str → Option Value} {base : Heap} (T : Txt K mg) : FnOk P w K mg base (L2.CX P w) 1 T.a_law_low T.fd_law_low ["top", "bottom"] (toSp K sp_law_low) := by
  refine fnD T.F_law_low sc_law_low (fun ds S Q E h => ?_) (fun cdv A outer s H E RX hr => ⟨_, (pds_cons (pd_par 2 3 rfl sc_law_low.nd (pda_cons (pd_blt cd_abs T.b_abs (by decide +kernel) (pda_cons (pd_var 0) pda_nil)) (pda_cons (pd_var 1) pda_nil)) rfl)
    (pds_cons (pd_while (passes_of rfl) (pdt_cmp (od_ne hr.units) (pd_var 3) pd_int) (pds_one (pd_par 2 3 rfl sc_law_low.nd (pda_cons (pd_var 3) (pda_cons (pd_bin od_mod (pd_bltTy cd_int T.b_int (by decide +kernel) (pda_cons (pd_var 2) pda_nil)) (pd_var 3)) pda_nil)) rfl)))
    (pds_one (pd_ret (pd_tup (pda_cons (pd_bin od_fdiv (pd_var 0) (pd_var 2)) (pda_cons (pd_bin od_fdiv (pd_var 1) (pd_var 2)) pda_nil))))))), fun ds S Q h => ?_⟩)
  · obtain ⟨_, _, rfl, _⟩ := h
    rfl
  · obtain ⟨t, b, rfl, h0, hb, h⟩ := h
    obtain ⟨b, rfl⟩ := Int.eq_ofNat_of_zero_le (show 0 ≤ b by omega)
    walk_at "w"
    rw [abs_nat]
    refine ⟨fun m ρ' S' => S' = S ∧ ∃ x : Nat, ρ' = [some (.int t), some (.int (b : Int)), some (.int (x : Int)), some (.int (m : Int))] ∧ Nat.gcd x m = Nat.gcd t.natAbs b, ⟨b, rfl, t.natAbs, rfl, rfl⟩, ?_⟩
    rintro m _ _ ⟨rfl, x, rfl, hg⟩
    walk_at "w"
    refine IFB.np (fun c1 => ?_) (fun c1 => ?_)
    · walk_at "w"
      refine ⟨by omega, ?_⟩
      walk_at "w"
      exact ⟨x % m, Nat.mod_lt _ (by omega), rfl, m, rfl, by rw [Nat.gcd_comm, ← Nat.gcd_rec, Nat.gcd_comm]; exact hg⟩
    · have e : m = 0 := by omega
      subst e
      rw [Nat.gcd_zero_right] at hg
      subst hg
      have e2 : Nat.gcd t.natAbs b = Nat.gcd t.natAbs (b : Int).natAbs := by rw [Int.natAbs_natCast]
      rw [e2]
      walk_at "w"
      refine ⟨gcd_w h0 hb (by decide) (by decide) _, ?_⟩
      walk_at "w"
      refine ⟨gcd_w h0 hb (by decide) (by decide) _, ?_⟩
      walk_at "w"
      rw [low_fr h0]
      exact h
theorem ok_law_even {P : Program} {w : World} {K : PySem.W.Frag} {mg : Str → Option Value} {base : Heap} (T : Txt K mg) : FnOk P w K mg base (L2.CX P w) 2 T.a_law_even T.fd_law_even ["n"] (toSp K sp_law_even) := by
  refine fnE T.F_law_even sc_law_even (fun ds S Q E h => ?_) (fun cdv A outer s H E RX hr => ⟨_, (pds_cons (pd_par3 1 2 3 rfl sc_law_even.nd (pda_cons (pd_bin od_mod (pd_bltTy cd_int T.b_int (by decide +kernel) (pda_cons pd_int pda_nil)) (pd_var 0)) (pda_cons pd_dnew (pda_cons (pd_lst pda_nil) pda_nil))) rfl)
    (pds_cons (pd_while (passes_of rfl) (pdt_dnotin (hu_of hr) (pd_var 1) (pd_var 2)) (pds_cons (pd_dput (hu_of hr) (pd_var 2) (pd_var 1) (pd_blt cd_len T.b_len (by decide +kernel) (pda_cons (pd_var 3) pda_nil)))
    (pds_cons (pd_expr (pd_lm PySem.F.slot_list_append PySem.F.type_list_append md_append (pd_var 3) (pda_cons (pd_var 1) pda_nil)))
    (pds_one (pd_set 1 sc_law_even.nd (pd_if (pdt_cmp od_ge (pd_bin od_mul pd_int (pd_var 1)) (pd_var 0)) (pd_bin od_sub (pd_bin od_mul pd_int (pd_var 1)) (pd_var 0)) (pd_bin od_mul pd_int (pd_var 1))))))))
    (pds_cons (pd_asg (pd_tup (pda_cons (pd_dget (hu_of hr) (pd_var 2) (pd_var 1)) (pda_cons pd_int (pda_cons pd_int (pda_cons pd_int (pda_cons pd_int pda_nil)))))) (pdg_tup rfl (pdgs_cons (pdg_name 4 sc_law_even.nd) (pdgs_cons (pdg_name 5 sc_law_even.nd) (pdgs_cons (pdg_name 6 sc_law_even.nd) (pdgs_cons (pdg_name 7 sc_law_even.nd) (pdgs_cons (pdg_name 8 sc_law_even.nd) pdgs_nil)))))))
    (pds_cons (pd_for (passes_of rfl) rfl (pdi_it (pd_slice (pd_var 3) pdo_none (pdo_some (pd_var 4)))) (pdg_name 9 sc_law_even.nd) (pds_one (pd_par 5 8 rfl sc_law_even.nd (pda_cons (pd_bin od_mul pd_int (pd_bin od_add (pd_var 5) (pd_var 9))) (pda_cons (pd_bin od_mul pd_int (pd_var 8)) pda_nil)) rfl)))
    (pds_cons (pd_for (passes_of rfl) rfl (pdi_it (pd_slice (pd_var 3) (pdo_some (pd_var 4)) pdo_none)) (pdg_name 9 sc_law_even.nd) (pds_one (pd_par 6 7 rfl sc_law_even.nd (pda_cons (pd_bin od_mul pd_int (pd_bin od_add (pd_var 6) (pd_var 9))) (pda_cons (pd_bin od_mul pd_int (pd_var 7)) pda_nil)) rfl)))
    (pds_one (pd_ret (pd_call (takes_of rfl rfl rfl rfl) (ok_law_low T) (hr.mono (by decide)) T.m_law_low T.F_law_low.kp T.d_law_low (pda_cons (pd_bin od_add (pd_bin od_mul (pd_var 5) (pd_bin od_sub (pd_var 7) pd_int)) (pd_var 6)) (pda_cons (pd_bin od_mul (pd_var 8) (pd_bin od_sub (pd_var 7) pd_int)) pda_nil)))))))))), fun ds S Q h => ?_⟩)
  · obtain ⟨_, rfl, _⟩ := h
    rfl
  · obtain ⟨n, rfl, h0, h1, hc, h⟩ := h
    have ha := dA_le h0 h1
    have hr1 := dR_le h1
    walk_at "w"
    refine ⟨by omega, ?_⟩
    walk_at "w"
    intro p hp
    walk_at "w"
    intro q hq
    have hqp : q ≠ p := fun z => by rw [z, sup_same] at hq; cases hq
    have hqS : S q = none := by rw [sup_ne hqp] at hq; exact hq
    walk_at "w"
    refine ⟨fun m ρ' S' => ∃ i : Nat, i + m = dA n + dR n ∧ S' p = some (.dK (kv n i)) ∧ S' q = some (.lst (rw_ n i)) ∧ Ext S S' ∧ ρ' = [some (.int (n : Int)), some (.int (xN n i : Int)), some (.ref p), some (.ref q), none, none, none, none, none, none], ⟨dA n + dR n, 0, by omega, by rw [sup_ne hqp.symm, sup_same]; rfl, sup_same, (Ext.new hp _).wr hqS, rfl⟩, ?_⟩
    rintro m _ S1 ⟨i, hm, ep, eq, ex, rfl⟩
    walk_at "w"
    refine ⟨_, _, ep, rfl, ?_⟩
    walk_at "w"
    by_cases hin : ∃ j, j < i ∧ (xN n j : Int) = (xN n i : Int)
    · obtain ⟨r, hr2, hx, hv⟩ := kv_some hin
      refine IFB.f (by simp only [hv]; rfl) ?_
      have hxn : xN n r = xN n i := by omega
      walk_at "w"
      refine ⟨_, _, ep, rfl, _, hv, ?_⟩
      walk_at "w"
      refine ⟨rfl, ?_⟩
      walk_at "w"
      refine ⟨rw_ n i, .inl ⟨q, rfl, eq⟩, ?_⟩
      intro u hu
      have huq : u ≠ q := fun z => by rw [z, eq] at hu; cases hu
      have huS := ex.free hu
      walk_at "w"
      rw [cut_to (show r ≤ (rw_ n i).length by rw [rw_len]; omega)]
      refine ⟨_, .inl ⟨u, rfl, sup_same⟩, for_xs (fun j ρ' S' => S' = sup S1 u (.lst ((rw_ n i).take r)) ∧ ∃ o, ρ' = [some (.int (n : Int)), some (.int (xN n i : Int)), some (.ref p), some (.ref q), some (.int (r : Int)), some (.int (XN n j : Int)), some (.int 0), some (.int 1), some (.int (2 ^ j)), o]) ⟨rfl, _, rfl⟩ (fun _ _ _ h => .inl ⟨u, rfl, by rw [h.1]; exact sup_same⟩) ?_ ?_⟩
      · rintro j x _ _ hj ⟨rfl, o, rfl⟩
        have hx := rw_get (take_get hj)
        subst hx
        walk_at "w"
        refine ⟨small_l (by decide) (by decide), ?_⟩
        walk_at "w"
        refine ⟨small_l (by decide) (by decide), ?_⟩
        walk_at "w"
        exact ⟨rfl, _, by rw [show (2 : Int) ^ (j + 1) = 2 * 2 ^ j by rw [Int.pow_succ, Int.mul_comm]]; rfl⟩
      rintro _ S2 ⟨e_, o, rfl⟩
      have hl1 : ((rw_ n i).take r).length = r := by rw [List.length_take, rw_len]; omega
      rw [hl1]
      have eq2 : S2 q = some (.lst (rw_ n i)) := by rw [e_, sup_ne huq.symm]; exact eq
      have ex2 : Ext S S2 := by rw [e_]; exact ex.wr huS
      walk_at "w"
      refine ⟨rw_ n i, .inl ⟨q, rfl, eq2⟩, ?_⟩
      intro t ht
      have htS := ex2.free ht
      walk_at "w"
      rw [cut_from (show r ≤ (rw_ n i).length by rw [rw_len]; omega)]
      refine ⟨_, .inl ⟨t, rfl, sup_same⟩, for_xs (fun j ρ' S' => S' = sup S2 t (.lst ((rw_ n i).drop r)) ∧ ∃ o, ρ' = [some (.int (n : Int)), some (.int (xN n i : Int)), some (.ref p), some (.ref q), some (.int (r : Int)), some (.int (XN n r : Int)), some (.int (YN n r j : Int)), some (.int (2 ^ j)), some (.int (2 ^ r)), o]) ⟨rfl, _, rfl⟩ (fun _ _ _ h => .inl ⟨t, rfl, by rw [h.1]; exact sup_same⟩) ?_ ?_⟩
      · rintro j x _ _ hj ⟨rfl, o, rfl⟩
        have hx := rw_get (drop_get hj)
        subst hx
        walk_at "w"
        refine ⟨small_l (by decide) (by decide), ?_⟩
        walk_at "w"
        refine ⟨small_l (by decide) (by decide), ?_⟩
        walk_at "w"
        exact ⟨rfl, _, by rw [show (2 : Int) ^ (j + 1) = 2 * 2 ^ j by rw [Int.pow_succ, Int.mul_comm]]; rfl⟩
      rintro _ S3 ⟨e3, o, rfl⟩
      have hl2 : ((rw_ n i).drop r).length = i - r := by rw [List.length_drop, rw_len]
      rw [hl2]
      have ex3 : Ext S S3 := by rw [e3]; exact ex2.wr htS
      have b1 : ((XN n r : Nat) : Int).natAbs < 2 ^ 1030 := lt_p (lt_mono (XN_lt h0 h1) (by omega))
      have b3 : ((2 : Int) ^ (i - r) - 1).natAbs < 2 ^ 1030 := by rw [pm_nat]; exact lt_p (lt_mono (pm_lt _) (by omega))
      have b6 : ((2 : Int) ^ r).natAbs < 2 ^ 1030 := by rw [p2_nat]; exact lt_p (Nat.pow_lt_pow_right (by decide) (by omega))
      walk_at "w"
      refine ⟨.inl (wide_mul b1 b3 (by decide) (by decide) (by decide)), ?_⟩
      walk_at "w"
      refine ⟨.inl (wide_mul b6 b3 (by decide) (by decide) (by decide)), ?_⟩
      walk_at "w"
      refine ⟨_, _, rfl, Int.mul_pos (two_pos _) (pow_pos' _ (by omega)), lt_mono (wide_lt b6 b3) (by decide), ?_⟩
      have hV : ((((XN n r : Nat) : Int) * (2 ^ (i - r) - 1) + ((YN n r (i - r) : Nat) : Int) : Int) : Rat) / (((2 : Int) ^ r * (2 ^ (i - r) - 1) : Int) : Rat) = eV n := by
        rw [eV_V h0 h1, ← Dn_eq]
        exact V_eq (by rw [show r + (i - r) = i by omega]; exact hxn.symm) hc (by omega) (by omega)
      rw [hV]
      exact ⟨S, ex3, h⟩
    · have hni : ∀ j, j < i → (xN n j : Int) ≠ (xN n i : Int) := fun j hj z => hin ⟨j, hj, z⟩
      have hlt : i < dA n + dR n := by
        cases Nat.lt_or_ge i (dA n + dR n) with
        | inl h => exact h
        | inr h2 =>
          have : i = dA n + dR n := by omega
          subst this
          exact absurd (by rw [hc]) (hni (dA n) (by omega))
      refine IFB.t (by simp only [kv_none hni]; rfl) ?_
      walk_at "w"
      refine ⟨rw_ n i, .inl ⟨q, rfl, eq⟩, ?_⟩
      walk_at "w"
      refine ⟨_, _, ep, rfl, by rw [kv_len]; show i < 16777216; omega, ?_⟩
      rw [rw_len, kv_put hni]
      walk_at "w"
      refine ⟨⟨_, by rw [sup_ne hqp]; exact eq⟩, ?_⟩
      walk_at "w"
      refine ⟨rw_ n i, by rw [sup_ne hqp]; exact eq, by rw [rw_len]; show i < 16777216; omega, ?_⟩
      rw [rw_push]
      walk_at "w"
      refine ⟨small_l (by decide) (by decide), ?_⟩
      walk_at "w"
      have hlast : ∀ v, v = (xN n (i + 1) : Int) → ∃ m', m' < m ∧ ∃ i_1, i_1 + m' = dA n + dR n ∧ sup (sup S1 p (.dK (kv n (i + 1)))) q (.lst (rw_ n (i + 1))) p = some (.dK (kv n i_1)) ∧ sup (sup S1 p (.dK (kv n (i + 1)))) q (.lst (rw_ n (i + 1))) q = some (.lst (rw_ n i_1)) ∧ Ext S (sup (sup S1 p (.dK (kv n (i + 1)))) q (.lst (rw_ n (i + 1)))) ∧ ([some (.int (n : Int)), some (.int v), some (.ref p), some (.ref q), none, none, none, none, none, none] : Ro) = [some (.int (n : Int)), some (.int (xN n i_1 : Int)), some (.ref p), some (.ref q), none, none, none, none, none, none] := fun v hv => ⟨m - 1, by omega, i + 1, by omega, by rw [sup_ne hqp.symm, sup_same], sup_same, (ex.wr hp).wr hqS, by rw [hv]⟩
      have hnx := xN_next (i := i) h0
      refine IFB.p (fun c => ?_) (fun c => ?_)
      · walk_at "w"
        refine ⟨small_l (by decide) (by decide), ?_⟩
        walk_at "w"
        exact hlast _ (by rw [← hnx, if_pos c])
      · walk_at "w"
        refine ⟨small_l (by decide) (by decide), ?_⟩
        walk_at "w"
        exact hlast _ (by rw [← hnx, if_neg c])
end K38
set_option Elab.async false
set_option linter.all false
set_option maxRecDepth 100000
set_option maxHeartbeats 4000000
namespace K38
open PySem PySem.Spec PyProof.Rows L2 DL
local macro_rules | `(tactic| walk_at "w") => `(tactic| conv => whnf)
local macro_rules | `(tactic| walk_at "g") => `(tactic| ((conv => whnf); repeat' (first | (refine IFB.t ?_ ?_; rfl; conv => whnf) | (refine IFB.f ?_ ?_; rfl; conv => whnf))))

def pasc : Nat → Nat → Nat
  | 0, 0 => 1
  | 0, _ + 1 => 0
  | _ + 1, 0 => 1
  | n + 1, k + 1 => pasc n k + pasc n (k + 1)
def rows (n k : Nat) : List D := (List.range (k + 1)).map fun (j : Nat) => D.int (pasc n j : Int)
theorem rows_len (n k : Nat) : (rows n k).length = k + 1 := by simp [rows]
theorem rows_at {n k j : Nat} (h : j ≤ k) : atI (rows n k) (j : Int) = some (.int (pasc n j : Int)) := atI_nat (by unfold rows; rw [List.getElem?_map, List.getElem?_range (by omega)]; rfl)
theorem rows0 (k : Nat) : [D.int 1] ++ (List.replicate (k : Int).toNat [D.int 0]).flatten = rows 0 k := by
  apply List.ext_getElem?
  intro j
  unfold rows
  rw [Int.toNat_natCast, List.flatten_replicate_singleton]
  cases j with
  | zero => rw [List.getElem?_map, List.getElem?_range (by omega)]; rfl
  | succ j =>
    rw [List.getElem?_append_right (by simp), List.getElem?_map]
    by_cases h : j < k
    · rw [List.getElem?_range (by omega)]
      simp [h]
      rfl
    · rw [List.getElem?_eq_none (by simp; omega), List.getElem?_eq_none (by simp; omega)]
      rfl
theorem rowsS (n k : Nat) : [D.int 1] ++ (List.range k).map (fun (j : Nat) => D.int ((pasc n j : Int) + (pasc n (j + 1) : Int))) = rows (n + 1) k := by
  unfold rows
  rw [List.range_succ_eq_map, List.map_cons, List.map_map]
  rfl
theorem pasc_mc : ∀ n : Nat, n < 13 → ∀ k : Nat, k < n + 1 → ((pasc n k : Nat) : Int) = PySem.W.mcComb n k := by decide +kernel
def sp_law_ways : DSp := fun ds S Q _ => ∃ n k : Nat, ds = [.int (n : Int), .int (k : Int)] ∧ n ≤ 12 ∧ k ≤ n ∧ Q (.int (PySem.W.mcComb n k)) S
theorem ok_law_ways {P : Program} {w : World} {K : PySem.W.Frag} {mg : Str → Option Value} {base : Heap} (T : Txt K mg) : FnOk P w K mg base (L2.CX P w) 1 T.a_law_ways T.fd_law_ways ["n", "k"] (toSp K sp_law_ways) := by
  refine fnE T.F_law_ways sc_law_ways (fun ds S Q E h => ?_) (fun cdv A outer s H E RX hr => ⟨_, (pds_cons (pd_set 2 sc_law_ways.nd (pd_bin od_add (pd_lst (pda_cons pd_int pda_nil)) (pd_bin od_mul (pd_lst (pda_cons pd_int pda_nil)) (pd_var 1))))
    (pds_cons (pd_for (passes_of rfl) rfl (pdi_range1 T.b_range (pda_cons (pd_var 0) pda_nil)) (pdg_name 3 sc_law_ways.nd) (pds_one (pd_set 2 sc_law_ways.nd (pd_bin od_add (pd_lst (pda_cons pd_int pda_nil)) (pd_lc (own := [("at", 4)]) (p := .n 4) rfl sc_law_ways.nd (pdi_range1 T.b_range (pda_cons (pd_var 1) pda_nil)) (blkOk_by (N := ["n", "k", "row", "thing", "at"]) (sc := defScope s_law_ways) (own := [("at", 4)]) (by decide +kernel)) (fun _ _ _ _ _ => (pg_name (i := 4) sc_law_ways.nd rfl (by first | exact Or.inl rfl | exact Or.inr rfl))) (fun _ _ _ _ _ => pdts_nil) (fun _ _ _ _ _ => (pd_bin od_add (pd_ix (pd_var 2) (pd_var 4)) (pd_ix (pd_var 2) (pd_bin od_add (pd_var 4) pd_int)))))))))
    (pds_one (pd_ret (pd_ix (pd_var 2) (pd_var 1)))))), fun ds S Q h => ?_⟩)
  · obtain ⟨_, _, rfl, _⟩ := h
    rfl
  · obtain ⟨n, k, rfl, h0, h1, h⟩ := h
    walk_at "w"
    intro p hp
    walk_at "w"
    intro q hq
    have hqp : q ≠ p := fun z => by rw [z, sup_same] at hq; cases hq
    walk_at "w"
    refine ⟨_, sup_same, ⟨by omega, by omega⟩, by rw [Int.toNat_natCast]; show 1 * k ≤ 16777216; omega, ?_⟩
    intro r hr
    have hrq : r ≠ q := fun z => by rw [z, sup_same] at hr; cases hr
    have hrp : r ≠ p := fun z => by rw [z, sup_ne hqp.symm, sup_same] at hr; cases hr
    walk_at "w"
    refine ⟨_, _, by rw [sup_ne hrp.symm, sup_ne hqp.symm, sup_same], sup_same, by simp [List.flatten_replicate_singleton]; show 1 + k ≤ 16777216; omega, ?_⟩
    intro t ht
    rw [rows0]
    walk_at "w"
    have ep : Ext S (sup S p (.lst [.int 1])) := Ext.new hp _
    have eq := ep.trans (Ext.new hq (.lst [.int 0]))
    have er := eq.trans (Ext.new hr (.lst (List.replicate (k : Int).toNat [D.int 0]).flatten))
    have et := er.trans (Ext.new ht (.lst (rows 0 k)))
    refine ⟨⟨by omega, by omega⟩, for_rg (fun i ρ' S' => ∃ q o1 o2, S' q = some (.lst (rows i k)) ∧ Ext S S' ∧ ρ' = [some (.int (n : Int)), some (.int (k : Int)), some (.ref q), o1, o2]) ⟨t, _, _, sup_same, et, rfl⟩ ?_ ?_⟩
    · rintro i _ S1 hi ⟨q, o1, o2, e1, x1, rfl⟩
      walk_at "w"
      intro u hu
      have huq : u ≠ q := fun z => by rw [z, e1] at hu; cases hu
      walk_at "w"
      have x2 := x1.trans (Ext.new hu (.lst [.int 1]))
      refine ⟨⟨by omega, by omega⟩, ?_⟩
      walk_at "w"
      refine lc_rgm (fun (j : Nat) => D.int ((pasc i j : Int) + (pasc i (j + 1) : Int))) ?_ ?_
      · rintro j acc S2 hj w2
        have e2 : S2 q = some (.lst (rows i k)) := w2.2.2 _ _ (by rw [sup_ne huq.symm]; exact e1)
        walk_at "w"
        rw [show (0 : Int) + (j : Int) = (j : Int) from Int.zero_add _]
        refine IFB.t rfl ?_
        walk_at "w"
        refine ⟨_, _, .inl ⟨q, rfl, e2⟩, rows_at (by omega), ?_⟩
        walk_at "w"
        refine ⟨_, _, .inl ⟨q, rfl, e2⟩, rows_at (n := i) (j := j + 1) (by omega), ?_⟩
        walk_at "w"
        exact lc_leaf hj w2 (by show _ ≤ 16777216; omega) rfl (Ext.refl _)
      · rintro S2 v x3 hv
        have hvu : v ≠ u := fun z => by rw [z, x3 u _ sup_same] at hv; cases hv
        walk_at "w"
        refine ⟨_, _, by rw [sup_ne hvu.symm]; exact x3 u _ sup_same, sup_same, by simp; show 1 + k ≤ 16777216; omega, ?_⟩
        intro z hz
        rw [show (k : Int).toNat = k from Int.toNat_natCast k, rowsS]
        walk_at "w"
        exact ⟨z, _, _, sup_same, ((x2.trans x3).trans (Ext.new hv _)).trans (Ext.new hz _), rfl⟩
    · rintro _ S1 ⟨q, o1, o2, e1, x1, rfl⟩
      rw [show (n : Int).toNat = n from Int.toNat_natCast n] at e1
      walk_at "w"
      refine ⟨_, _, .inl ⟨q, rfl, e1⟩, rows_at (Nat.le_refl _), ?_⟩
      rw [pasc_mc n (by omega) k (by omega)]
      exact ⟨S, x1, h⟩
end K38
set_option Elab.async false
set_option linter.all false
set_option maxRecDepth 100000
set_option maxHeartbeats 4000000
namespace K38
open PySem PySem.Spec PyProof.Rows L2 DL
local macro_rules | `(tactic| walk_at "w") => `(tactic| conv => whnf)
local macro_rules | `(tactic| walk_at "g") => `(tactic| ((conv => whnf); repeat' (first | (refine IFB.t ?_ ?_; rfl; conv => whnf) | (refine IFB.f ?_ ?_; rfl; conv => whnf))))

instance (n : Nat) : Decidable (cyc n) := by unfold cyc; infer_instance
theorem cyc_small : ∀ n : Nat, n < 501 → 0 < n → cyc n := by decide +kernel
theorem cyc_720 : cyc 720 := by decide +kernel
theorem cyc_792 : cyc 792 := by decide +kernel
theorem cyc_924 : cyc 924 := by decide +kernel
theorem cyc_fac : ∀ n : Nat, n < 7 → (0 < Builtin.Math.factorialNat n ∧ Builtin.Math.factorialNat n ≤ 1000) ∧ (Builtin.Math.factorialNat n < 501 ∨ Builtin.Math.factorialNat n = 720) := by decide +kernel
theorem cyc_com : ∀ n : Nat, n < 13 → ∀ k : Nat, k < n + 1 → 0 < PySem.W.mcComb n k ∧ (PySem.W.mcComb n k < 501 ∨ PySem.W.mcComb n k = 792 ∨ PySem.W.mcComb n k = 924) := by decide +kernel
theorem com_sym : ∀ n : Nat, n < 13 → ∀ k : Nat, k < n + 1 → PySem.W.mcComb n ((n - k : Nat) : Int) = PySem.W.mcComb n k := by decide +kernel
theorem fac_cyc {n : Nat} (h : n ≤ 6) : 0 < Builtin.Math.factorialNat n ∧ Builtin.Math.factorialNat n ≤ 1000 ∧ cyc (Builtin.Math.factorialNat n) := by
  obtain ⟨h1, h2⟩ := cyc_fac n (by omega)
  refine ⟨h1.1, h1.2, ?_⟩
  rcases h2 with h2 | h2
  · exact cyc_small _ h2 h1.1
  · rw [h2]; exact cyc_720
theorem com_cyc {n k : Nat} (h : n ≤ 12) (hk : k ≤ n) : 0 < (PySem.W.mcComb n k).toNat ∧ (PySem.W.mcComb n k).toNat ≤ 1000 ∧ cyc (PySem.W.mcComb n k).toNat := by
  obtain ⟨h1, h2⟩ := cyc_com n (by omega) k (by omega)
  refine ⟨by omega, by omega, ?_⟩
  rcases h2 with h2 | h2 | h2
  · exact cyc_small _ (by omega) (by omega)
  · rw [h2]; exact cyc_792
  · rw [h2]; exact cyc_924
theorem fac_succ (n : Nat) : Builtin.Math.factorialNat (n + 1) = Builtin.Math.factorialNat n * (n + 1) := by
  unfold Builtin.Math.factorialNat
  rw [List.range_succ, List.foldl_append]
  rfl
theorem fr_same {S : Sto} {n : Nat} (q : Rat) : sameD S (n + 2) (fr q) (fr q) := by
  refine ⟨_, rfl, rfl, by show 2 < 1000000; decide, fun i y x h1 h2 => ?_⟩
  rw [h1] at h2
  cases Option.some.inj h2
  match i, h1 with
  | 0, h1 => cases Option.some.inj h1; rfl
  | 1, h1 => cases Option.some.inj h1; rfl
  | i + 2, h1 => cases h1
theorem two_same {S : Sto} {p q : Addr} {n : Nat} (a : Rat) (h1 : S p = some (.lst [fr a, fr a])) (h2 : S q = some (.lst [fr a, fr a])) : sameD S (n + 3) (.ref p) (.ref q) := by
  refine ⟨_, _, .inl ⟨q, rfl, h2⟩, .inl ⟨p, rfl, h1⟩, rfl, by show 2 < 1000000; decide, fun i y x h1 h2 => ?_⟩
  match i, h1, h2 with
  | 0, h1, h2 => cases Option.some.inj h1; cases Option.some.inj h2; exact fr_same a
  | 1, h1, h2 => cases Option.some.inj h1; cases Option.some.inj h2; exact fr_same a
  | i + 2, h1, _ => cases h1
theorem three_same {S : Sto} {p q : Addr} {n : Nat} (a : Rat) (h1 : S p = some (.lst [fr a, fr a, fr a])) (h2 : S q = some (.lst [fr a, fr a, fr a])) : sameD S (n + 3) (.ref p) (.ref q) := by
  refine ⟨_, _, .inl ⟨q, rfl, h2⟩, .inl ⟨p, rfl, h1⟩, rfl, by show 3 < 1000000; decide, fun i y x h1 h2 => ?_⟩
  match i, h1, h2 with
  | 0, h1, h2 => cases Option.some.inj h1; cases Option.some.inj h2; exact fr_same a
  | 1, h1, h2 => cases Option.some.inj h1; cases Option.some.inj h2; exact fr_same a
  | 2, h1, h2 => cases Option.some.inj h1; cases Option.some.inj h2; exact fr_same a
  | i + 3, h1, _ => cases h1
end K38
set_option Elab.async false
set_option linter.all false
set_option maxRecDepth 100000
set_option maxHeartbeats 4000000
namespace K38
open PySem PySem.Spec PyProof.Rows L2 DL
local macro_rules | `(tactic| walk_at "w") => `(tactic| conv => whnf)
local macro_rules | `(tactic| walk_at "g") => `(tactic| ((conv => whnf); repeat' (first | (refine IFB.t ?_ ?_; rfl; conv => whnf) | (refine IFB.f ?_ ?_; rfl; conv => whnf))))

def sp_law : DSp := fun ds S Q _ => ∃ xs : List Int, ds = [.fro (xs.map D.int)] ∧ ∀ S', Q (.bl true) S'
theorem ok_law {P : Program} {w : World} {K : PySem.W.Frag} {mg : Str → Option Value} {base : Heap} (T : Txt K mg) : FnOk P w K mg base (L2.CX P w) 5 T.a_law T.fd_law ["script"] (toSp K sp_law) := by
  refine fnD T.F_law sc_law (fun ds S Q E h => ?_) (fun cdv A outer s H E RX hr => ⟨_, (pds_cons (pd_for (passes_of rfl) rfl (pdi_range1 T.b_range (pda_cons (pd_blt (cd_max2 rfl) T.b_max (by decide +kernel) (pda_cons pd_int (pda_cons (pd_blt (cd_min2 rfl) T.b_min (by decide +kernel) (pda_cons pd_int (pda_cons (pd_blt cd_len T.b_len (by decide +kernel) (pda_cons (pd_var 0) pda_nil)) pda_nil))) pda_nil))) pda_nil)) (pdg_name 1 sc_law.nd) (pds_cons (pd_set 2 sc_law.nd (pd_call (takes_of rfl rfl rfl rfl) (ok_law_well T) (hr.mono (by decide)) T.m_law_well T.F_law_well.kp T.d_law_well (pda_cons (pd_var 0) (pda_cons (pd_var 1) pda_nil))))
    (pds_cons (pd_set 3 sc_law.nd (pd_bin od_add pd_int (pd_call (takes_of rfl rfl rfl rfl) (ok_law_dip T) (hr.mono (by decide)) T.m_law_dip T.F_law_dip.kp T.d_law_dip (pda_cons (pd_var 2) (pda_cons (pd_ix (pd_lst (pda_cons pd_int (pda_cons pd_int pda_nil))) (pd_call (takes_of rfl rfl rfl rfl) (ok_law_dip T) (hr.mono (by decide)) T.m_law_dip T.F_law_dip.kp T.d_law_dip (pda_cons (pd_var 2) (pda_cons pd_int pda_nil)))) pda_nil)))))
    (pds_cons (pd_set 4 sc_law.nd (pd_call (takes_of rfl rfl rfl rfl) (ok_law_even T) (hr.mono (by decide)) T.m_law_even T.F_law_even.kp T.d_law_even (pda_cons (pd_var 3) pda_nil)))
    (pds_cons (pd_ifS (pdt_not (pdt_tru (pd_call (takes_of rfl rfl rfl rfl) (ok_law_same T) (hr.mono (by decide)) T.m_law_same T.F_law_same.kp T.d_law_same (pda_cons (pd_lst (pda_cons (pd_call (takes_of rfl rfl rfl rfl) (ok_even_mean T) (hr.mono (by decide)) T.m_even_mean T.F_even_mean.kp T.d_even_mean (pda_cons (pd_var 3) pda_nil)) (pda_cons (pd_callK0 (takes_of rfl rfl rfl rfl) (ok_even_mean T) (hr.mono (by decide)) T.m_even_mean T.F_even_mean.kp (kb_even_mean_0_n T) (pdk_cons (pd_var 3) pdk_nil)) pda_nil))) (pda_cons (pd_lst (pda_cons (pd_var 4) (pda_cons (pd_var 4) pda_nil))) pda_nil))))) (pds_one (pd_ret pd_bl)) pds_nil)
    (pds_cons (pd_par 3 5 rfl sc_law.nd (pda_cons (pd_bin od_add pd_int (pd_call (takes_of rfl rfl rfl rfl) (ok_law_dip T) (hr.mono (by decide)) T.m_law_dip T.F_law_dip.kp T.d_law_dip (pda_cons (pd_var 2) (pda_cons pd_int pda_nil)))) (pda_cons pd_int pda_nil)) rfl)
    (pds_cons (pd_for (passes_of rfl) rfl (pdi_range1 T.b_range (pda_cons (pd_var 3) pda_nil)) (pdg_name 6 sc_law.nd) (pds_one (pd_set 5 sc_law.nd (pd_bin od_mul (pd_var 5) (pd_bin od_add (pd_var 6) pd_int)))))
    (pds_cons (pd_set 4 sc_law.nd (pd_call (takes_of rfl rfl rfl rfl) (ok_law_even T) (hr.mono (by decide)) T.m_law_even T.F_law_even.kp T.d_law_even (pda_cons (pd_var 5) pda_nil)))
    (pds_cons (pd_ifS (pdt_not (pdt_tru (pd_call (takes_of rfl rfl rfl rfl) (ok_law_same T) (hr.mono (by decide)) T.m_law_same T.F_law_same.kp T.d_law_same (pda_cons (pd_lst (pda_cons (pd_call (takes_of rfl rfl rfl rfl) (ok_shuffle_mean T) (hr.mono (by decide)) T.m_shuffle_mean T.F_shuffle_mean.kp T.d_shuffle_mean (pda_cons (pd_var 3) pda_nil)) (pda_cons (pd_callK0 (takes_of rfl rfl rfl rfl) (ok_shuffle_mean T) (hr.mono (by decide)) T.m_shuffle_mean T.F_shuffle_mean.kp (kb_shuffle_mean_0_n T) (pdk_cons (pd_var 3) pdk_nil)) pda_nil))) (pda_cons (pd_lst (pda_cons (pd_var 4) (pda_cons (pd_var 4) pda_nil))) pda_nil))))) (pds_one (pd_ret pd_bl)) pds_nil)
    (pds_cons (pd_set 3 sc_law.nd (pd_bin od_add pd_int (pd_call (takes_of rfl rfl rfl rfl) (ok_law_dip T) (hr.mono (by decide)) T.m_law_dip T.F_law_dip.kp T.d_law_dip (pda_cons (pd_var 2) (pda_cons pd_int pda_nil)))))
    (pds_cons (pd_set 7 sc_law.nd (pd_call (takes_of rfl rfl rfl rfl) (ok_law_dip T) (hr.mono (by decide)) T.m_law_dip T.F_law_dip.kp T.d_law_dip (pda_cons (pd_var 2) (pda_cons (pd_bin od_add (pd_var 3) pd_int) pda_nil))))
    (pds_cons (pd_set 4 sc_law.nd (pd_call (takes_of rfl rfl rfl rfl) (ok_law_even T) (hr.mono (by decide)) T.m_law_even T.F_law_even.kp T.d_law_even (pda_cons (pd_call (takes_of rfl rfl rfl rfl) (ok_law_ways T) (hr.mono (by decide)) T.m_law_ways T.F_law_ways.kp T.d_law_ways (pda_cons (pd_var 3) (pda_cons (pd_var 7) pda_nil))) pda_nil)))
    (pds_one (pd_ifS (pdt_not (pdt_tru (pd_call (takes_of rfl rfl rfl rfl) (ok_law_same T) (hr.mono (by decide)) T.m_law_same T.F_law_same.kp T.d_law_same (pda_cons (pd_lst (pda_cons (pd_call (takes_of rfl rfl rfl rfl) (ok_lot_mean T) (hr.mono (by decide)) T.m_lot_mean T.F_lot_mean.kp T.d_lot_mean (pda_cons (pd_var 3) (pda_cons (pd_var 7) pda_nil))) (pda_cons (pd_callK0 (takes_of rfl rfl rfl rfl) (ok_lot_mean T) (hr.mono (by decide)) T.m_lot_mean T.F_lot_mean.kp (kb_lot_mean_0_k_n T) (pdk_cons (pd_var 7) (pdk_cons (pd_var 3) pdk_nil))) (pda_cons (pd_call (takes_of rfl rfl rfl rfl) (ok_lot_mean T) (hr.mono (by decide)) T.m_lot_mean T.F_lot_mean.kp T.d_lot_mean (pda_cons (pd_var 3) (pda_cons (pd_bin od_sub (pd_var 3) (pd_var 7)) pda_nil))) pda_nil)))) (pda_cons (pd_lst (pda_cons (pd_var 4) (pda_cons (pd_var 4) (pda_cons (pd_var 4) pda_nil)))) pda_nil))))) (pds_one (pd_ret pd_bl)) pds_nil))))))))))))))
    (pds_one (pd_ret pd_bl))), fun ds S Q h => ?_⟩)
  · obtain ⟨_, rfl, _⟩ := h
    rfl
  · obtain ⟨xs, rfl, h⟩ := h
    walk_at "w"
    refine ⟨_, .inr rfl, ?_⟩
    walk_at "w"
    generalize hm : (if _ > (1 : Int) then _ else (1 : Int)) = m
    have hm8 : m ≤ 8 ∧ 0 ≤ m := by rw [← hm]; split <;> split at * <;> omega
    clear hm
    refine ⟨⟨by omega, by omega⟩, for_rg (fun i ρ' S' => ∃ o1 o2 o3 o4 o5 o6 o7, ρ' = [some (.fro (xs.map D.int)), o1, o2, o3, o4, o5, o6, o7]) ⟨_, _, _, _, _, _, _, rfl⟩ ?_ ?_⟩
    · rintro i _ S1 hi ⟨o1, o2, o3, o4, o5, o6, o7, rfl⟩
      walk_at "w"
      refine ⟨xs, 0 + (i : Int), rfl, by omega, by omega, ?_⟩
      rintro a S2 ha hw2 -
      walk_at "w"
      intro p hp
      walk_at "w"
      refine ⟨a, 2, 0, rfl, hw2.sup hp, by decide, by decide, by decide, ?_⟩
      rintro f S3 hf0 hf1 hw3 fr3
      have e3 : S3 p = some (.lst [.int 20, .int 500]) := by rw [fr3 p (hw2.ne hp)]; exact sup_same
      obtain ⟨u, hu, hu0, hu1⟩ : ∃ u : Int, atI [D.int 20, D.int 500] f = some (.int u) ∧ 0 < u ∧ u ≤ 500 := by
        rcases (show f = 0 ∨ f = 1 by omega) with rfl | rfl
        · exact ⟨20, rfl, by decide, by decide⟩
        · exact ⟨500, rfl, by decide, by decide⟩
      walk_at "w"
      refine ⟨_, _, .inl ⟨p, rfl, e3⟩, hu, ?_⟩
      walk_at "w"
      refine ⟨a, u, 1, rfl, hw3, by decide, hu0, by omega, ?_⟩
      rintro f2 S4 g0 g1 hw4 -
      obtain ⟨n, hn⟩ := Int.eq_ofNat_of_zero_le (show 0 ≤ 1 + f2 by omega)
      walk_at "w"
      rw [hn]
      refine ⟨n, rfl, by omega, by omega, cyc_small n (by omega) (by omega), ?_⟩
      walk_at "w"
      refine ⟨n, rfl, by omega, by omega, ?_⟩
      walk_at "w"
      refine ⟨n, rfl, by omega, by omega, ?_⟩
      walk_at "w"
      intro p2 hp2
      walk_at "w"
      intro p3 hp3
      have hp23 : p2 ≠ p3 := fun z => by rw [← z, sup_same] at hp3; cases hp3
      walk_at "w"
      refine ⟨_, _, rfl, two_same _ (by rw [sup_ne hp23]; exact sup_same) sup_same, ?_⟩
      walk_at "g"
      refine ⟨a, 6, 2, rfl, (hw4.sup hp2).sup hp3, by decide, by decide, by decide, ?_⟩
      rintro f3 S5 k0 k1 hw5 -
      obtain ⟨n2, hn2⟩ := Int.eq_ofNat_of_zero_le (show 0 ≤ 1 + f3 by omega)
      walk_at "w"
      rw [hn2]
      refine ⟨⟨by omega, by omega⟩, for_rg (fun j ρ' S' => S' = S5 ∧ ∃ o, ρ' = [some (.fro (xs.map D.int)), some (.int (0 + (i : Int))), some (.ref a), some (.int (n2 : Int)), some (fr (eV n)), some (.int (Builtin.Math.factorialNat j : Int)), o, o7]) ⟨rfl, _, rfl⟩ ?_ ?_⟩
      · rintro j _ _ hj ⟨rfl, o, rfl⟩
        walk_at "w"
        refine ⟨small_r (by omega) (by omega), ?_⟩
        walk_at "w"
        have ef : (Builtin.Math.factorialNat j : Int) * (0 + (j : Int) + 1) = (Builtin.Math.factorialNat (j + 1) : Int) := by rw [fac_succ, Int.zero_add, Int.natCast_mul]; rfl
        exact ⟨rfl, _, by rw [← ef]; rfl⟩
      rintro _ S6 ⟨e6, o, rfl⟩
      rw [← e6] at hw5
      rw [show (n2 : Int).toNat = n2 from Int.toNat_natCast n2]
      obtain ⟨c1, c2, c3⟩ := fac_cyc (n := n2) (by omega)
      walk_at "w"
      refine ⟨_, rfl, c1, c2, c3, ?_⟩
      walk_at "w"
      refine ⟨n2, rfl, by omega, by omega, ?_⟩
      walk_at "w"
      refine ⟨n2, rfl, by omega, by omega, ?_⟩
      walk_at "w"
      intro p4 hp4
      walk_at "w"
      intro p5 hp5
      have hp45 : p4 ≠ p5 := fun z => by rw [← z, sup_same] at hp5; cases hp5
      walk_at "w"
      refine ⟨_, _, rfl, two_same _ (by rw [sup_ne hp45]; exact sup_same) sup_same, ?_⟩
      walk_at "g"
      refine ⟨a, 12, 3, rfl, (hw5.sup hp4).sup hp5, by decide, by decide, by decide, ?_⟩
      rintro f4 S7 k0 k1 hw7 -
      obtain ⟨n3, hn3⟩ := Int.eq_ofNat_of_zero_le (show 0 ≤ 1 + f4 by omega)
      walk_at "w"
      rw [hn3]
      refine ⟨a, (n3 : Int) + 1, 4, rfl, hw7, by decide, by omega, by omega, ?_⟩
      rintro f5 S8 k0 k1 hw8 -
      obtain ⟨k, rfl⟩ := Int.eq_ofNat_of_zero_le k0
      obtain ⟨c1, c2, c3⟩ := com_cyc (n := n3) (k := k) (by omega) (by omega)
      have ec : PySem.W.mcComb n3 k = ((PySem.W.mcComb n3 k).toNat : Int) := by omega
      walk_at "w"
      refine ⟨n3, k, rfl, by omega, by omega, ?_⟩
      walk_at "w"
      refine ⟨_, by rw [← ec], c1, c2, c3, ?_⟩
      walk_at "w"
      refine ⟨n3, k, rfl, by omega, by omega, by omega, ?_⟩
      walk_at "w"
      refine ⟨n3, k, rfl, by omega, by omega, by omega, ?_⟩
      walk_at "w"
      refine ⟨n3, n3 - k, by rw [Int.ofNat_sub (by omega)], by omega, by omega, by omega, ?_⟩
      rw [com_sym n3 (by omega) k (by omega)]
      walk_at "w"
      intro p6 hp6
      walk_at "w"
      intro p7 hp7
      have hp67 : p6 ≠ p7 := fun z => by rw [← z, sup_same] at hp7; cases hp7
      walk_at "w"
      refine ⟨_, _, rfl, three_same _ (by rw [sup_ne hp67]; exact sup_same) sup_same, ?_⟩
      walk_at "g"
      exact ⟨_, _, _, _, _, _, _, rfl⟩
    · rintro _ S1 ⟨o1, o2, o3, o4, o5, o6, o7, rfl⟩
      walk_at "w"
      exact h S1
end K38
set_option Elab.async false
set_option linter.all false
set_option maxRecDepth 100000
set_option maxHeartbeats 4000000
namespace K38
open PySem PySem.Spec PyProof.Rows L2 DL
local macro_rules | `(tactic| walk_at "w") => `(tactic| conv => whnf)
local macro_rules | `(tactic| walk_at "g") => `(tactic| ((conv => whnf); repeat' (first | (refine IFB.t ?_ ?_; rfl; conv => whnf) | (refine IFB.f ?_ ?_; rfl; conv => whnf))))
theorem end_law (ns : List Int) (h : ns.length ≤ 63) (S : Sto) : sp_law [.fro (ns.map D.int)] S (fun d _ => d = .bl true) (fun _ _ _ => False) := ⟨ns, rfl, fun _ => rfl⟩
theorem all_of {l : PySem.W.OpenLaw} {w : World} {K : PySem.W.Frag} {mg : Str → Option Value} {fa : Addr} (T : Txt K mg) (hfa : mg "law" = some (.ref fa)) :
    ∃ fd : FuncData, (∀ (s : Shared) (u : Value), BindsTo s fd ⟨[u], []⟩ [("script", u)]) ∧ ∀ base : Heap, K.In base → base.Ns mainGlobals mg → FnOk l.prog w K mg base (L2.CX l.prog w) 5 fa fd ["script"] (toSp K sp_law) := by
  have e := hfa.symm.trans T.m_law
  cases e
  exact ⟨T.fd_law, law_binds T.F_law fun _ _ _ _ _ _ _ => rfl, fun base _ _ => ok_law T⟩
theorem all_mk {l : PySem.W.OpenLaw} {w : World} {K : PySem.W.Frag} {h : Heap} {mg : Str → Option Value} {fa : Addr} (X : K.In h) (G : h.Ns mainGlobals mg) (hfa : mg "law" = some (.ref fa))
    {g0 : Addr} {od0 an0 : Option Addr} {sl0 : Array (Option Value)} {oc0 kV0 dc0 pm0 cd0 ct0 : Value}
    {g1 : Addr} {od1 an1 : Option Addr} {sl1 : Array (Option Value)} {oc1 kV1 dc1 pm1 cd1 ct1 : Value}
    {g2 : Addr} {od2 an2 : Option Addr} {sl2 : Array (Option Value)} {oc2 kV2 dc2 pm2 cd2 ct2 : Value}
    {g3 : Addr} {od3 an3 : Option Addr} {sl3 : Array (Option Value)} {oc3 kV3 dc3 pm3 cd3 ct3 : Value}
    {g4 : Addr} {od4 an4 : Option Addr} {sl4 : Array (Option Value)} {oc4 kV4 dc4 pm4 cd4 ct4 : Value}
    {g5 : Addr} {od5 an5 : Option Addr} {sl5 : Array (Option Value)} {oc5 kV5 dc5 pm5 cd5 ct5 : Value}
    {g6 : Addr} {od6 an6 : Option Addr} {sl6 : Array (Option Value)} {oc6 kV6 dc6 pm6 cd6 ct6 : Value}
    {g7 : Addr} {od7 an7 : Option Addr} {sl7 : Array (Option Value)} {oc7 kV7 dc7 pm7 cd7 ct7 : Value}
    {g8 : Addr} {od8 an8 : Option Addr} {sl8 : Array (Option Value)} {oc8 kV8 dc8 pm8 cd8 ct8 : Value}
    {g9 : Addr} {od9 an9 : Option Addr} {sl9 : Array (Option Value)} {oc9 kV9 dc9 pm9 cd9 ct9 : Value}
    {g10 : Addr} {od10 an10 : Option Addr} {sl10 : Array (Option Value)} {oc10 kV10 dc10 pm10 cd10 ct10 : Value}
    {g11 : Addr} {od11 an11 : Option Addr} {sl11 : Array (Option Value)} {oc11 kV11 dc11 pm11 cd11 ct11 : Value}
    {g12 : Addr} {od12 an12 : Option Addr} {sl12 : Array (Option Value)} {oc12 kV12 dc12 pm12 cd12 ct12 : Value}
    {g13 : Addr} {od13 an13 : Option Addr} {sl13 : Array (Option Value)} {oc13 kV13 dc13 pm13 cd13 ct13 : Value}
    {g14 : Addr} {od14 an14 : Option Addr} {sl14 : Array (Option Value)} {oc14 kV14 dc14 pm14 cd14 ct14 : Value}
    {g15 : Addr} {od15 an15 : Option Addr} {sl15 : Array (Option Value)} {oc15 kV15 dc15 pm15 cd15 ct15 : Value}
    {g16 : Addr} {od16 an16 : Option Addr} {sl16 : Array (Option Value)} {oc16 kV16 dc16 pm16 cd16 ct16 : Value}
    {g17 : Addr} {od17 an17 : Option Addr} {sl17 : Array (Option Value)} {oc17 kV17 dc17 pm17 cd17 ct17 : Value}
    {g18 : Addr} {od18 an18 : Option Addr} {sl18 : Array (Option Value)} {oc18 kV18 dc18 pm18 cd18 ct18 : Value}
    {g19 : Addr} {od19 an19 : Option Addr} {sl19 : Array (Option Value)} {oc19 kV19 dc19 pm19 cd19 ct19 : Value}
    {g20 : Addr} {od20 an20 : Option Addr} {sl20 : Array (Option Value)} {oc20 kV20 dc20 pm20 cd20 ct20 : Value}
    (a0 : PySem.W.nsIn K mainGlobals "is_integer" = some (some (.ref g0))) (l0 : K.lookup g0 = some ⟨oc0, od0, .func (PySem.W.fnOf "is_integer" "is_integer" (defArgs s_is_integer) (defBody s_is_integer) (defScope s_is_integer) .none kV0 dc0 pm0 an0 cd0 ct0), sl0⟩) (c0 : PySem.W.codeIn K cd0 "is_integer" = true) (k0 : PySem.W.keepIn K (.ref g0) = true)
    (a1 : PySem.W.nsIn K mainGlobals "is_natural" = some (some (.ref g1))) (l1 : K.lookup g1 = some ⟨oc1, od1, .func (PySem.W.fnOf "is_natural" "is_natural" (defArgs s_is_natural) (defBody s_is_natural) (defScope s_is_natural) .none kV1 dc1 pm1 an1 cd1 ct1), sl1⟩) (c1 : PySem.W.codeIn K cd1 "is_natural" = true) (k1 : PySem.W.keepIn K (.ref g1) = true)
    (a2 : PySem.W.nsIn K mainGlobals "is_below" = some (some (.ref g2))) (l2 : K.lookup g2 = some ⟨oc2, od2, .func (PySem.W.fnOf "is_below" "is_below" (defArgs s_is_below) (defBody s_is_below) (defScope s_is_below) .none kV2 dc2 pm2 an2 cd2 ct2), sl2⟩) (c2 : PySem.W.codeIn K cd2 "is_below" = true) (k2 : PySem.W.keepIn K (.ref g2) = true)
    (a3 : PySem.W.nsIn K mainGlobals "lowest" = some (some (.ref g3))) (l3 : K.lookup g3 = some ⟨oc3, od3, .func (PySem.W.fnOf "lowest" "lowest" (defArgs s_lowest) (defBody s_lowest) (defScope s_lowest) .none kV3 dc3 pm3 an3 cd3 ct3), sl3⟩) (c3 : PySem.W.codeIn K cd3 "lowest" = true) (k3 : PySem.W.keepIn K (.ref g3) = true)
    (a4 : PySem.W.nsIn K mainGlobals "whole" = some (some (.ref g4))) (l4 : K.lookup g4 = some ⟨oc4, od4, .func (PySem.W.fnOf "whole" "whole" (defArgs s_whole) (defBody s_whole) (defScope s_whole) .none kV4 dc4 pm4 an4 cd4 ct4), sl4⟩) (c4 : PySem.W.codeIn K cd4 "whole" = true) (k4 : PySem.W.keepIn K (.ref g4) = true)
    (a5 : PySem.W.nsIn K mainGlobals "product" = some (some (.ref g5))) (l5 : K.lookup g5 = some ⟨oc5, od5, .func (PySem.W.fnOf "product" "product" (defArgs s_product) (defBody s_product) (defScope s_product) .none kV5 dc5 pm5 an5 cd5 ct5), sl5⟩) (c5 : PySem.W.codeIn K cd5 "product" = true) (k5 : PySem.W.keepIn K (.ref g5) = true)
    (a6 : PySem.W.nsIn K mainGlobals "power" = some (some (.ref g6))) (l6 : K.lookup g6 = some ⟨oc6, od6, .func (PySem.W.fnOf "power" "power" (defArgs s_power) (defBody s_power) (defScope s_power) .none kV6 dc6 pm6 an6 cd6 ct6), sl6⟩) (c6 : PySem.W.codeIn K cd6 "power" = true) (k6 : PySem.W.keepIn K (.ref g6) = true)
    (a7 : PySem.W.nsIn K mainGlobals "check_throws" = some (some (.ref g7))) (l7 : K.lookup g7 = some ⟨oc7, od7, .func (PySem.W.fnOf "check_throws" "check_throws" (defArgs s_check_throws) (defBody s_check_throws) (defScope s_check_throws) .none kV7 dc7 pm7 an7 cd7 ct7), sl7⟩) (c7 : PySem.W.codeIn K cd7 "check_throws" = true) (k7 : PySem.W.keepIn K (.ref g7) = true)
    (a8 : PySem.W.nsIn K mainGlobals "doublings" = some (some (.ref g8))) (l8 : K.lookup g8 = some ⟨oc8, od8, .func (PySem.W.fnOf "doublings" "doublings" (defArgs s_doublings) (defBody s_doublings) (defScope s_doublings) .none kV8 dc8 pm8 an8 cd8 ct8), sl8⟩) (c8 : PySem.W.codeIn K cd8 "doublings" = true) (k8 : PySem.W.keepIn K (.ref g8) = true)
    (a9 : PySem.W.nsIn K mainGlobals "toss_cost" = some (some (.ref g9))) (l9 : K.lookup g9 = some ⟨oc9, od9, .func (PySem.W.fnOf "toss_cost" "toss_cost" (defArgs s_toss_cost) (defBody s_toss_cost) (defScope s_toss_cost) .none kV9 dc9 pm9 an9 cd9 ct9), sl9⟩) (c9 : PySem.W.codeIn K cd9 "toss_cost" = true) (k9 : PySem.W.keepIn K (.ref g9) = true)
    (a10 : PySem.W.nsIn K mainGlobals "even_of" = some (some (.ref g10))) (l10 : K.lookup g10 = some ⟨oc10, od10, .func (PySem.W.fnOf "even_of" "even_of" (defArgs s_even_of) (defBody s_even_of) (defScope s_even_of) .none kV10 dc10 pm10 an10 cd10 ct10), sl10⟩) (c10 : PySem.W.codeIn K cd10 "even_of" = true) (k10 : PySem.W.keepIn K (.ref g10) = true)
    (a11 : PySem.W.nsIn K mainGlobals "even_mean" = some (some (.ref g11))) (l11 : K.lookup g11 = some ⟨oc11, od11, .func (PySem.W.fnOf "even_mean" "even_mean" (defArgs s_even_mean) (defBody s_even_mean) (defScope s_even_mean) .none kV11 dc11 pm11 an11 cd11 ct11), sl11⟩) (c11 : PySem.W.codeIn K cd11 "even_mean" = true) (k11 : PySem.W.keepIn K (.ref g11) = true)
    (a12 : PySem.W.nsIn K mainGlobals "shuffle_mean" = some (some (.ref g12))) (l12 : K.lookup g12 = some ⟨oc12, od12, .func (PySem.W.fnOf "shuffle_mean" "shuffle_mean" (defArgs s_shuffle_mean) (defBody s_shuffle_mean) (defScope s_shuffle_mean) .none kV12 dc12 pm12 an12 cd12 ct12), sl12⟩) (c12 : PySem.W.codeIn K cd12 "shuffle_mean" = true) (k12 : PySem.W.keepIn K (.ref g12) = true)
    (a13 : PySem.W.nsIn K mainGlobals "lot_mean" = some (some (.ref g13))) (l13 : K.lookup g13 = some ⟨oc13, od13, .func (PySem.W.fnOf "lot_mean" "lot_mean" (defArgs s_lot_mean) (defBody s_lot_mean) (defScope s_lot_mean) .none kV13 dc13 pm13 an13 cd13 ct13), sl13⟩) (c13 : PySem.W.codeIn K cd13 "lot_mean" = true) (k13 : PySem.W.keepIn K (.ref g13) = true)
    (a14 : PySem.W.nsIn K mainGlobals "_law_well" = some (some (.ref g14))) (l14 : K.lookup g14 = some ⟨oc14, od14, .func (PySem.W.fnOf "_law_well" "_law_well" (defArgs s_law_well) (defBody s_law_well) (defScope s_law_well) .none kV14 dc14 pm14 an14 cd14 ct14), sl14⟩) (c14 : PySem.W.codeIn K cd14 "_law_well" = true) (k14 : PySem.W.keepIn K (.ref g14) = true)
    (a15 : PySem.W.nsIn K mainGlobals "_law_dip" = some (some (.ref g15))) (l15 : K.lookup g15 = some ⟨oc15, od15, .func (PySem.W.fnOf "_law_dip" "_law_dip" (defArgs s_law_dip) (defBody s_law_dip) (defScope s_law_dip) .none kV15 dc15 pm15 an15 cd15 ct15), sl15⟩) (c15 : PySem.W.codeIn K cd15 "_law_dip" = true) (k15 : PySem.W.keepIn K (.ref g15) = true)
    (a16 : PySem.W.nsIn K mainGlobals "_law_same" = some (some (.ref g16))) (l16 : K.lookup g16 = some ⟨oc16, od16, .func (PySem.W.fnOf "_law_same" "_law_same" (defArgs s_law_same) (defBody s_law_same) (defScope s_law_same) .none kV16 dc16 pm16 an16 cd16 ct16), sl16⟩) (c16 : PySem.W.codeIn K cd16 "_law_same" = true) (k16 : PySem.W.keepIn K (.ref g16) = true)
    (a17 : PySem.W.nsIn K mainGlobals "_law_low" = some (some (.ref g17))) (l17 : K.lookup g17 = some ⟨oc17, od17, .func (PySem.W.fnOf "_law_low" "_law_low" (defArgs s_law_low) (defBody s_law_low) (defScope s_law_low) .none kV17 dc17 pm17 an17 cd17 ct17), sl17⟩) (c17 : PySem.W.codeIn K cd17 "_law_low" = true) (k17 : PySem.W.keepIn K (.ref g17) = true)
    (a18 : PySem.W.nsIn K mainGlobals "_law_even" = some (some (.ref g18))) (l18 : K.lookup g18 = some ⟨oc18, od18, .func (PySem.W.fnOf "_law_even" "_law_even" (defArgs s_law_even) (defBody s_law_even) (defScope s_law_even) .none kV18 dc18 pm18 an18 cd18 ct18), sl18⟩) (c18 : PySem.W.codeIn K cd18 "_law_even" = true) (k18 : PySem.W.keepIn K (.ref g18) = true)
    (a19 : PySem.W.nsIn K mainGlobals "_law_ways" = some (some (.ref g19))) (l19 : K.lookup g19 = some ⟨oc19, od19, .func (PySem.W.fnOf "_law_ways" "_law_ways" (defArgs s_law_ways) (defBody s_law_ways) (defScope s_law_ways) .none kV19 dc19 pm19 an19 cd19 ct19), sl19⟩) (c19 : PySem.W.codeIn K cd19 "_law_ways" = true) (k19 : PySem.W.keepIn K (.ref g19) = true)
    (a20 : PySem.W.nsIn K mainGlobals "law" = some (some (.ref g20))) (l20 : K.lookup g20 = some ⟨oc20, od20, .func (PySem.W.fnOf "law" "law" (defArgs s_law) (defBody s_law) (defScope s_law) .none kV20 dc20 pm20 an20 cd20 ct20), sl20⟩) (c20 : PySem.W.codeIn K cd20 "law" = true) (k20 : PySem.W.keepIn K (.ref g20) = true)
    (z_abs : PySem.W.nsIn K mainGlobals "abs" = some none)
    (z_bool : PySem.W.nsIn K mainGlobals "bool" = some none)
    (z_int : PySem.W.nsIn K mainGlobals "int" = some none)
    (z_isinstance : PySem.W.nsIn K mainGlobals "isinstance" = some none)
    (z_len : PySem.W.nsIn K mainGlobals "len" = some none)
    (z_list : PySem.W.nsIn K mainGlobals "list" = some none)
    (z_max : PySem.W.nsIn K mainGlobals "max" = some none)
    (z_min : PySem.W.nsIn K mainGlobals "min" = some none)
    (z_range : PySem.W.nsIn K mainGlobals "range" = some none)
    (z_str : PySem.W.nsIn K mainGlobals "str" = some none)
    (z_tuple : PySem.W.nsIn K mainGlobals "tuple" = some none)
    (i_comb : PySem.W.nsIn K mainGlobals "comb" = some (some (.builtin "math.comb")))
    (i_factorial : PySem.W.nsIn K mainGlobals "factorial" = some (some (.builtin "math.factorial")))
    (i_gcd : PySem.W.nsIn K mainGlobals "gcd" = some (some (.builtin "math.gcd"))) :
    ∃ fd : FuncData, (∀ (s : Shared) (u : Value), BindsTo s fd ⟨[u], []⟩ [("script", u)]) ∧ ∀ base : Heap, K.In base → base.Ns mainGlobals mg → FnOk l.prog w K mg base (L2.CX l.prog w) 5 fa fd ["script"] (toSp K sp_law) := by
  exact all_of {
    a_is_integer := g0, fd_is_integer := _, m_is_integer := PySem.W.mg_of X G a0, F_is_integer := fun_mk (st := s_is_integer) l0 c0 k0, d_is_integer := (fun_mk (st := s_is_integer) l0 c0 k0).binds (ps := ["value"]) (fun _ _ _ _ _ _ us hl => match us, hl with | [_], _ => rfl),
    a_is_natural := g1, fd_is_natural := _, m_is_natural := PySem.W.mg_of X G a1, F_is_natural := fun_mk (st := s_is_natural) l1 c1 k1, d_is_natural := (fun_mk (st := s_is_natural) l1 c1 k1).binds (ps := ["value"]) (fun _ _ _ _ _ _ us hl => match us, hl with | [_], _ => rfl),
    a_is_below := g2, fd_is_below := _, m_is_below := PySem.W.mg_of X G a2, F_is_below := fun_mk (st := s_is_below) l2 c2 k2, d_is_below := (fun_mk (st := s_is_below) l2 c2 k2).binds (ps := ["value", "many"]) (fun _ _ _ _ _ _ us hl => match us, hl with | [_, _], _ => rfl),
    a_lowest := g3, fd_lowest := _, m_lowest := PySem.W.mg_of X G a3, F_lowest := fun_mk (st := s_lowest) l3 c3 k3, d_lowest := (fun_mk (st := s_lowest) l3 c3 k3).binds (ps := ["top", "bottom"]) (fun _ _ _ _ _ _ us hl => match us, hl with | [_, _], _ => rfl),
    a_whole := g4, fd_whole := _, m_whole := PySem.W.mg_of X G a4, F_whole := fun_mk (st := s_whole) l4 c4 k4, d_whole := (fun_mk (st := s_whole) l4 c4 k4).binds (ps := ["a"]) (fun _ _ _ _ _ _ us hl => match us, hl with | [_], _ => rfl),
    a_product := g5, fd_product := _, m_product := PySem.W.mg_of X G a5, F_product := fun_mk (st := s_product) l5 c5 k5, d_product := (fun_mk (st := s_product) l5 c5 k5).binds (ps := ["a", "b"]) (fun _ _ _ _ _ _ us hl => match us, hl with | [_, _], _ => rfl),
    a_power := g6, fd_power := _, m_power := PySem.W.mg_of X G a6, F_power := fun_mk (st := s_power) l6 c6 k6, d_power := (fun_mk (st := s_power) l6 c6 k6).binds (ps := ["b", "n"]) (fun _ _ _ _ _ _ us hl => match us, hl with | [_, _], _ => rfl),
    a_check_throws := g7, fd_check_throws := _, m_check_throws := PySem.W.mg_of X G a7, F_check_throws := fun_mk (st := s_check_throws) l7 c7 k7, d_check_throws := (fun_mk (st := s_check_throws) l7 c7 k7).binds (ps := ["n"]) (fun _ _ _ _ _ _ us hl => match us, hl with | [_], _ => rfl),
    a_doublings := g8, fd_doublings := _, m_doublings := PySem.W.mg_of X G a8, F_doublings := fun_mk (st := s_doublings) l8 c8 k8, d_doublings := (fun_mk (st := s_doublings) l8 c8 k8).binds (ps := ["bottom"]) (fun _ _ _ _ _ _ us hl => match us, hl with | [_], _ => rfl),
    a_toss_cost := g9, fd_toss_cost := _, m_toss_cost := PySem.W.mg_of X G a9, F_toss_cost := fun_mk (st := s_toss_cost) l9 c9 k9, d_toss_cost := (fun_mk (st := s_toss_cost) l9 c9 k9).binds (ps := ["number"]) (fun _ _ _ _ _ _ us hl => match us, hl with | [_], _ => rfl),
    a_even_of := g10, fd_even_of := _, m_even_of := PySem.W.mg_of X G a10, F_even_of := fun_mk (st := s_even_of) l10 c10 k10, d_even_of := (fun_mk (st := s_even_of) l10 c10 k10).binds (ps := ["n"]) (fun _ _ _ _ _ _ us hl => match us, hl with | [_], _ => rfl),
    a_even_mean := g11, fd_even_mean := _, m_even_mean := PySem.W.mg_of X G a11, F_even_mean := fun_mk (st := s_even_mean) l11 c11 k11, d_even_mean := (fun_mk (st := s_even_mean) l11 c11 k11).binds (ps := ["n"]) (fun _ _ _ _ _ _ us hl => match us, hl with | [_], _ => rfl),
    a_shuffle_mean := g12, fd_shuffle_mean := _, m_shuffle_mean := PySem.W.mg_of X G a12, F_shuffle_mean := fun_mk (st := s_shuffle_mean) l12 c12 k12, d_shuffle_mean := (fun_mk (st := s_shuffle_mean) l12 c12 k12).binds (ps := ["n"]) (fun _ _ _ _ _ _ us hl => match us, hl with | [_], _ => rfl),
    a_lot_mean := g13, fd_lot_mean := _, m_lot_mean := PySem.W.mg_of X G a13, F_lot_mean := fun_mk (st := s_lot_mean) l13 c13 k13, d_lot_mean := (fun_mk (st := s_lot_mean) l13 c13 k13).binds (ps := ["n", "k"]) (fun _ _ _ _ _ _ us hl => match us, hl with | [_, _], _ => rfl),
    a_law_well := g14, fd_law_well := _, m_law_well := PySem.W.mg_of X G a14, F_law_well := fun_mk (st := s_law_well) l14 c14 k14, d_law_well := (fun_mk (st := s_law_well) l14 c14 k14).binds (ps := ["script", "place"]) (fun _ _ _ _ _ _ us hl => match us, hl with | [_, _], _ => rfl),
    a_law_dip := g15, fd_law_dip := _, m_law_dip := PySem.W.mg_of X G a15, F_law_dip := fun_mk (st := s_law_dip) l15 c15 k15, d_law_dip := (fun_mk (st := s_law_dip) l15 c15 k15).binds (ps := ["well", "upto"]) (fun _ _ _ _ _ _ us hl => match us, hl with | [_, _], _ => rfl),
    a_law_same := g16, fd_law_same := _, m_law_same := PySem.W.mg_of X G a16, F_law_same := fun_mk (st := s_law_same) l16 c16 k16, d_law_same := (fun_mk (st := s_law_same) l16 c16 k16).binds (ps := ["told", "due"]) (fun _ _ _ _ _ _ us hl => match us, hl with | [_, _], _ => rfl),
    a_law_low := g17, fd_law_low := _, m_law_low := PySem.W.mg_of X G a17, F_law_low := fun_mk (st := s_law_low) l17 c17 k17, d_law_low := (fun_mk (st := s_law_low) l17 c17 k17).binds (ps := ["top", "bottom"]) (fun _ _ _ _ _ _ us hl => match us, hl with | [_, _], _ => rfl),
    a_law_even := g18, fd_law_even := _, m_law_even := PySem.W.mg_of X G a18, F_law_even := fun_mk (st := s_law_even) l18 c18 k18, d_law_even := (fun_mk (st := s_law_even) l18 c18 k18).binds (ps := ["n"]) (fun _ _ _ _ _ _ us hl => match us, hl with | [_], _ => rfl),
    a_law_ways := g19, fd_law_ways := _, m_law_ways := PySem.W.mg_of X G a19, F_law_ways := fun_mk (st := s_law_ways) l19 c19 k19, d_law_ways := (fun_mk (st := s_law_ways) l19 c19 k19).binds (ps := ["n", "k"]) (fun _ _ _ _ _ _ us hl => match us, hl with | [_, _], _ => rfl),
    a_law := g20, fd_law := _, m_law := PySem.W.mg_of X G a20, F_law := fun_mk (st := s_law) l20 c20 k20, d_law := (fun_mk (st := s_law) l20 c20 k20).binds (ps := ["script"]) (fun _ _ _ _ _ _ us hl => match us, hl with | [_], _ => rfl),
    b_abs := PySem.W.mg_none_of X G z_abs,
    b_bool := PySem.W.mg_none_of X G z_bool,
    b_int := PySem.W.mg_none_of X G z_int,
    b_isinstance := PySem.W.mg_none_of X G z_isinstance,
    b_len := PySem.W.mg_none_of X G z_len,
    b_list := PySem.W.mg_none_of X G z_list,
    b_max := PySem.W.mg_none_of X G z_max,
    b_min := PySem.W.mg_none_of X G z_min,
    b_range := PySem.W.mg_none_of X G z_range,
    b_str := PySem.W.mg_none_of X G z_str,
    b_tuple := PySem.W.mg_none_of X G z_tuple,
    i_comb := PySem.W.mg_of X G i_comb,
    i_factorial := PySem.W.mg_of X G i_factorial,
    i_gcd := PySem.W.mg_of X G i_gcd } hfa
theorem walk {l : PySem.W.OpenLaw} {q : Program} {loose : List Str} {XP : (Str → Option Value) → Heap → Prop} {YP : World → Heap → Prop} {d : DefRec} {K : Params → PySem.W.Frag} (hn : l.most = some 63) (hdf : d.params.defaults = [])
    (hY : ∀ (w : World) (h : Heap), YP w h → (K w.params).In h)
    (F : ∀ (w : World) (mg : Str → Option Value) (fa : Addr) (h : Heap), (K w.params).In h → h.Ns mainGlobals mg → mg d.name = some (.ref fa) →
      ∃ fd : FuncData, (∀ (s : Shared) (u : Value), BindsTo s fd ⟨[u], []⟩ [("script", u)]) ∧ ∀ base : Heap, (K w.params).In base → base.Ns mainGlobals mg → FnOk l.prog w (K w.params) mg base (L2.CX l.prog w) 5 fa fd ["script"] (toSp (K w.params) sp_law)) :
    PySem.W.WalkO q loose XP YP l.row.toRowW d [] (fun f vs => PySem.call f vs) :=
  L2.walk_of (n := 63) (k := 5) (x := "script") (CX := fun w => L2.CX l.prog w) (sp := fun w => toSp (K w.params) sp_law) hn (by decide) hdf ⟨rfl, by decide, by decide⟩ hY F (fun _ _ a ns hl hO hS => law_end hO hS (end_law ns hl)) fun w H s e s' => cx_end l.prog w H s e s'
end K38
open PySem PySem.W PyProof.Rows in
set_option maxRecDepth 100000 in
set_option maxHeartbeats 0 in
theorem PySem.Challenge.cw_wholeplays_k38_whole_means_of_even_thing_holds : PySem.Challenge.rw_wholeplays_k38_whole_means_of_even_thing.Holds := by
  w_on; o_law; k_head; (case hw => w_witness2)
  k_fill
  refine K38.walk (l := PySem.Challenge.rw_wholeplays_k38_whole_means_of_even_thing) rfl rfl (fun w h Y => PySem.W.kIn_of Y) ?F
  case F =>
    intro w mg fa h KX G hmg
    refine' K38.all_mk KX G hmg ?a0 ?l0 ?c0 ?k0 ?a1 ?l1 ?c1 ?k1 ?a2 ?l2 ?c2 ?k2 ?a3 ?l3 ?c3 ?k3 ?a4 ?l4 ?c4 ?k4 ?a5 ?l5 ?c5 ?k5 ?a6 ?l6 ?c6 ?k6 ?a7 ?l7 ?c7 ?k7 ?a8 ?l8 ?c8 ?k8 ?a9 ?l9 ?c9 ?k9 ?a10 ?l10 ?c10 ?k10 ?a11 ?l11 ?c11 ?k11 ?a12 ?l12 ?c12 ?k12 ?a13 ?l13 ?c13 ?k13 ?a14 ?l14 ?c14 ?k14 ?a15 ?l15 ?c15 ?k15 ?a16 ?l16 ?c16 ?k16 ?a17 ?l17 ?c17 ?k17 ?a18 ?l18 ?c18 ?k18 ?a19 ?l19 ?c19 ?k19 ?a20 ?l20 ?c20 ?k20 ?z_abs ?z_bool ?z_int ?z_isinstance ?z_len ?z_list ?z_max ?z_min ?z_range ?z_str ?z_tuple ?i_comb ?i_factorial ?i_gcd
    (case a0 => k_is)
    (case l0 => k_is)
    (case c0 => k_is)
    (case k0 => k_is)
    (case a1 => k_is)
    (case l1 => k_is)
    (case c1 => k_is)
    (case k1 => k_is)
    (case a2 => k_is)
    (case l2 => k_is)
    (case c2 => k_is)
    (case k2 => k_is)
    (case a3 => k_is)
    (case l3 => k_is)
    (case c3 => k_is)
    (case k3 => k_is)
    (case a4 => k_is)
    (case l4 => k_is)
    (case c4 => k_is)
    (case k4 => k_is)
    (case a5 => k_is)
    (case l5 => k_is)
    (case c5 => k_is)
    (case k5 => k_is)
    (case a6 => k_is)
    (case l6 => k_is)
    (case c6 => k_is)
    (case k6 => k_is)
    (case a7 => k_is)
    (case l7 => k_is)
    (case c7 => k_is)
    (case k7 => k_is)
    (case a8 => k_is)
    (case l8 => k_is)
    (case c8 => k_is)
    (case k8 => k_is)
    (case a9 => k_is)
    (case l9 => k_is)
    (case c9 => k_is)
    (case k9 => k_is)
    (case a10 => k_is)
    (case l10 => k_is)
    (case c10 => k_is)
    (case k10 => k_is)
    (case a11 => k_is)
    (case l11 => k_is)
    (case c11 => k_is)
    (case k11 => k_is)
    (case a12 => k_is)
    (case l12 => k_is)
    (case c12 => k_is)
    (case k12 => k_is)
    (case a13 => k_is)
    (case l13 => k_is)
    (case c13 => k_is)
    (case k13 => k_is)
    (case a14 => k_is)
    (case l14 => k_is)
    (case c14 => k_is)
    (case k14 => k_is)
    (case a15 => k_is)
    (case l15 => k_is)
    (case c15 => k_is)
    (case k15 => k_is)
    (case a16 => k_is)
    (case l16 => k_is)
    (case c16 => k_is)
    (case k16 => k_is)
    (case a17 => k_is)
    (case l17 => k_is)
    (case c17 => k_is)
    (case k17 => k_is)
    (case a18 => k_is)
    (case l18 => k_is)
    (case c18 => k_is)
    (case k18 => k_is)
    (case a19 => k_is)
    (case l19 => k_is)
    (case c19 => k_is)
    (case k19 => k_is)
    (case a20 => k_is)
    (case l20 => k_is)
    (case c20 => k_is)
    (case k20 => k_is)
    (case z_abs => k_is)
    (case z_bool => k_is)
    (case z_int => k_is)
    (case z_isinstance => k_is)
    (case z_len => k_is)
    (case z_list => k_is)
    (case z_max => k_is)
    (case z_min => k_is)
    (case z_range => k_is)
    (case z_str => k_is)
    (case z_tuple => k_is)
    (case i_comb => k_is)
    (case i_factorial => k_is)
    (case i_gcd => k_is)
