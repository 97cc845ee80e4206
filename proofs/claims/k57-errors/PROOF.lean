import PyProof.Rows.All
import Wide.All
import OpenK.AllK
import Wide.FinOn
import HandS.ForMost
import HandS.Exc
import HandS.ExcOwn
import HandS.Wide
import HandS.WordsExc
import HandS.ExcInit
import HandS.Gcd
import HandS.IsInst
import HandS.TupAny
import HandS.More
import HandS.Conv
import HandS.WideBits
import KE.KMathGC
import HandS.Style
import HandS.Iter
import KE.GoesEnum
import HandS.SetFor
import HandS.Strs
import HandS.ExcIs
import HandS.ExcField
import PySem.Challenge.RW_wholeplays_k57_errors_of_games_and_sourc
set_option Elab.async false
set_option linter.all false
set_option maxRecDepth 100000
set_option maxHeartbeats 4000000
/-! DL: a layer of plain values over HandS: tuples (and what never changes) by their contents, lists and dicts by address in a small store. -/
namespace DL
open PySem PySem.Spec PyProof.Rows L2

/-! ### values -/
inductive D where
  | non | bl (b : Bool) | int (i : Int) | str (x : Str) | ty (n : String) | ref (a : Addr)
  | tup (xs : List D)
  | fro (xs : List D)
  | exc (C : Addr) (d : D)
  deriving Inhabited

/-- a list that never changes: locked, or of the written part -/
def StL (K : PySem.W.Frag) (H : Hp) (a : Addr) (xs : List V) : Prop :=
  (∃ o, H a = some (.frz o (.lst xs))) ∨
    ∃ (o : Obj) (its : Array Value) (n : Nat), K.lookup a = some o ∧ o.cls = .type "list" ∧ o.dict = none ∧ o.data = .seq its n ∧ its.size ≤ sizeLine ∧ Vals xs its.toList
theorem StL.sq {K : PySem.W.Frag} {H : Hp} {a : Addr} {xs : List V} (h : StL K H a xs) : SqL K H a xs := by
  rcases h with ⟨o, h⟩ | h
  · exact .inl (.inr ⟨o, h⟩)
  · exact .inr h
/-- a tuple -/
def StT (K : PySem.W.Frag) (H : Hp) (a : Addr) (xs : List V) : Prop :=
  H a = some (.tup xs) ∨
    ∃ (o : Obj) (its : Array Value) (n : Nat), K.lookup a = some o ∧ o.cls = .type "tuple" ∧ o.data = .seq its n ∧ its.size ≤ sizeLine ∧ Vals xs its.toList
theorem StT.sq {K : PySem.W.Frag} {H : Hp} {a : Addr} {xs : List V} (h : StT K H a xs) : SqT K H a xs := by
  rcases h with h | h
  · exact .inl (.inl h)
  · exact .inr h
/-- an exception object -/
def XO (a C dx : Addr) : HO := .ext fun h => ∃ oe vs, h.get? a = some oe ∧ Zc (.ref C) (some dx) oe ∧ oe.data = .fields vs

mutual
def DV (K : PySem.W.Frag) (H : Hp) : D → V → Prop
  | .non, v => v = .non
  | .bl b, v => v = .bl b
  | .int i, v => v = .int i
  | .str x, v => v = .str x
  | .ty n, v => v = .ty n
  | .ref a, v => v = .ref a
  | .tup xs, v => ∃ a vs, v = .ref a ∧ StT K H a vs ∧ DVs K H xs vs
  | .fro xs, v => ∃ a vs, v = .ref a ∧ StL K H a vs ∧ DVs K H xs vs
  | .exc C d, v => ∃ a dx w, v = .ref a ∧ H a = some (XO a C dx) ∧ H dx = some (.xd [(("value" : Str), w)]) ∧ DV K H d w
def DVs (K : PySem.W.Frag) (H : Hp) : List D → List V → Prop
  | [], vs => vs = []
  | d :: ds, vs => ∃ v ws, vs = v :: ws ∧ DV K H d v ∧ DVs K H ds ws
end

/-! ### the store -/
inductive Cell where
  | lst (xs : List D)
  | dK (kvs : List (Key × D))
abbrev Sto := Addr → Option Cell
def sup (S : Sto) (a : Addr) (c : Cell) : Sto := fun b => if b = a then some c else S b
theorem sup_same {S : Sto} {a : Addr} {c : Cell} : sup S a c a = some c := by unfold sup; rw [if_pos rfl]
theorem sup_ne {S : Sto} {a b : Addr} {c : Cell} (h : b ≠ a) : sup S a c b = S b := by unfold sup; rw [if_neg h]
theorem sup_sup {S : Sto} {a : Addr} {c c' : Cell} : sup (sup S a c) a c' = sup S a c' := by
  funext b; unfold sup; split <;> rfl
inductive DKs (K : PySem.W.Frag) (H : Hp) : List (Key × D) → List (Key × V) → Prop
  | nil : DKs K H [] []
  | cons {k : Key} {d : D} {v : V} {ds : List (Key × D)} {vs : List (Key × V)} : DV K H d v → DKs K H ds vs → DKs K H ((k, d) :: ds) ((k, v) :: vs)
def CellOk (K : PySem.W.Frag) (H : Hp) (a : Addr) : Cell → Prop
  | .lst xs => ∃ vs, H a = some (.lst vs) ∧ DVs K H xs vs
  | .dK kvs => ∃ vs, H a = some (.dK vs) ∧ DKs K H kvs vs
def SOk (K : PySem.W.Frag) (H : Hp) (S : Sto) : Prop := ∀ a c, S a = some c → CellOk K H a c
theorem SOk.free {K : PySem.W.Frag} {H : Hp} {S : Sto} (h : SOk K H S) {a : Addr} (e : H a = none) : S a = none := by
  cases q : S a with
  | none => rfl
  | some c =>
    have := h a c q
    cases c with
    | lst xs => obtain ⟨vs, e2, _⟩ := this; rw [e] at e2; cases e2
    | dK kvs => obtain ⟨vs, e2, _⟩ := this; rw [e] at e2; cases e2
/-- whatever is tracked and is not a cell's kind is not in the store -/
theorem SOk.out {K : PySem.W.Frag} {H : Hp} {S : Sto} (h : SOk K H S) {a : Addr} {o : HO} (e : H a = some o) (h1 : ∀ xs, o ≠ .lst xs) (h2 : ∀ xs, o ≠ .dK xs) : S a = none := by
  cases q : S a with
  | none => rfl
  | some c =>
    have := h a c q
    cases c with
    | lst xs => obtain ⟨vs, e2, _⟩ := this; rw [e] at e2; exact absurd (Option.some.inj e2) (h1 _)
    | dK kvs => obtain ⟨vs, e2, _⟩ := this; rw [e] at e2; exact absurd (Option.some.inj e2) (h2 _)

/-- the step from one heap and store to another: what is tracked beside the store stays; the store grows at new places alone -/
structure Go (K : PySem.W.Frag) (H : Hp) (S : Sto) (H' : Hp) (S' : Sto) : Prop where
  ok0 : SOk K H S
  ok : SOk K H' S'
  frame : ∀ a o, S a = none → H a = some o → H' a = some o
  ex : ∀ a o, S a = none → H a = some o → S' a = none
section
variable {K : PySem.W.Frag} {H H1 H2 : Hp} {S S1 S2 : Sto}
theorem Go.refl (h : SOk K H S) : Go K H S H S := ⟨h, h, fun _ _ _ e => e, fun _ _ e _ => e⟩
theorem Go.trans (g : Go K H S H1 S1) (g' : Go K H1 S1 H2 S2) : Go K H S H2 S2 :=
  ⟨g.ok0, g'.ok, fun a o e h => g'.frame a o (g.ex a o e h) (g.frame a o e h), fun a o e h => g'.ex a o (g.ex a o e h) (g.frame a o e h)⟩
theorem Go.tup (g : Go K H S H1 S1) {a : Addr} {vs : List V} (h : StT K H a vs) : StT K H1 a vs := by
  rcases h with h | h
  · exact .inl (g.frame a _ (g.ok0.out h (fun _ q => by cases q) (fun _ q => by cases q)) h)
  · exact .inr h
theorem Go.fro (g : Go K H S H1 S1) {a : Addr} {vs : List V} (h : StL K H a vs) : StL K H1 a vs := by
  rcases h with ⟨o, h⟩ | h
  · exact .inl ⟨o, g.frame a _ (g.ok0.out h (fun _ q => by cases q) (fun _ q => by cases q)) h⟩
  · exact .inr h
mutual
theorem DV.go (g : Go K H S H1 S1) : ∀ (d : D) (v : V), DV K H d v → DV K H1 d v
  | .non, _, h => h
  | .bl _, _, h => h
  | .int _, _, h => h
  | .str _, _, h => h
  | .ty _, _, h => h
  | .ref _, _, h => h
  | .tup xs, v, h => by
    obtain ⟨a, vs, e, q, r⟩ := h
    exact ⟨a, vs, e, g.tup q, DVs.go g xs vs r⟩
  | .fro xs, v, h => by
    obtain ⟨a, vs, e, q, r⟩ := h
    exact ⟨a, vs, e, g.fro q, DVs.go g xs vs r⟩
  | .exc C d, v, h => by
    obtain ⟨a, dx, w, e, q1, q2, r⟩ := h
    exact ⟨a, dx, w, e, g.frame a _ (g.ok0.out q1 (fun _ q => by cases q) (fun _ q => by cases q)) q1, g.frame dx _ (g.ok0.out q2 (fun _ q => by cases q) (fun _ q => by cases q)) q2, DV.go g d w r⟩
theorem DVs.go (g : Go K H S H1 S1) : ∀ (ds : List D) (vs : List V), DVs K H ds vs → DVs K H1 ds vs
  | [], _, h => h
  | d :: ds, vs, h => by
    obtain ⟨v, ws, e, r, q⟩ := h
    exact ⟨v, ws, e, DV.go g d v r, DVs.go g ds ws q⟩
end
theorem DKs.go (g : Go K H S H1 S1) {ds : List (Key × D)} {vs : List (Key × V)} (h : DKs K H ds vs) : DKs K H1 ds vs := by
  induction h with
  | nil => exact .nil
  | cons r _ ih => exact .cons (DV.go g _ _ r) ih

theorem DVs.length : ∀ {ds : List D} {vs : List V}, DVs K H ds vs → ds.length = vs.length
  | [], _, h => by cases (show _ = [] from h); rfl
  | d :: ds, vs, h => by
    obtain ⟨v, ws, rfl, _, q⟩ := h
    rw [List.length_cons, List.length_cons, DVs.length q]
theorem DVs.get : ∀ {ds : List D} {vs : List V} {i : Nat} {d : D}, DVs K H ds vs → ds[i]? = some d → ∃ v, vs[i]? = some v ∧ DV K H d v
  | [], _, _, _, _, e => by simp at e
  | d :: ds, vs, 0, x, h, e => by
    obtain ⟨v, ws, rfl, r, q⟩ := h
    have e : d = x := by simpa using e
    subst e
    exact ⟨v, rfl, r⟩
  | d :: ds, vs, i + 1, x, h, e => by
    obtain ⟨v, ws, rfl, r, q⟩ := h
    exact DVs.get (i := i) q (by simpa using e)
theorem DVs.nil : DVs K H [] [] := rfl
theorem DVs.cons {d : D} {v : V} {ds : List D} {vs : List V} (h : DV K H d v) (t : DVs K H ds vs) : DVs K H (d :: ds) (v :: vs) := ⟨v, vs, rfl, h, t⟩
theorem DVs.append : ∀ {ds es : List D} {vs ws : List V}, DVs K H ds vs → DVs K H es ws → DVs K H (ds ++ es) (vs ++ ws)
  | [], _, _, _, h, t => by cases (show _ = [] from h); exact t
  | d :: ds, es, vs, ws, h, t => by
    obtain ⟨v, us, rfl, r, q⟩ := h
    exact DVs.cons r (DVs.append q t)
theorem DVs.take : ∀ {ds : List D} {vs : List V} (n : Nat), DVs K H ds vs → DVs K H (ds.take n) (vs.take n)
  | _, _, 0, _ => by simp [DVs]
  | [], _, _ + 1, h => by cases (show _ = [] from h); exact DVs.nil
  | d :: ds, vs, n + 1, h => by
    obtain ⟨v, us, rfl, r, q⟩ := h
    exact DVs.cons r (DVs.take n q)
theorem DVs.drop : ∀ {ds : List D} {vs : List V} (n : Nat), DVs K H ds vs → DVs K H (ds.drop n) (vs.drop n)
  | _, _, 0, h => h
  | [], _, _ + 1, h => by cases (show _ = [] from h); exact DVs.nil
  | d :: ds, vs, n + 1, h => by
    obtain ⟨v, us, rfl, r, q⟩ := h
    exact DVs.drop n q
theorem DVs.set : ∀ {ds : List D} {vs : List V} {d : D} {v : V} (i : Nat), DVs K H ds vs → DV K H d v → DVs K H (ds.set i d) (vs.set i v)
  | [], _, _, _, _, h, _ => by cases (show _ = [] from h); exact DVs.nil
  | d :: ds, vs, x, y, 0, h, t => by
    obtain ⟨v, us, rfl, r, q⟩ := h
    exact DVs.cons t q
  | d :: ds, vs, x, y, i + 1, h, t => by
    obtain ⟨v, us, rfl, r, q⟩ := h
    exact DVs.cons r (DVs.set i q t)
theorem DVs.rev : ∀ {ds : List D} {vs : List V}, DVs K H ds vs → DVs K H ds.reverse vs.reverse
  | [], _, h => by cases (show _ = [] from h); exact DVs.nil
  | d :: ds, vs, h => by
    obtain ⟨v, us, rfl, r, q⟩ := h
    rw [List.reverse_cons, List.reverse_cons]
    exact DVs.append (DVs.rev q) (DVs.cons r DVs.nil)
theorem DVs.ints : ∀ {ns : List Int} {vs : List V}, DVs K H (ns.map D.int) vs → vs = ns.map V.int
  | [], _, h => h
  | n :: ns, vs, h => by
    obtain ⟨v, us, rfl, r, q⟩ := h
    rw [List.map_cons, ← DVs.ints q, show v = V.int n from r]
theorem DVs.of_ints : ∀ {ns : List Int}, DVs K H (ns.map D.int) (ns.map V.int)
  | [] => DVs.nil
  | n :: ns => DVs.cons (show DV K H (.int n) (.int n) from rfl) DVs.of_ints
theorem DVs.bls : ∀ {ns : List Bool} {vs : List V}, DVs K H (ns.map D.bl) vs → vs = ns.map V.bl
  | [], _, h => h
  | n :: ns, vs, h => by
    obtain ⟨v, us, rfl, r, q⟩ := h
    rw [List.map_cons, ← DVs.bls q, show v = V.bl n from r]
theorem DVs.strs : ∀ {ns : List Str} {vs : List V}, DVs K H (ns.map D.str) vs → vs = ns.map V.str
  | [], _, h => h
  | n :: ns, vs, h => by
    obtain ⟨v, us, rfl, r, q⟩ := h
    rw [List.map_cons, ← DVs.strs q, show v = V.str n from r]

/-- a new object beside the store -/
theorem Go.new (h : SOk K H S) {p : Addr} {o : HO} (hp : H p = none) : Go K H S (upd H p o) S := by
  have sok : ∀ a c, S a = some c → a ≠ p := fun a c e z => by
    subst z
    rw [h.free hp] at e
    cases e
  have g0 : ∀ a u, H a = some u → upd H p o a = some u := fun a u e => by rw [upd_ne (ne_of_none e hp)]; exact e
  -- through an empty store
  have gE : Go K H (fun _ => none) (upd H p o) (fun _ => none) := ⟨fun _ _ e => by simp at e, fun _ _ e => by simp at e, fun a u _ e => g0 a u e, fun _ _ _ _ => rfl⟩
  refine ⟨h, fun a c e => ?_, fun a u _ e => g0 a u e, fun _ _ e _ => e⟩
  have := h a c e
  cases c with
  | lst xs => obtain ⟨vs, e1, r⟩ := this; exact ⟨vs, g0 _ _ e1, DVs.go gE _ _ r⟩
  | dK kvs => obtain ⟨vs, e1, r⟩ := this; exact ⟨vs, g0 _ _ e1, DKs.go gE r⟩
theorem Go.newLst (h : SOk K H S) {p : Addr} {xs : List D} {vs : List V} (hp : H p = none) (r : DVs K H xs vs) : Go K H S (upd H p (.lst vs)) (sup S p (.lst xs)) := by
  have g := Go.new (o := .lst vs) h hp
  refine ⟨h, fun a c e => ?_, g.frame, fun a o e q => by rw [sup_ne (ne_of_none q hp)]; exact e⟩
  by_cases ha : a = p
  · subst ha
    rw [sup_same] at e; cases e
    exact ⟨vs, upd_same, DVs.go g _ _ r⟩
  · rw [sup_ne ha] at e
    exact g.ok a c e
theorem Go.newDK (h : SOk K H S) {p : Addr} {xs : List (Key × D)} {vs : List (Key × V)} (hp : H p = none) (r : DKs K H xs vs) : Go K H S (upd H p (.dK vs)) (sup S p (.dK xs)) := by
  have g := Go.new (o := .dK vs) h hp
  refine ⟨h, fun a c e => ?_, g.frame, fun a o e q => by rw [sup_ne (ne_of_none q hp)]; exact e⟩
  by_cases ha : a = p
  · subst ha
    rw [sup_same] at e; cases e
    exact ⟨vs, upd_same, DKs.go g r⟩
  · rw [sup_ne ha] at e
    exact g.ok a c e
theorem tup_wr {p : Addr} {o o' : HO} (hp : H p = some o) (hc : (∃ xs, o = .lst xs) ∨ ∃ xs, o = .dK xs) {a : Addr} {vs : List V} (h : StT K H a vs) : StT K (upd H p o') a vs := by
  have ne : ∀ {b u}, H b = some u → (∀ xs, u ≠ .lst xs) → (∀ xs, u ≠ .dK xs) → b ≠ p := fun {b u} e h1 h2 z => by
    subst z
    rw [hp] at e
    rcases hc with ⟨xs, q⟩ | ⟨xs, q⟩
    · exact h1 xs ((Option.some.inj e).symm.trans q)
    · exact h2 xs ((Option.some.inj e).symm.trans q)
  rcases h with h | h
  · exact .inl (by rw [upd_ne (ne h (fun _ q => by cases q) (fun _ q => by cases q))]; exact h)
  · exact .inr h
mutual
theorem DV.wr {p : Addr} {o o' : HO} (hp : H p = some o) (hc : (∃ xs, o = .lst xs) ∨ ∃ xs, o = .dK xs) : ∀ (d : D) (v : V), DV K H d v → DV K (upd H p o') d v
  | .non, _, h => h
  | .bl _, _, h => h
  | .int _, _, h => h
  | .str _, _, h => h
  | .ty _, _, h => h
  | .ref _, _, h => h
  | .tup xs, v, h => by
    obtain ⟨a, vs, e, q, r⟩ := h
    exact ⟨a, vs, e, tup_wr hp hc q, DVs.wr hp hc xs vs r⟩
  | .fro xs, v, h => by
    obtain ⟨a, vs, e, q, r⟩ := h
    refine ⟨a, vs, e, ?_, DVs.wr hp hc xs vs r⟩
    rcases q with ⟨u, q⟩ | q
    · refine .inl ⟨u, ?_⟩
      rw [upd_ne (fun z => ?_)]
      · exact q
      · subst z
        rw [hp] at q
        rcases hc with ⟨xs, z⟩ | ⟨xs, z⟩ <;> (rw [z] at q; cases q)
    · exact .inr q
  | .exc C d, v, h => by
    obtain ⟨a, dx, w, e, q1, q2, r⟩ := h
    refine ⟨a, dx, w, e, ?_, ?_, DV.wr hp hc d w r⟩
    · rw [upd_ne (fun z => ?_)]
      · exact q1
      · subst z
        rw [hp] at q1
        rcases hc with ⟨xs, z⟩ | ⟨xs, z⟩ <;> (rw [z] at q1; cases q1)
    · rw [upd_ne (fun z => ?_)]
      · exact q2
      · subst z
        rw [hp] at q2
        rcases hc with ⟨xs, z⟩ | ⟨xs, z⟩ <;> (rw [z] at q2; cases q2)
theorem DVs.wr {p : Addr} {o o' : HO} (hp : H p = some o) (hc : (∃ xs, o = .lst xs) ∨ ∃ xs, o = .dK xs) : ∀ (ds : List D) (vs : List V), DVs K H ds vs → DVs K (upd H p o') ds vs
  | [], _, h => h
  | d :: ds, vs, h => by
    obtain ⟨v, ws, e, r, q⟩ := h
    exact ⟨v, ws, e, DV.wr hp hc d v r, DVs.wr hp hc ds ws q⟩
end
theorem DKs.wr {p : Addr} {o o' : HO} (hp : H p = some o) (hc : (∃ xs, o = .lst xs) ∨ ∃ xs, o = .dK xs) {ds : List (Key × D)} {vs : List (Key × V)} (h : DKs K H ds vs) : DKs K (upd H p o') ds vs := by
  induction h with
  | nil => exact .nil
  | cons r _ ih => exact .cons (DV.wr hp hc _ _ r) ih
theorem Go.setLst (h : SOk K H S) {p : Addr} {xs0 xs : List D} {vs : List V} (hp : S p = some (.lst xs0)) (r : DVs K H xs vs) : Go K H S (upd H p (.lst vs)) (sup S p (.lst xs)) := by
  obtain ⟨vs0, e0, _⟩ := h p _ hp
  refine ⟨h, fun a c e => ?_, fun a o e q => ?_, fun a o e q => ?_⟩
  · by_cases ha : a = p
    · subst ha
      rw [sup_same] at e; cases e
      exact ⟨vs, upd_same, DVs.wr e0 (.inl ⟨_, rfl⟩) _ _ r⟩
    · rw [sup_ne ha] at e
      have := h a c e
      cases c with
      | lst xs => obtain ⟨ws, e1, r⟩ := this; exact ⟨ws, by rw [upd_ne ha]; exact e1, DVs.wr e0 (.inl ⟨_, rfl⟩) _ _ r⟩
      | dK kvs => obtain ⟨ws, e1, r⟩ := this; exact ⟨ws, by rw [upd_ne ha]; exact e1, DKs.wr e0 (.inl ⟨_, rfl⟩) r⟩
  · rw [upd_ne (fun z => ?_)]
    · exact q
    · subst z; rw [hp] at e; cases e
  · rw [sup_ne (fun z => ?_)]
    · exact e
    · subst z; rw [hp] at e; cases e
theorem Go.setDK (h : SOk K H S) {p : Addr} {xs0 xs : List (Key × D)} {vs : List (Key × V)} (hp : S p = some (.dK xs0)) (r : DKs K H xs vs) : Go K H S (upd H p (.dK vs)) (sup S p (.dK xs)) := by
  obtain ⟨vs0, e0, _⟩ := h p _ hp
  refine ⟨h, fun a c e => ?_, fun a o e q => ?_, fun a o e q => ?_⟩
  · by_cases ha : a = p
    · subst ha
      rw [sup_same] at e; cases e
      exact ⟨vs, upd_same, DKs.wr e0 (.inr ⟨_, rfl⟩) r⟩
    · rw [sup_ne ha] at e
      have := h a c e
      cases c with
      | lst xs => obtain ⟨ws, e1, r⟩ := this; exact ⟨ws, by rw [upd_ne ha]; exact e1, DVs.wr e0 (.inr ⟨_, rfl⟩) _ _ r⟩
      | dK kvs => obtain ⟨ws, e1, r⟩ := this; exact ⟨ws, by rw [upd_ne ha]; exact e1, DKs.wr e0 (.inr ⟨_, rfl⟩) r⟩
  · rw [upd_ne (fun z => ?_)]
    · exact q
    · subst z; rw [hp] at e; cases e
  · rw [sup_ne (fun z => ?_)]
    · exact e
    · subst z; rw [hp] at e; cases e
/-- a list that is read: a cell, or one that never changes -/
def RdL (S : Sto) (d : D) (xs : List D) : Prop := (∃ a, d = .ref a ∧ S a = some (.lst xs)) ∨ d = .fro xs
theorem RdL.sq (h : SOk K H S) {d : D} {xs : List D} {v : V} (r : RdL S d xs) (dv : DV K H d v) : ∃ a vs, v = .ref a ∧ SqL K H a vs ∧ DVs K H xs vs := by
  rcases r with ⟨a, rfl, e⟩ | rfl
  · obtain ⟨vs, e1, q⟩ := h a _ e
    exact ⟨a, vs, dv, SqL.of e1, q⟩
  · obtain ⟨a, vs, e, q, r⟩ := dv
    exact ⟨a, vs, e, q.sq, r⟩
/-- a slot map -/
def SRv (K : PySem.W.Frag) (σ : L2.St) (H : Hp) (ρ : List (Option D)) : Prop := ρ.length = σ.length ∧ ∀ (i : Nat) (d : D), ρ[i]? = some (some d) → ∃ v, σ[i]? = some (some v) ∧ DV K H d v
theorem SRv.go {σ : L2.St} {ρ : List (Option D)} (r : SRv K σ H ρ) (g : Go K H S H1 S1) : SRv K σ H1 ρ := ⟨r.1, fun i d e => by
  obtain ⟨v, e1, q⟩ := r.2 i d e
  exact ⟨v, e1, DV.go g _ _ q⟩⟩
theorem SRv.set {σ : L2.St} {ρ : List (Option D)} (r : SRv K σ H ρ) {d : D} {v : V} (q : DV K H d v) (i : Nat) : SRv K (σ.set i (some v)) H (ρ.set i (some d)) := by
  refine ⟨by rw [List.length_set, List.length_set]; exact r.1, fun j e h => ?_⟩
  by_cases hj : i = j
  · subst hj
    have hl : i < ρ.length := by
      have := (List.getElem?_eq_some_iff.mp h).1
      rwa [List.length_set] at this
    rw [List.getElem?_set_self hl] at h
    have e2 : d = e := Option.some.inj (Option.some.inj h)
    subst e2
    exact ⟨v, by rw [List.getElem?_set_self (by rw [← r.1]; exact hl)], q⟩
  · rw [List.getElem?_set_ne hj] at h
    obtain ⟨u, e1, q1⟩ := r.2 j e h
    exact ⟨u, by rw [List.getElem?_set_ne hj]; exact e1, q1⟩
end
end DL
set_option Elab.async false
set_option linter.all false
set_option maxRecDepth 100000
set_option maxHeartbeats 4000000
namespace DL
open PySem PySem.Spec PyProof.Rows L2

/-! ### readings of plain values -/
abbrev Ro := List (Option D)
abbrev RE := Ro → Sto → (D → Sto → Prop) → Prop
abbrev RT := Ro → Sto → (Bool → Sto → Prop) → Prop
abbrev RA := Ro → Sto → (List D → Sto → Prop) → Prop
/-- what is wanted of an exception: its class, its value, the slots, the store -/
abbrev DWX := Addr → D → Ro → Sto → Prop
structure DXw where
  W : WX
  d : DWX
def XOk (K : PySem.W.Frag) (y : DXw) (H : Hp) (S : Sto) : Prop := ∀ C d ρ S' dx w σ H', Go K H S H' S' → SRv K σ H' ρ → H' dx = some (.xd [(("value" : Str), w)]) → DV K H' d w → y.d C d ρ S' → y.W (.ref C) (some dx) σ H'
structure SX (K : PySem.W.Frag) (y : DXw) (H : Hp) (S : Sto) : Prop where
  so : SOk K H S
  xo : XOk K y H S
theorem SX.go {K : PySem.W.Frag} {y : DXw} {H H' : Hp} {S S' : Sto} (h : SX K y H S) (g : Go K H S H' S') : SX K y H' S' :=
  ⟨g.ok, fun C d ρ S2 dx w σ H2 g2 => h.xo C d ρ S2 dx w σ H2 (g.trans g2)⟩
def lE (K : PySem.W.Frag) (y : DXw) (t : RE) : TE := fun σ H Q => ∃ ρ S R, SRv K σ H ρ ∧ SX K y H S ∧ t ρ S R ∧ ∀ d S' v H', Go K H S H' S' → DV K H' d v → R d S' → Q v H'
def lT (K : PySem.W.Frag) (y : DXw) (t : RT) : TT := fun σ H Q => ∃ ρ S R, SRv K σ H ρ ∧ SX K y H S ∧ t ρ S R ∧ ∀ b S' H', Go K H S H' S' → R b S' → Q b H'
def lA (K : PySem.W.Frag) (y : DXw) (n : Nat) (t : RA) : TA := fun σ H Q => ∃ ρ S R, SRv K σ H ρ ∧ SX K y H S ∧ t ρ S R ∧ ∀ ds S' vs H', Go K H S H' S' → DVs K H' ds vs → ds.length = n → R ds S' → Q vs H'
def PD (X : Cx) (y : DXw) (e : Expr) (t : RE) : Prop := PE X e (lE X.K y t)
def PDT (X : Cx) (y : DXw) (e : Expr) (t : RT) : Prop := PT X e (lT X.K y t)
def PDW (X : Cx) (y : DXw) (e : Expr) (t : RT) : Prop := PW X e (lT X.K y t)
def PDA (X : Cx) (y : DXw) (es : List Expr) (t : RA) : Prop := PA X es (lA X.K y es.length t)
/-- an if that stands still until it is looked at -/
@[irreducible] def IFB (b : Bool) (A B : Prop) : Prop := if b = true then A else B
theorem IFB.mk {b : Bool} {A B : Prop} (h1 : b = true → A) (h2 : b = false → B) : IFB b A B := by
  unfold IFB
  cases b with
  | true => rw [if_pos rfl]; exact h1 rfl
  | false => rw [if_neg Bool.false_ne_true]; exact h2 rfl
theorem IFB.t {b : Bool} {A B : Prop} (h : b = true) (h1 : A) : IFB b A B := IFB.mk (fun _ => h1) fun z => by rw [h] at z; cases z
theorem IFB.f {b : Bool} {A B : Prop} (h : b = false) (h1 : B) : IFB b A B := IFB.mk (fun z => by rw [h] at z; cases z) fun _ => h1
theorem IFB.of {b : Bool} {A B : Prop} (h : IFB b A B) : (b = true → A) ∧ (b = false → B) := by
  unfold IFB at h
  cases b with
  | true => rw [if_pos rfl] at h; exact ⟨fun _ => h, fun z => (by cases z)⟩
  | false => rw [if_neg Bool.false_ne_true] at h; exact ⟨fun z => (by cases z), fun _ => h⟩
theorem IFB.p {p : Prop} [Decidable p] {A B : Prop} (h1 : p → A) (h2 : ¬ p → B) : IFB (decide p) A B := IFB.mk (fun z => h1 (of_decide_eq_true z)) fun z => h2 (of_decide_eq_false z)
theorem IFB.np {p : Prop} [Decidable p] {A B : Prop} (h1 : ¬ p → A) (h2 : p → B) : IFB (!decide p) A B := IFB.mk (fun z => h1 (by simpa using z)) fun z => h2 (by simpa using z)

section
variable {X : Cx} {y : DXw}
theorem PD.of {e : Expr} {t0 : TE} {t : RE} (h : PE X e t0) (w : ∀ σ H Q, lE X.K y t σ H Q → t0 σ H Q) : PD X y e t := ⟨fun pins s σ H Q I q => h.run pins s σ H Q I (w σ H Q q)⟩
theorem PDT.of {e : Expr} {t0 : TT} {t : RT} (h : PT X e t0) (w : ∀ σ H Q, lT X.K y t σ H Q → t0 σ H Q) : PDT X y e t := ⟨fun pins s σ H Q I q => h.run pins s σ H Q I (w σ H Q q)⟩
theorem PDA.of {e : List Expr} {t0 : TA} {t : RA} (h : PA X e t0) (w : ∀ σ H Q, lA X.K y e.length t σ H Q → t0 σ H Q) : PDA X y e t := ⟨fun pos pins s σ H Q I q => h.run pos pins s σ H Q I (w σ H Q q)⟩

/-! ### names, constants -/
def rVar (i : Nat) : RE := fun ρ S Q => match ρ[i]? with
  | some (some d) => Q d S
  | _ => False
def rC (d : D) : RE := fun _ S Q => Q d S
theorem pd_var (i : Nat) {x : Str} {pos : Pos} (hN : X.N[i]? = some x := by rfl) (hv : Vis X.env.scope x := by first | exact Or.inl rfl | exact Or.inr (Or.inl rfl) | exact Or.inr (Or.inr rfl)) (hd : (x == ("__debug__" : Str)) = false := by decide)
    (hcd : (x == ("__classdict__" : Str)) = false := by decide) : PD X y (.Name x pos) (rVar i) := by
  refine PD.of (pe_var hN hv hd hcd) fun σ H Q h => ?_
  obtain ⟨ρ, S, R, sr, so, h, k⟩ := h
  unfold rVar at h
  split at h
  · rename_i d e
    obtain ⟨v, e1, q⟩ := sr.2 i d e
    exact ⟨v, e1, k d S v H (Go.refl so.so) q h⟩
  · exact h.elim
theorem pd_c {e : Expr} {v : V} {d : D} (h : PE X e (tC v)) (hd : ∀ H, DV X.K H d v) : PD X y e (rC d) := by
  refine PD.of h fun σ H Q h => ?_
  obtain ⟨ρ, S, R, sr, so, h, k⟩ := h
  exact k d S v H (Go.refl so.so) (hd H) h
theorem pd_int {i j pos} : PD X y (.Constant (.int i) j pos) (rC (.int i)) := pd_c pe_int fun _ => rfl
theorem pd_bl {i j pos} : PD X y (.Constant (.bool i) j pos) (rC (.bl i)) := pd_c pe_bl fun _ => rfl
theorem pd_non {j pos} : PD X y (.Constant .none j pos) (rC .non) := pd_c pe_non fun _ => rfl
theorem pd_str {x j pos} : PD X y (.Constant (.str x) j pos) (rC (.str x)) := pd_c pe_str fun _ => rfl
/-- a module's constant -/
theorem pd_glob {x : Str} {v : V} {u : Value} {d : D} {pos : Pos} (hm : X.mg x = some u) (r : RelV v u) (hd' : ∀ H, DV X.K H d v) (hg : Gl X x := by rfl) (hd : (x == ("__debug__" : Str)) = false := by decide) : PD X y (.Name x pos) (rC d) :=
  pd_c (pe_glob hg hm r hd) hd'

/-! ### two-place operators, by values -/
abbrev ROp := D → D → Sto → (D → Sto → Prop) → Prop
def lop (K : PySem.W.Frag) (p : ROp) : R2 := fun v w H Q => ∃ x y S R, DV K H x v ∧ DV K H y w ∧ SOk K H S ∧ p x y S R ∧ ∀ d S' z H', Go K H S H' S' → DV K H' d z → R d S' → Q z H'
def rBin (p : ROp) (ta tb : RE) : RE := fun ρ S Q => ta ρ S fun x S1 => tb ρ S1 fun y S2 => p x y S2 Q
theorem bin_of {r : R2} {p : ROp} {ta tb : RE} {σ : L2.St} {H : Hp} {Q : VK} (hr : ∀ v w H Q, lop X.K p v w H Q → r v w H Q) (h : lE X.K y (rBin p ta tb) σ H Q) : tOp r (lE X.K y ta) (lE X.K y tb) σ H Q := by
  obtain ⟨ρ, S, R, sr, so, h, k⟩ := h
  refine ⟨ρ, S, _, sr, so, h, fun x S1 v H1 g1 dv1 h1 => ⟨ρ, S1, _, sr.go g1, so.go g1, h1, fun y S2 w H2 g2 dv2 h2 => ?_⟩⟩
  exact hr _ _ _ _ ⟨x, y, S2, R, DV.go g2 _ _ dv1, dv2, g2.ok, h2, fun d S' z H' g dz hz => k d S' z H' (g1.trans (g2.trans g)) dz hz⟩
theorem pd_bin {op : Operator} {p : ROp} {a b : Expr} {ta tb : RE} {pos : Pos} (ho : OpR X (binaryOp op) (lop X.K p)) (ha : PD X y a ta) (hb : PD X y b tb) : PD X y (.BinOp a op b pos) (rBin p ta tb) :=
  PD.of (pe_op ho ha hb) fun _ _ _ h => bin_of (fun _ _ _ _ z => z) h
theorem pd_cmp {op : CmpOp} {p : ROp} {a b : Expr} {ta tb : RE} {pos : Pos} (ho : OpR X (compareOp op) (lop X.K p)) (ha : PD X y a ta) (hb : PD X y b tb) (hm : behindInMarks op b = false := by first | rfl | exact nomark _) : PD X y (.Compare a [op] [b] pos) (rBin p ta tb) :=
  PD.of (pe_cmpR ho ha hb hm) fun _ _ _ h => bin_of (fun _ _ _ _ z => z) h
/-- a value's truth, where it is a bool -/
def dBl : D → (Bool → Prop) → Prop
  | .bl b, k => k b
  | _, _ => False
def rTst (t : RE) : RT := fun ρ S Q => t ρ S fun d S1 => dBl d fun b => Q b S1
theorem tst_of {t0 : TE} {t : RE} {σ : L2.St} {H : Hp} {Q : Bool → Hp → Prop} (ht : ∀ σ H Q, lE X.K y t σ H Q → t0 σ H Q) (h : lT X.K y (rTst t) σ H Q) : t0 σ H (fun x H' => ∃ k, x = .bl k ∧ Q k H') := by
  obtain ⟨ρ, S, R, sr, so, h, k⟩ := h
  refine ht _ _ _ ⟨ρ, S, _, sr, so, h, fun d S' v H' g dv hd => ?_⟩
  cases d with
  | bl b => exact ⟨b, dv, k b S' H' g hd⟩
  | _ => exact False.elim hd
theorem pdt_cmp {op : CmpOp} {p : ROp} {a b : Expr} {ta tb : RE} {pos : Pos} (ho : OpR X (compareOp op) (lop X.K p)) (ha : PD X y a ta) (hb : PD X y b tb) (hm : behindInMarks op b = false := by first | rfl | exact nomark _) : PDT X y (.Compare a [op] [b] pos) (rTst (rBin p ta tb)) :=
  PDT.of (pt_cmpR ho ha hb hm) fun _ _ _ h => tst_of (fun _ _ _ h => bin_of (fun _ _ _ _ z => z) h) h
theorem pdt_val {e : Expr} {t : RE} (h : PD X y e t) (he : ∀ whole, isTrue e X.env whole = (do let v ← whole; standAt e.pos; holding [v] (truthy v)) := by intro _; rfl) : PDT X y e (rTst t) :=
  PDT.of (pt_val h he) fun _ _ _ h => tst_of (fun _ _ _ h => h) h
/-- a value's truth -/
def dTru : D → Sto → (Bool → Prop) → Prop
  | .non, _, k => k false
  | .bl b, _, k => k b
  | .int i, _, k => k (i != 0)
  | .str x, _, k => x.length ≤ sizeLine ∧ k ((x.length : Int) != 0)
  | .tup xs, _, k => k (!xs.isEmpty)
  | .fro xs, _, k => k (!xs.isEmpty)
  | .ref a, S, k => (∃ xs, S a = some (.lst xs) ∧ k (!xs.isEmpty)) ∨ ∃ kvs, S a = some (.dK kvs) ∧ k (!kvs.isEmpty)
  | _, _, _ => False
theorem DVs.empty {K : PySem.W.Frag} {H : Hp} {ds : List D} {vs : List V} (h : DVs K H ds vs) : ds.isEmpty = vs.isEmpty := by
  have := h.length
  cases ds <;> cases vs <;> simp_all
theorem DKs.length {K : PySem.W.Frag} {H : Hp} {ds : List (Key × D)} {vs : List (Key × V)} (h : DKs K H ds vs) : ds.length = vs.length := by
  induction h with
  | nil => rfl
  | cons _ _ ih => simp [ih]
theorem DKs.empty {K : PySem.W.Frag} {H : Hp} {ds : List (Key × D)} {vs : List (Key × V)} (h : DKs K H ds vs) : ds.isEmpty = vs.isEmpty := by
  cases h <;> rfl
theorem dTru_of {K : PySem.W.Frag} {H : Hp} {S : Sto} (so : SOk K H S) : ∀ {d : D} {v : V} {k : Bool → Prop}, DV K H d v → dTru d S k → ∃ b, TruV K v H b ∧ k b
  | .non, _, _, h, q => by cases (show _ = V.non from h); exact ⟨false, rfl, q⟩
  | .bl b, _, _, h, q => by cases (show _ = V.bl b from h); exact ⟨b, rfl, q⟩
  | .int i, _, _, h, q => by cases (show _ = V.int i from h); exact ⟨_, rfl, q⟩
  | .str x, _, _, h, q => by cases (show _ = V.str x from h); exact ⟨_, ⟨q.1, rfl⟩, q.2⟩
  | .tup xs, _, _, h, q => by
    obtain ⟨a, vs, rfl, e, r⟩ := h
    exact ⟨_, .inr (.inl ⟨vs, e.sq, rfl⟩), by rw [← r.empty]; exact q⟩
  | .fro xs, _, _, h, q => by
    obtain ⟨a, vs, rfl, e, r⟩ := h
    exact ⟨_, .inl ⟨vs, e.sq, rfl⟩, by rw [← r.empty]; exact q⟩
  | .ref a, _, _, h, q => by
    cases (show _ = V.ref a from h)
    rcases q with ⟨xs, e, q⟩ | ⟨xs, e, q⟩
    · obtain ⟨vs, e1, r⟩ := so a _ e
      exact ⟨_, .inl ⟨vs, SqL.of e1, rfl⟩, by rw [← r.empty]; exact q⟩
    · obtain ⟨vs, e1, r⟩ := so a _ e
      exact ⟨_, .inr (.inr ⟨vs, e1, rfl⟩), by rw [← r.empty]; exact q⟩
  | .ty _, _, _, _, q => q.elim
  | .exc _ _, _, _, _, q => q.elim
def rTru (t : RE) : RT := fun ρ S Q => t ρ S fun d S1 => dTru d S1 fun b => Q b S1
theorem pdt_tru {e : Expr} {t : RE} (h : PD X y e t) (he : ∀ whole, isTrue e X.env whole = (do let v ← whole; standAt e.pos; holding [v] (truthy v)) := by intro _; rfl) : PDT X y e (rTru t) := by
  refine PDT.of (pt_truth h he) fun σ H Q h => ?_
  obtain ⟨ρ, S, R, sr, so, h, k⟩ := h
  refine ⟨ρ, S, _, sr, so, h, fun d S' v H' g dv hd => ?_⟩
  obtain ⟨b, h1, h2⟩ := dTru_of g.ok dv hd
  exact ⟨b, h1, k b S' H' g h2⟩

/-! ### and, or, not, if -/
def rAnd (t u : RT) : RT := fun ρ S Q => t ρ S fun c S1 => IFB c (u ρ S1 Q) (Q false S1)
def rOr (t u : RT) : RT := fun ρ S Q => t ρ S fun c S1 => IFB c (Q true S1) (u ρ S1 Q)
def rNot (t : RT) : RT := fun ρ S Q => t ρ S fun c S1 => Q (!c) S1
theorem ite_of_IFB {b : Bool} {A B A' B' : Prop} (h : IFB b A B) (h1 : A → A') (h2 : B → B') : if b = true then A' else B' := by
  have q := h.of
  cases b with
  | true => rw [if_pos rfl]; exact h1 (q.1 rfl)
  | false => rw [if_neg Bool.false_ne_true]; exact h2 (q.2 rfl)
variable {a b : Expr} {rest : List Expr} {pos : Pos}
theorem pdw_and1 {t : RT} (h : PDT X y a t) : PDW X y (.BoolOp .And [a] pos) t := pw_and1 h
theorem pdw_or1 {t : RT} (h : PDT X y a t) : PDW X y (.BoolOp .Or [a] pos) t := pw_or1 h
theorem PDW.of {e : Expr} {t0 : TT} {t : RT} (h : PW X e t0) (w : ∀ σ H Q, lT X.K y t σ H Q → t0 σ H Q) : PDW X y e t := ⟨fun wh pins s σ H Q I q => h.run wh pins s σ H Q I (w σ H Q q)⟩
theorem pdw_and {t u : RT} (ha : PDT X y a t) (hb : PDW X y (.BoolOp .And (b :: rest) pos) u) : PDW X y (.BoolOp .And (a :: b :: rest) pos) (rAnd t u) := by
  refine PDW.of (pw_and ha hb) fun σ H Q h => ?_
  obtain ⟨ρ, S, R, sr, so, h, k⟩ := h
  refine ⟨ρ, S, _, sr, so, h, fun c S' H' g hd => ?_⟩
  exact ite_of_IFB hd (fun z => ⟨ρ, S', R, sr.go g, so.go g, z, fun b S2 H2 g2 q => k b S2 H2 (g.trans g2) q⟩) fun z => k false S' H' g z
theorem pdw_or {t u : RT} (ha : PDT X y a t) (hb : PDW X y (.BoolOp .Or (b :: rest) pos) u) : PDW X y (.BoolOp .Or (a :: b :: rest) pos) (rOr t u) := by
  refine PDW.of (pw_or ha hb) fun σ H Q h => ?_
  obtain ⟨ρ, S, R, sr, so, h, k⟩ := h
  refine ⟨ρ, S, _, sr, so, h, fun c S' H' g hd => ?_⟩
  exact ite_of_IFB hd (fun z => k true S' H' g z) fun z => ⟨ρ, S', R, sr.go g, so.go g, z, fun b S2 H2 g2 q => k b S2 H2 (g.trans g2) q⟩
theorem PDW.pt {e : Expr} {t : RT} (h : PDW X y e t) : PDT X y e t := PW.pt h
theorem pdt_not {t : RT} (ha : PDT X y a t) : PDT X y (.UnaryOp .Not a pos) (rNot t) := by
  refine PDT.of (pt_not ha) fun σ H Q h => ?_
  obtain ⟨ρ, S, R, sr, so, h, k⟩ := h
  exact ⟨ρ, S, _, sr, so, h, fun c S' H' g hd => k _ S' H' g hd⟩
def rAndV (t u : RE) : RE := fun ρ S Q => t ρ S fun d S1 => dBl d fun c => IFB c (u ρ S1 Q) (Q (.bl false) S1)
def rOrV (t u : RE) : RE := fun ρ S Q => t ρ S fun d S1 => dBl d fun c => IFB c (Q (.bl true) S1) (u ρ S1 Q)
def rNotV (t : RE) : RE := fun ρ S Q => t ρ S fun d S1 => dBl d fun c => Q (.bl (!c)) S1
theorem pd_one {op : BoolOp} {t : RE} (h : PD X y a t) : PD X y (.BoolOp op [a] pos) t := pe_one h
theorem pd_and {t u : RE} (ha : PD X y a t) (hb : PD X y (.BoolOp .And (b :: rest) pos) u) : PD X y (.BoolOp .And (a :: b :: rest) pos) (rAndV t u) := by
  refine PD.of (pe_and ha hb) fun σ H Q h => ?_
  obtain ⟨ρ, S, R, sr, so, h, k⟩ := h
  refine ⟨ρ, S, _, sr, so, h, fun d S' v H' g dv hd => ?_⟩
  cases d with
  | bl c =>
    refine ⟨c, dv, ite_of_IFB hd (fun z => ⟨ρ, S', R, sr.go g, so.go g, z, fun d S2 v H2 g2 dv q => k d S2 v H2 (g.trans g2) dv q⟩) fun z => k (.bl false) S' _ H' g rfl z⟩
  | _ => exact False.elim hd
theorem pd_or {t u : RE} (ha : PD X y a t) (hb : PD X y (.BoolOp .Or (b :: rest) pos) u) : PD X y (.BoolOp .Or (a :: b :: rest) pos) (rOrV t u) := by
  refine PD.of (pe_or ha hb) fun σ H Q h => ?_
  obtain ⟨ρ, S, R, sr, so, h, k⟩ := h
  refine ⟨ρ, S, _, sr, so, h, fun d S' v H' g dv hd => ?_⟩
  cases d with
  | bl c =>
    refine ⟨c, dv, ite_of_IFB hd (fun z => k (.bl true) S' _ H' g rfl z) fun z => ⟨ρ, S', R, sr.go g, so.go g, z, fun d S2 v H2 g2 dv q => k d S2 v H2 (g.trans g2) dv q⟩⟩
  | _ => exact False.elim hd
theorem pd_not {t : RE} (ha : PD X y a t) : PD X y (.UnaryOp .Not a pos) (rNotV t) := by
  refine PD.of (pe_not ha) fun σ H Q h => ?_
  obtain ⟨ρ, S, R, sr, so, h, k⟩ := h
  refine ⟨ρ, S, _, sr, so, h, fun d S' v H' g dv hd => ?_⟩
  cases d with
  | bl c => exact ⟨c, dv, k (.bl (!c)) S' _ H' g rfl hd⟩
  | _ => exact False.elim hd
def rIf (t : RT) (u w : RE) : RE := fun ρ S Q => t ρ S fun c S1 => IFB c (u ρ S1 Q) (w ρ S1 Q)
theorem pd_if {c : Expr} {t : RT} {u w : RE} (hc : PDT X y c t) (ha : PD X y a u) (hb : PD X y b w) : PD X y (.IfExp c a b pos) (rIf t u w) := by
  refine PD.of (pe_ifExp hc ha hb) fun σ H Q h => ?_
  obtain ⟨ρ, S, R, sr, so, h, k⟩ := h
  refine ⟨ρ, S, _, sr, so, h, fun c S' H' g hd => ?_⟩
  exact ite_of_IFB hd (fun z => ⟨ρ, S', R, sr.go g, so.go g, z, fun d S2 v H2 g2 dv q => k d S2 v H2 (g.trans g2) dv q⟩) fun z => ⟨ρ, S', R, sr.go g, so.go g, z, fun d S2 v H2 g2 dv q => k d S2 v H2 (g.trans g2) dv q⟩

/-! ### arguments, displays -/
def rNil : RA := fun _ S Q => Q [] S
def rCons (t : RE) (u : RA) : RA := fun ρ S Q => t ρ S fun d S1 => u ρ S1 fun ds S2 => Q (d :: ds) S2
variable {e : Expr} {es : List Expr}
theorem pda_nil : PDA X y [] rNil := PDA.of pa_nil fun σ H Q h => by
  obtain ⟨ρ, S, R, sr, so, h, k⟩ := h
  exact k [] S [] H (Go.refl so.so) DVs.nil rfl h
theorem pda_cons {t : RE} {u : RA} (he : PD X y e t) (hr : PDA X y es u) (hs : starEach (e :: es) X.env = (false, eval e X.env) :: starEach es X.env := by rfl) : PDA X y (e :: es) (rCons t u) := by
  refine PDA.of (pa_cons he hr hs) fun σ H Q h => ?_
  obtain ⟨ρ, S, R, sr, so, h, k⟩ := h
  refine ⟨ρ, S, _, sr, so, h, fun d S1 v H1 g1 dv h1 => ⟨ρ, S1, _, sr.go g1, so.go g1, h1, fun ds S2 vs H2 g2 dvs hn h2 => ?_⟩⟩
  exact k _ S2 _ H2 (g1.trans g2) (DVs.cons (DV.go g2 _ _ dv) dvs) (by rw [List.length_cons, List.length_cons, hn]) h2
def rTup (t : RA) : RE := fun ρ S Q => t ρ S fun ds S1 => Q (.tup ds) S1
def rLst (t : RA) : RE := fun ρ S Q => t ρ S fun ds S1 => ∀ p, S1 p = none → Q (.ref p) (sup S1 p (.lst ds))
theorem pd_tup {t : RA} {k : Nat} (h : PDA X y es t) (hl : es.length ≤ sizeLine := by decide) : PD X y (.Tuple es k pos) (rTup t) := by
  refine PD.of (pe_tup h) fun σ H Q h => ?_
  obtain ⟨ρ, S, R, sr, so, h, k⟩ := h
  refine ⟨ρ, S, _, sr, so, h, fun ds S1 vs H1 g1 dvs hn h1 => ⟨by rw [← dvs.length, hn]; exact hl, fun p hp => ?_⟩⟩
  have g2 := Go.new (o := .tup vs) g1.ok hp
  exact k (.tup ds) S1 _ _ (g1.trans g2) ⟨p, vs, rfl, .inl upd_same, DVs.go g2 _ _ dvs⟩ h1
theorem pd_lst {t : RA} (h : PDA X y es t) (hl : es.length ≤ sizeLine := by decide) : PD X y (.List es pos) (rLst t) := by
  refine PD.of (pe_lst h) fun σ H Q h => ?_
  obtain ⟨ρ, S, R, sr, so, h, k⟩ := h
  refine ⟨ρ, S, _, sr, so, h, fun ds S1 vs H1 g1 dvs hn h1 => ⟨by rw [← dvs.length, hn]; exact hl, fun p hp => ?_⟩⟩
  have g2 := Go.newLst g1.ok hp dvs
  exact k (.ref p) _ _ _ (g1.trans g2) rfl (h1 p (g1.ok.free hp))
end
end DL
set_option Elab.async false
set_option linter.all false
set_option maxRecDepth 100000
set_option maxHeartbeats 4000000
namespace DL
open PySem PySem.Spec PyProof.Rows L2

/-! ### statements -/
structure DEnds where
  nx : Ro → Sto → Prop
  rt : D → Sto → Prop
  bk : Ro → Sto → Prop := fun _ _ => False
  ct : Ro → Sto → Prop := fun _ _ => False
abbrev RS := DEnds → Ro → Sto → Prop
structure EOk (K : PySem.W.Frag) (H : Hp) (S : Sto) (E : DEnds) (D : Ends) : Prop where
  nx : ∀ ρ S' σ H', Go K H S H' S' → SRv K σ H' ρ → E.nx ρ S' → D.nx σ H'
  rt : ∀ d S' v H', Go K H S H' S' → DV K H' d v → E.rt d S' → D.rt v H'
  bk : ∀ ρ S' σ H', Go K H S H' S' → SRv K σ H' ρ → E.bk ρ S' → D.bk σ H'
  ct : ∀ ρ S' σ H', Go K H S H' S' → SRv K σ H' ρ → E.ct ρ S' → D.ct σ H'
theorem EOk.go {K : PySem.W.Frag} {H H1 : Hp} {S S1 : Sto} {E : DEnds} {D : Ends} (h : EOk K H S E D) (g : Go K H S H1 S1) : EOk K H1 S1 E D :=
  ⟨fun ρ S' σ H' g' => h.nx ρ S' σ H' (g.trans g'), fun d S' v H' g' => h.rt d S' v H' (g.trans g'), fun ρ S' σ H' g' => h.bk ρ S' σ H' (g.trans g'), fun ρ S' σ H' g' => h.ct ρ S' σ H' (g.trans g')⟩
def lS (K : PySem.W.Frag) (y : DXw) (t : RS) : TS := fun D σ H => ∃ ρ S E, SRv K σ H ρ ∧ SX K y H S ∧ t E ρ S ∧ EOk K H S E D
def PDS (X : Cx) (y : DXw) (st : Stmt) (t : RS) : Prop := PS X st (lS X.K y t)
def PDSs (X : Cx) (y : DXw) (st : List Stmt) (t : RS) : Prop := PSs X st (lS X.K y t)
section
variable {X : Cx} {y : DXw} {st : Stmt} {rest : List Stmt} {t u : RS} {e : Expr} {te : RE} {pos : Pos}
theorem PDS.of {t0 : TS} (h : PS X st t0) (w : ∀ D σ H, lS X.K y t D σ H → t0 D σ H) : PDS X y st t := ⟨fun pins s σ H D I q => h.run pins s σ H D I (w D σ H q)⟩
theorem PDSs.of {sts : List Stmt} {t0 : TS} (h : PSs X sts t0) (w : ∀ D σ H, lS X.K y t D σ H → t0 D σ H) : PDSs X y sts t := ⟨fun pins s σ H D I q => h.run pins s σ H D I (w D σ H q)⟩
def rNext : RS := fun E ρ S => E.nx ρ S
def rSeq (t u : RS) : RS := fun E ρ S => t { E with nx := u E } ρ S
def rBreak : RS := fun E ρ S => E.bk ρ S
def rCont : RS := fun E ρ S => E.ct ρ S
def rNever : RS := fun _ _ _ => False
theorem pds_nil : PDSs X y [] rNext := PDSs.of pss_nil fun D σ H h => by
  obtain ⟨ρ, S, E, sr, so, h, eo⟩ := h
  exact eo.nx ρ S σ H (Go.refl so.so) sr h
theorem pds_one (h : PDS X y st t) : PDSs X y [st] t := pss_one h
theorem pds_cons (h1 : PDS X y st t) (h2 : PDSs X y rest u) : PDSs X y (st :: rest) (rSeq t u) := PDSs.of (pss_cons h1 h2) fun D σ H h => by
  obtain ⟨ρ, S, E, sr, so, h, eo⟩ := h
  exact ⟨ρ, S, { E with nx := u E }, sr, so, h, ⟨fun ρ' S' σ' H' g sr' q => ⟨ρ', S', E, sr', so.go g, q, eo.go g⟩, eo.rt, eo.bk, eo.ct⟩⟩
theorem pd_pass : PDS X y (.Pass pos) rNext := PDS.of ps_pass fun D σ H h => by
  obtain ⟨ρ, S, E, sr, so, h, eo⟩ := h
  exact eo.nx ρ S σ H (Go.refl so.so) sr h
theorem pd_break : PDS X y (.Break pos) rBreak := PDS.of ps_break fun D σ H h => by
  obtain ⟨ρ, S, E, sr, so, h, eo⟩ := h
  exact eo.bk ρ S σ H (Go.refl so.so) sr h
theorem pd_cont : PDS X y (.Continue pos) rCont := PDS.of ps_continue fun D σ H h => by
  obtain ⟨ρ, S, E, sr, so, h, eo⟩ := h
  exact eo.ct ρ S σ H (Go.refl so.so) sr h
theorem pd_never : PDS X y st rNever := PDS.of ps_never fun D σ H h => by
  obtain ⟨ρ, S, E, sr, so, h, eo⟩ := h
  exact h
theorem pds_never {sts : List Stmt} : PDSs X y sts rNever := PDSs.of pss_never fun D σ H h => by
  obtain ⟨ρ, S, E, sr, so, h, eo⟩ := h
  exact h
def rDrop (te : RE) : RS := fun E ρ S => te ρ S fun _ S1 => E.nx ρ S1
theorem pd_expr (he : PD X y e te) (hs : swapsWith e none pos.line X.env = pure false := by rfl) : PDS X y (.Expr e pos) (rDrop te) := PDS.of (ps_expr he hs) fun D σ H h => by
  obtain ⟨ρ, S, E, sr, so, h, eo⟩ := h
  exact ⟨ρ, S, _, sr, so, h, fun d S' v H' g dv q => eo.nx ρ S' σ H' g (sr.go g) q⟩
def rRet (te : RE) : RS := fun E ρ S => te ρ S E.rt
theorem pd_ret (he : PD X y e te) : PDS X y (.Return (some e) pos) (rRet te) := PDS.of (ps_ret he) fun D σ H h => by
  obtain ⟨ρ, S, E, sr, so, h, eo⟩ := h
  exact ⟨ρ, S, _, sr, so, h, fun d S' v H' g dv q => eo.rt d S' v H' g dv q⟩
def rRetN : RS := fun E _ S => E.rt .non S
theorem pd_retN : PDS X y (.Return none pos) rRetN := PDS.of ps_retN fun D σ H h => by
  obtain ⟨ρ, S, E, sr, so, h, eo⟩ := h
  exact eo.rt .non S .non H (Go.refl so.so) rfl h
def rIfS (c : RT) (t u : RS) : RS := fun E ρ S => c ρ S fun b S1 => IFB b (t E ρ S1) (u E ρ S1)
theorem pd_ifS {c : Expr} {a b : List Stmt} {tc : RT} (hc : PDT X y c tc) (ha : PDSs X y a t) (hb : PDSs X y b u) : PDS X y (.If c a b pos) (rIfS tc t u) := PDS.of (ps_if hc ha hb) fun D σ H h => by
  obtain ⟨ρ, S, E, sr, so, h, eo⟩ := h
  refine ⟨ρ, S, _, sr, so, h, fun b S' H' g q => ?_⟩
  exact ite_of_IFB q (fun z => ⟨ρ, S', E, sr.go g, so.go g, z, eo.go g⟩) fun z => ⟨ρ, S', E, sr.go g, so.go g, z, eo.go g⟩

/-! ### targets -/
abbrev RG := D → Ro → Sto → (Ro → Sto → Prop) → Prop
abbrev RGs := List D → Ro → Sto → (Ro → Sto → Prop) → Prop
def lG (K : PySem.W.Frag) (y : DXw) (t : RG) : TG := fun v σ H Q => ∃ d ρ S R, DV K H d v ∧ SRv K σ H ρ ∧ SX K y H S ∧ t d ρ S R ∧ ∀ ρ' S' σ' H', Go K H S H' S' → SRv K σ' H' ρ' → R ρ' S' → Q σ' H'
def lGs (K : PySem.W.Frag) (y : DXw) (t : RGs) : TGs := fun vs σ H Q => ∃ ds ρ S R, DVs K H ds vs ∧ SRv K σ H ρ ∧ SX K y H S ∧ t ds ρ S R ∧ ∀ ρ' S' σ' H', Go K H S H' S' → SRv K σ' H' ρ' → R ρ' S' → Q σ' H'
def PDG (X : Cx) (y : DXw) (tg : Expr) (t : RG) : Prop := PG X tg (lG X.K y t)
def PDGs (X : Cx) (y : DXw) (ts : List Expr) (t : RGs) : Prop := PGs X ts (lGs X.K y t)
theorem PDG.of {tg : Expr} {t0 : TG} {t : RG} (h : PG X tg t0) (w : ∀ v σ H Q, lG X.K y t v σ H Q → t0 v σ H Q) : PDG X y tg t := ⟨fun pins s σ H v u Q I r q => h.run pins s σ H v u Q I r (w v σ H Q q)⟩
theorem PDGs.of {ts : List Expr} {t0 : TGs} {t : RGs} (h : PGs X ts t0) (w : ∀ v σ H Q, lGs X.K y t v σ H Q → t0 v σ H Q) : PDGs X y ts t := ⟨fun pins s σ H v u Q I r q => h.run pins s σ H v u Q I r (w v σ H Q q)⟩
def gN (i : Nat) : RG := fun d ρ S Q => Q (ρ.set i (some d)) S
theorem pdg_name (i : Nat) {x : Str} (hN : X.N.Nodup) (hi : X.N[i]? = some x := by rfl) (hx : Loc X.env.scope x := by first | exact Or.inl rfl | exact Or.inr rfl) (hf : X.fn x = true ∨ X.env.scope.names.lookup x = some .local := by first | exact .inl rfl | exact .inr rfl) : PDG X y (.Name x pos) (gN i) :=
  PDG.of (pg_name hN hi hx hf) fun v σ H Q h => by
    obtain ⟨d, ρ, S, R, dv, sr, so, h, k⟩ := h
    exact k _ S _ H (Go.refl so.so) (sr.set dv i) h
def gNl : RGs := fun ds ρ S Q => match ds with
  | [] => Q ρ S
  | _ => False
def gCs (t : RG) (u : RGs) : RGs := fun ds ρ S Q => match ds with
  | d :: r => t d ρ S fun ρ' S' => u r ρ' S' Q
  | [] => False
theorem pdgs_nil : PDGs X y [] gNl := PDGs.of pgs_nil fun vs σ H Q h => by
  obtain ⟨ds, ρ, S, R, dv, sr, so, h, k⟩ := h
  cases ds with
  | nil => exact ⟨dv, k ρ S σ H (Go.refl so.so) sr h⟩
  | cons d r => exact h.elim
theorem pdgs_cons {es : List Expr} {t : RG} {u : RGs} (h1 : PDG X y e t) (h2 : PDGs X y es u) (hs : (assignEach (e :: es) X.env).map (·.2) = assign e X.env :: (assignEach es X.env).map (·.2) := by rfl) : PDGs X y (e :: es) (gCs t u) := PDGs.of (pgs_cons h1 h2 hs) fun vs σ H Q h => by
  obtain ⟨ds, ρ, S, R, dv, sr, so, h, k⟩ := h
  cases ds with
  | nil => exact h.elim
  | cons d r =>
    obtain ⟨v, ws, rfl, dv1, dv2⟩ := dv
    exact ⟨v, ws, rfl, d, ρ, S, _, dv1, sr, so, h, fun ρ1 S1 σ1 H1 g1 sr1 h1 => ⟨r, ρ1, S1, R, DVs.go g1 _ _ dv2, sr1, so.go g1, h1, fun ρ2 S2 σ2 H2 g2 sr2 h2 => k ρ2 S2 σ2 H2 (g1.trans g2) sr2 h2⟩⟩
def gTp (n : Nat) (t : RGs) : RG := fun d ρ S Q => match d with
  | .tup xs => xs.length = n ∧ t xs ρ S Q
  | _ => False
theorem pdg_tup {es : List Expr} {k : Nat} {t : RGs} {n : Nat} (hc : X.calm = true) (h : PDGs X y es t) (hn : (assignEach es X.env).length = n := by rfl) (hst : (assignEach es X.env).findIdx? (·.1) = none := by rfl) : PDG X y (.Tuple es k pos) (gTp n t) :=
  PDG.of (pg_tup hc h hn hst) fun v σ H Q h => by
    obtain ⟨d, ρ, S, R, dv, sr, so, h, k⟩ := h
    cases d with
    | tup xs =>
      obtain ⟨a, vs, rfl, q, r⟩ := dv
      exact ⟨a, vs, rfl, q.sq, r.length.symm.trans h.1, xs, ρ, S, R, r, sr, so, h.2, k⟩
    | _ => exact False.elim h
/-- o[i] = d, by values -/
abbrev RSet := D → D → D → Sto → (Sto → Prop) → Prop
def lset (K : PySem.W.Frag) (p : RSet) : TSet := fun o i v H Q => ∃ x k d S R, DV K H x o ∧ DV K H k i ∧ DV K H d v ∧ SOk K H S ∧ p x k d S R ∧ ∀ S' H', Go K H S H' S' → R S' → Q H'
def gSb (to ti : RE) (p : RSet) : RG := fun d ρ S Q => to ρ S fun o S1 => ti ρ S1 fun i S2 => p o i d S2 fun S3 => Q ρ S3
theorem pdg_sub {o i : Expr} {to ti : RE} {p : RSet} (hs : PSet X (lset X.K p)) (ho : PD X y o to) (hi : PD X y i ti)
    (ha : ∀ v, assign (.Subscript o i pos) X.env v = (do
      let ov ← holding [v] (eval o X.env)
      let iv ← holding [v, ov] (eval i X.env)
      standAt pos
      holding [v, ov, iv] (setItem ov iv v)
      release [v, ov, iv] []) := by intro _; rfl) : PDG X y (.Subscript o i pos) (gSb to ti p) := PDG.of (pg_sub ho hi hs ha) fun v σ H Q h => by
  obtain ⟨d, ρ, S, R, dv, sr, so, h, k⟩ := h
  refine ⟨ρ, S, _, sr, so, h, fun x S1 v1 H1 g1 dv1 h1 => ⟨ρ, S1, _, sr.go g1, so.go g1, h1, fun i S2 v2 H2 g2 dv2 h2 => ?_⟩⟩
  exact ⟨x, i, d, S2, _, DV.go g2 _ _ dv1, dv2, DV.go (g1.trans g2) _ _ dv, g2.ok, h2, fun S3 H3 g3 h3 => k ρ S3 σ H3 (g1.trans (g2.trans g3)) (sr.go (g1.trans (g2.trans g3))) h3⟩
def rAsg (te : RE) (g : RG) : RS := fun E ρ S => te ρ S fun d S1 => g d ρ S1 E.nx
theorem asg_of {te : RE} {g : RG} {D : Ends} {σ : L2.St} {H : Hp} (h : lS X.K y (rAsg te g) D σ H) : tAsg (lE X.K y te) (lG X.K y g) D σ H := by
  obtain ⟨ρ, S, E, sr, so, h, eo⟩ := h
  exact ⟨ρ, S, _, sr, so, h, fun d S1 v H1 g1 dv h1 => ⟨d, ρ, S1, _, dv, sr.go g1, so.go g1, h1, fun ρ2 S2 σ2 H2 g2 sr2 h2 => eo.nx ρ2 S2 σ2 H2 (g1.trans g2) sr2 h2⟩⟩
theorem pd_asg {tg : Expr} {g : RG} (he : PD X y e te) (hg : PDG X y tg g) (hs : swapsWithSole [tg] e pos.line X.env = pure false := by rfl) (hw : swappedStores [tg] e X.env = pure none := by rfl)
    (h1 : (assignEach [tg] X.env).map (·.2) = [assign tg X.env] := by rfl) : PDS X y (.Assign [tg] e pos) (rAsg te g) := PDS.of (ps_asg he hg hs hw h1) fun D σ H h => asg_of h
theorem pd_set (i : Nat) {x : Str} {pos' : Pos} (hN : X.N.Nodup) (he : PD X y e te) (hi : X.N[i]? = some x := by rfl) (hx : Loc X.env.scope x := by first | exact Or.inl rfl | exact Or.inr rfl) (hs : swapsWith e (some (.Name x pos')) pos.line X.env = pure false := by rfl) (hf : X.fn x = true ∨ X.env.scope.names.lookup x = some .local := by first | exact .inl rfl | exact .inr rfl) :
    PDS X y (.Assign [.Name x pos'] e pos) (rAsg te (gN i)) := PDS.of (ps_set hN hi hx he hs hf) fun D σ H h => by
  obtain ⟨ρ, S, E, sr, so, h, eo⟩ := h
  exact ⟨ρ, S, _, sr, so, h, fun d S1 v H1 g1 dv h1 => eo.nx _ S1 _ H1 g1 ((sr.go g1).set dv i) h1⟩
/-- a, b = x, y with plain local names -/
def rPar (i j : Nat) (ta : RA) : RS := fun E ρ S => ta ρ S fun ds S1 => match ds with
  | [d, e] => E.nx ((ρ.set i (some d)).set j (some e)) S1
  | _ => False
theorem pd_par (i j : Nat) {x z : Str} {a b : Expr} {ta : RA} {px py pt : Pos} {kt k2 pt2} (hc : X.calm = true) (hN : X.N.Nodup) (ha : PDA X y [a, b] ta)
    (hw : swappedStores [.Tuple [.Name x px, .Name z py] kt pt] (.Tuple [a, b] k2 pt2) X.env = pure (some [x, z]))
    (hi : X.N[i]? = some x := by rfl) (hj : X.N[j]? = some z := by rfl) (hij : i ≠ j := by decide)
    (hx : X.env.scope.names.lookup x = some .local := by rfl) (hy : X.env.scope.names.lookup z = some .local := by rfl)
    (hs : swapsWithSole [.Tuple [.Name x px, .Name z py] kt pt] (.Tuple [a, b] k2 pt2) pos.line X.env = pure false := by rfl) :
    PDS X y (.Assign [.Tuple [.Name x px, .Name z py] kt pt] (.Tuple [a, b] k2 pt2) pos) (rPar i j ta) := PDS.of (ps_par hc hN hi hj hij hx hy ha hw hs) fun D σ H h => by
  obtain ⟨ρ, S, E, sr, so, h, eo⟩ := h
  refine ⟨ρ, S, _, sr, so, h, fun ds S1 vs H1 g1 dvs hn h1 => ?_⟩
  match ds, dvs, h1 with
  | [d, e], dvs, h1 =>
    obtain ⟨v, ws, rfl, dv1, v2, ws2, rfl, dv2, q⟩ := dvs
    cases (show ws2 = [] from q)
    exact ⟨v, v2, rfl, eo.nx _ S1 _ H1 g1 (((sr.go g1).set dv1 i).set dv2 j) h1⟩
  | [], _, h1 => exact h1.elim
  | [_], _, h1 => exact h1.elim
  | _ :: _ :: _ :: _, _, h1 => exact h1.elim

/-! ### while, for -/
def rWhile (c : RT) (tb : RS) : RS := fun E ρ S => ∃ W : Nat → Ro → Sto → Prop, (∃ m, W m ρ S) ∧ ∀ m ρ S, W m ρ S →
  c ρ S fun b S1 => IFB b (tb { E with nx := fun ρ' S' => ∃ m', m' < m ∧ W m' ρ' S', ct := fun ρ' S' => ∃ m', m' < m ∧ W m' ρ' S', bk := E.nx } ρ S1) (E.nx ρ S1)
theorem pd_while {c : Expr} {body : List Stmt} {tc : RT} {tb : RS} (hp : PassesOwn (model X.prog X.w) X.A X.env X.xe) (hc : PDT X y c tc) (hb : PDSs X y body tb) : PDS X y (.While c body [] pos) (rWhile tc tb) := PDS.of (ps_while hp hc hb) fun D σ H h => by
  obtain ⟨ρ, S, E, sr, so, ⟨W, ⟨m, hW⟩, hs⟩, eo⟩ := h
  refine ⟨fun m σ1 H1 => ∃ ρ1 S1, Go X.K H S H1 S1 ∧ SRv X.K σ1 H1 ρ1 ∧ W m ρ1 S1, ⟨m, ρ, S, Go.refl so.so, sr, hW⟩, ?_⟩
  rintro m σ1 H1 ⟨ρ1, S1, g1, sr1, w1⟩
  refine ⟨ρ1, S1, _, sr1, so.go g1, hs m ρ1 S1 w1, fun b S2 H2 g2 q => ?_⟩
  refine ite_of_IFB q (fun z => ⟨fun σ3 H3 => ∃ m', m' < m ∧ ∃ ρ3 S3, Go X.K H S H3 S3 ∧ SRv X.K σ3 H3 ρ3 ∧ W m' ρ3 S3, fun σ3 H3 h => h, ρ1, S2, _, sr1.go g2, so.go (g1.trans g2), z, ?_⟩) fun z => eo.nx ρ1 S2 σ1 H2 (g1.trans g2) (sr1.go g2) z
  have eo2 := eo.go (g1.trans g2)
  refine ⟨fun ρ3 S3 σ3 H3 g3 sr3 ⟨m', hm, w⟩ => ⟨m', hm, ρ3, S3, (g1.trans g2).trans g3, sr3, w⟩, eo2.rt, eo2.nx, fun ρ3 S3 σ3 H3 g3 sr3 ⟨m', hm, w⟩ => ⟨m', hm, ρ3, S3, (g1.trans g2).trans g3, sr3, w⟩⟩
/-- what is walked: its items; while src stands it goes on so -/
abbrev RI := Ro → Sto → (List D → (Sto → Prop) → Sto → Prop) → Prop
def JOk (K : PySem.W.Frag) (H1 : Hp) (S1 : Sto) (J : It) (xs : List D) (src : Sto → Prop) : Prop :=
  ∀ i H S, Go K H1 S1 H S → src S → (∀ x, xs[i]? = some x → J.go i H ∧ ∀ v H', J.yld i H v H' → Go K H S H' S ∧ DV K H' x v) ∧ (xs[i]? = none → J.stop i H)
def lI (K : PySem.W.Frag) (y : DXw) (wi : RI) : TI := fun σ H R => ∃ ρ S Rd, SRv K σ H ρ ∧ SX K y H S ∧ wi ρ S Rd ∧ ∀ xs src S1 J H1, Go K H S H1 S1 → JOk K H1 S1 J xs src → Rd xs src S1 → R J H1
def PDI (X : Cx) (y : DXw) (tg iter : Expr) (wi : RI) : Prop := PI X tg iter (lI X.K y wi)
theorem PDI.of {tg iter : Expr} {t0 : TI} {t : RI} (h : PI X tg iter t0) (w : ∀ σ H R, lI X.K y t σ H R → t0 σ H R) : PDI X y tg iter t := ⟨fun pins s σ H R I q => h.run pins s σ H R I (w σ H R q)⟩
/-- the turns: W says what holds ahead of turn i -/
def rFor (wi : RI) (g : RG) (tb : RS) : RS := fun E ρ S => wi ρ S fun xs src S1 => ∃ W : Nat → Ro → Sto → Prop, W 0 ρ S1 ∧ ∀ i ρ' S', W i ρ' S' → src S' ∧
  (∀ x, xs[i]? = some x → g x ρ' S' fun ρ2 S2 => tb { E with nx := W (i + 1), ct := W (i + 1), bk := E.nx } ρ2 S2) ∧ (i = xs.length → E.nx ρ' S')
theorem pd_for {tg iter : Expr} {body : List Stmt} {wi : RI} {g : RG} {tb : RS} (hp : PassesOwn (model X.prog X.w) X.A X.env X.xe) (hc : X.calm = true) (hi : PDI X y tg iter wi) (hg : PDG X y tg g) (hb : PDSs X y body tb) (hs : ∀ x, foldedSetIterable iter X.env x = pure x := by intro _; rfl) : PDS X y (.For tg iter body [] pos) (rFor wi g tb) :=
  PDS.of (ps_for hp hc hi hg hb hs) fun D σ H h => by
  obtain ⟨ρ, S, E, sr, so, h, eo⟩ := h
  refine ⟨ρ, S, _, sr, so, h, fun xs src S1 J H1 g1 jo ⟨W, w0, hs⟩ => ?_⟩
  refine ⟨fun i m σ2 H2 => ∃ ρ2 S2, m = xs.length - i ∧ i ≤ xs.length ∧ Go X.K H1 S1 H2 S2 ∧ SRv X.K σ2 H2 ρ2 ∧ W i ρ2 S2, ⟨_, ρ, S1, rfl, Nat.zero_le _, Go.refl g1.ok, sr.go g1, w0⟩, ?_⟩
  rintro i m σ2 H2 ⟨ρ2, S2, rfl, hi, g2, sr2, w2⟩
  obtain ⟨hsrc, hturn, hend⟩ := hs i ρ2 S2 w2
  obtain ⟨j1, j2⟩ := jo i H2 S2 g2 hsrc
  by_cases hlt : i < xs.length
  · have hx : xs[i]? = some xs[i] := List.getElem?_eq_getElem hlt
    obtain ⟨jg, jy⟩ := j1 _ hx
    refine .inr ⟨jg, fun σ3 H3 => ∃ ρ3 S3, Go X.K H1 S1 H3 S3 ∧ SRv X.K σ3 H3 ρ3 ∧ W (i + 1) ρ3 S3, fun σ3 H3 ⟨ρ3, S3, g3, sr3, w3⟩ => ⟨xs.length - (i + 1), by omega, ρ3, S3, rfl, hlt, g3, sr3, w3⟩, fun v H3 hy => ?_⟩
    obtain ⟨g3, dv⟩ := jy v H3 hy
    have gA := g1.trans (g2.trans g3)
    refine ⟨xs[i], ρ2, S2, _, dv, sr2.go g3, so.go gA, hturn _ hx, fun ρ4 S4 σ4 H4 g4 sr4 h4 => ?_⟩
    refine ⟨ρ4, S4, _, sr4, so.go (gA.trans g4), h4, ?_⟩
    have eo2 := eo.go (gA.trans g4)
    have gB := (g2.trans g3).trans g4
    exact ⟨fun ρ5 S5 σ5 H5 g5 sr5 h5 => ⟨ρ5, S5, gB.trans g5, sr5, h5⟩, eo2.rt, eo2.nx, fun ρ5 S5 σ5 H5 g5 sr5 h5 => ⟨ρ5, S5, gB.trans g5, sr5, h5⟩⟩
  · have e : i = xs.length := by omega
    subst e
    exact .inl ⟨j2 (by simp), eo.nx ρ2 S2 σ2 H2 (g1.trans g2) sr2 (hend rfl)⟩

/-! ### what a for or a comprehension walks -/
/-- a list in the store, a list that never changes, a tuple -/
def rIt (t : RE) : RI := fun ρ S R => t ρ S fun d S1 => match d with
  | .tup xs => R xs (fun _ => True) S1
  | _ => ∃ xs, RdL S1 d xs ∧ R xs (fun S' => RdL S' d xs) S1
theorem jok_list {K : PySem.W.Frag} {H1 : Hp} {S1 : Sto} {d : D} {v : V} {a : Addr} {xs : List D} (dv : DV K H1 d v) (e : v = .ref a) : JOk K H1 S1 (Itl K a) xs (fun S' => RdL S' d xs) := by
  intro i H S g hr
  obtain ⟨a', vs, e1, q, r⟩ := RdL.sq g.ok hr (DV.go g _ _ dv)
  rw [e] at e1
  cases e1
  refine ⟨fun x hx => ?_, fun hn => ⟨vs, q, ?_⟩⟩
  · obtain ⟨w, hw, rw'⟩ := r.get hx
    exact ⟨⟨vs, w, q, hw⟩, fun v' H' hy => by
      obtain ⟨rfl, hy⟩ := hy
      have := hy vs q
      rw [hw] at this
      cases this
      exact ⟨Go.refl g.ok, rw'⟩⟩
  · rw [← r.length]
    exact List.getElem?_eq_none_iff.mp hn
theorem jok_tup {K : PySem.W.Frag} {H1 : Hp} {S1 : Sto} {a : Addr} {xs : List D} {vs : List V} (q : StT K H1 a vs) (r : DVs K H1 xs vs) : JOk K H1 S1 (Itt K a) xs (fun _ => True) := by
  intro i H S g _
  have q := g.tup q
  have r := DVs.go g _ _ r
  refine ⟨fun x hx => ?_, fun hn => ⟨vs, q.sq, ?_⟩⟩
  · obtain ⟨w, hw, rw'⟩ := r.get hx
    exact ⟨⟨vs, w, q.sq, hw⟩, fun v' H' hy => by
      obtain ⟨rfl, hy⟩ := hy
      have := hy vs q.sq
      rw [hw] at this
      cases this
      exact ⟨Go.refl g.ok, rw'⟩⟩
  · rw [← r.length]
    exact List.getElem?_eq_none_iff.mp hn
end
end DL
set_option Elab.async false
set_option linter.all false
set_option maxRecDepth 100000
set_option maxHeartbeats 4000000
namespace DL
open PySem PySem.Spec PyProof.Rows L2
section
variable {X : Cx} {y : DXw} {pos : Pos} {e : Expr} {es : List Expr}

/-! ### walks -/
theorem it_list {pins : List (Addr × Obj)} {σ : L2.St} {H : Hp} {s : Shared} {tg : Expr} {R : It → Hp → Prop} {E : Value → Shared → Prop} {a : Addr} {vs : List V} (I : Inv X pins σ H s) (hq : SqL X.K H a vs) (q : R (Itl X.K a) H) :
    wpAny (model X.prog X.w) X.A (pyIter (.ref a)) (PIE X pins σ tg R) E s := by
  obtain ⟨its, rv, p, hz⟩ := I.list hq
  refine wpAny_pyIter_list p.isList ?_
  refine ⟨s.heap.objs.size, [s.heap.objs.size], _, _, H, rfl, I.kept (t' := s.toks) fun b o e => Heap.get?_push_of_some _ e, turn_list a _, ⟨_, Heap.get?_push_size _ rfl, rfl, rfl⟩, fun b hb => ?_, q⟩
  have e : b = s.heap.objs.size := by simpa using hb
  subst e
  exact I.fpOk (Nat.le_refl _) (I.hok.fresh (Nat.le_refl _))
theorem it_tup {pins : List (Addr × Obj)} {σ : L2.St} {H : Hp} {s : Shared} {tg : Expr} {R : It → Hp → Prop} {E : Value → Shared → Prop} {a : Addr} {vs : List V} (I : Inv X pins σ H s) (hq : SqT X.K H a vs) (q : R (Itt X.K a) H) :
    wpAny (model X.prog X.w) X.A (pyIter (.ref a)) (PIE X pins σ tg R) E s := by
  obtain ⟨its, rv, p, hz⟩ := I.tuple hq
  refine wpAny_pyIter_tuple (show s.heap.IsTuple a its.toArray from p) ?_
  refine ⟨s.heap.objs.size, [s.heap.objs.size], _, _, H, rfl, I.kept (t' := s.toks) fun b o e => Heap.get?_push_of_some _ e, turn_tuple a _, ⟨_, Heap.get?_push_size _ rfl, rfl, rfl⟩, fun b hb => ?_, q⟩
  have e : b = s.heap.objs.size := by simpa using hb
  subst e
  exact I.fpOk (Nat.le_refl _) (I.hok.fresh (Nat.le_refl _))
theorem pdi_it {tg l : Expr} {t : RE} (hl : PD X y l t) : PDI X y tg l (rIt t) := by
  refine ⟨fun pins s σ H R I h => ?_⟩
  obtain ⟨ρ, S, Rd, sr, so, h, k⟩ := h
  refine thn (hl.run pins s σ H (fun v H1 => ∃ d S1, Go X.K H S H1 S1 ∧ DV X.K H1 d v ∧ (match d with
    | .tup xs => Rd xs (fun _ => True) S1
    | _ => ∃ xs, RdL S1 d xs ∧ Rd xs (fun S' => RdL S' d xs) S1)) I ⟨ρ, S, _, sr, so, h, fun d S1 v H1 g dv q => ⟨d, S1, g, dv, q⟩⟩) fun u s1 ⟨v, H1, I1, r1, d, S1, g, dv, q⟩ => ?_
  have lst : ∀ xs, RdL S1 d xs → Rd xs (fun S' => RdL S' d xs) S1 → wpAny (model X.prog X.w) X.A (pyIter u) (PIE X pins σ tg R) X.xe s1 := fun xs hx q => by
    obtain ⟨a, vs, rfl, hq, r⟩ := RdL.sq g.ok hx dv
    cases (show u = Value.ref a from r1)
    exact it_list I1 hq (k _ _ _ _ _ g (jok_list dv rfl) q)
  cases d with
  | tup xs =>
    obtain ⟨a, vs, rfl, hq, r⟩ := dv
    cases (show u = Value.ref a from r1)
    exact it_tup I1 hq.sq (k _ _ _ _ _ g (jok_tup hq r) q)
  | _ => obtain ⟨xs, h1, h2⟩ := q; exact lst xs h1 h2
/-- range -/
def rgI (lo : Int) (n : Nat) : List D := (List.range n).map fun (i : Nat) => D.int (lo + (i : Int))
theorem rgI_len {lo : Int} {n : Nat} : (rgI lo n).length = n := by unfold rgI; simp
theorem rgI_get {lo : Int} {n i : Nat} (h : i < n) : (rgI lo n)[i]? = some (D.int (lo + (i : Int))) := by unfold rgI; simp [h]
theorem rgI_inv {lo : Int} {n i : Nat} {x : D} (h : (rgI lo n)[i]? = some x) : i < n ∧ x = D.int (lo + (i : Int)) := by
  have hl := (List.getElem?_eq_some_iff.mp h).1
  rw [rgI_len] at hl
  rw [rgI_get hl] at h
  exact ⟨hl, (Option.some.inj h).symm⟩
theorem jok_range {K : PySem.W.Frag} {H1 : Hp} {S1 : Sto} {lo : Int} {n : Nat} : JOk K H1 S1 (Itr lo n) (rgI lo n) (fun _ => True) := by
  intro i H S g _
  refine ⟨fun x hx => ?_, fun hn => ?_⟩
  · obtain ⟨hl, rfl⟩ := rgI_inv hx
    exact ⟨hl, fun v H' ⟨e1, e2⟩ => by subst e1 e2; exact ⟨Go.refl g.ok, rfl⟩⟩
  · have := List.getElem?_eq_none_iff.mp hn
    rw [rgI_len] at this
    exact this
def rRng1 (ta : RA) : RI := fun ρ S R => ta ρ S fun ds S1 => match ds with
  | [.int j] => (j < 2 ^ 62 ∧ -(2 ^ 62) ≤ j) ∧ R (rgI 0 j.toNat) (fun _ => True) S1
  | _ => False
def rRng2 (ta : RA) : RI := fun ρ S R => ta ρ S fun ds S1 => match ds with
  | [.int i, .int j] => (-(2 ^ 62) ≤ i ∧ i < 2 ^ 62 ∧ -(2 ^ 62) ≤ j ∧ j < 2 ^ 62) ∧ R (rgI i (j - i).toNat) (fun _ => True) S1
  | _ => False
theorem pdi_range1 {tg a : Expr} {ta : RA} {p : Pos} (hm : X.mg "range" = none) (ha : PDA X y [a] ta) (hg : Gl X "range" := by rfl) (hs : starEach [a] X.env = [(false, eval a X.env)] := by rfl) : PDI X y tg (.Call (.Name "range" p) [a] [] pos) (rRng1 ta) := by
  refine PDI.of (pi_range1 hg hm ha hs) fun σ H R h => ?_
  obtain ⟨ρ, S, Rd, sr, so, h, k⟩ := h
  refine ⟨ρ, S, _, sr, so, h, fun ds S1 vs H1 g dvs hn h1 => ?_⟩
  split at h1
  · rename_i j
    obtain ⟨v, ws, rfl, dv, q⟩ := dvs
    cases (show ws = [] from q)
    cases (show v = V.int j from dv)
    exact ⟨j, rfl, h1.1.2, h1.1.1, k _ _ _ _ _ g jok_range h1.2⟩
  · exact h1.elim
theorem pdi_range2 {tg a b : Expr} {ta : RA} {p : Pos} (hm : X.mg "range" = none) (ha : PDA X y [a, b] ta) (hg : Gl X "range" := by rfl) (hs : starEach [a, b] X.env = [(false, eval a X.env), (false, eval b X.env)] := by rfl) (hs2 : starEach [b] X.env = [(false, eval b X.env)] := by rfl) : PDI X y tg (.Call (.Name "range" p) [a, b] [] pos) (rRng2 ta) := by
  refine PDI.of (pi_range2 hg hm ha hs hs2) fun σ H R h => ?_
  obtain ⟨ρ, S, Rd, sr, so, h, k⟩ := h
  refine ⟨ρ, S, _, sr, so, h, fun ds S1 vs H1 g dvs hn h1 => ?_⟩
  split at h1
  · rename_i i j
    obtain ⟨v, ws, rfl, dv, v2, ws2, rfl, dv2, q⟩ := dvs
    cases (show ws2 = [] from q)
    cases (show v = V.int i from dv)
    cases (show v2 = V.int j from dv2)
    exact ⟨i, j, rfl, h1.1, k _ _ _ _ _ g jok_range h1.2⟩
  · exact h1.elim

/-! ### comprehensions -/
def dwipe (ρ : Ro) : List Nat → Ro
  | [] => ρ
  | v :: vs => (dwipe ρ vs).set v none
theorem dwipe_length (ρ : Ro) : ∀ vs : List Nat, (dwipe ρ vs).length = ρ.length
  | [] => rfl
  | v :: vs => by unfold dwipe; rw [List.length_set, dwipe_length ρ vs]
theorem dwipe_some {ρ : Ro} {i : Nat} {x : D} : ∀ {vs : List Nat}, (dwipe ρ vs)[i]? = some (some x) → ρ[i]? = some (some x) ∧ i ∉ vs
  | [], h => ⟨h, by simp⟩
  | v :: vs, h => by
    unfold dwipe at h
    by_cases hi : v = i
    · subst hi
      by_cases hv : v < (dwipe ρ vs).length
      · rw [List.getElem?_set_self hv] at h; cases h
      · rw [List.getElem?_eq_none (by simpa using hv)] at h; cases h
    · rw [List.getElem?_set_ne hi] at h
      obtain ⟨h1, h2⟩ := dwipe_some h
      exact ⟨h1, by simp only [List.mem_cons, not_or]; exact ⟨fun e => hi e.symm, h2⟩⟩
theorem wipe_out' {σ : L2.St} {i : Nat} : ∀ {vs : List Nat}, i ∉ vs → (wipe σ vs)[i]? = σ[i]?
  | [], _ => rfl
  | v :: vs, h => by
    simp only [List.mem_cons, not_or] at h
    unfold wipe
    rw [List.getElem?_set_ne (Ne.symm h.1)]
    exact wipe_out' h.2
theorem SRv.wipe {K : PySem.W.Frag} {σ : L2.St} {H : Hp} {ρ : Ro} (r : SRv K σ H ρ) (vs : List Nat) : SRv K (L2.wipe σ vs) H (dwipe ρ vs) :=
  ⟨by rw [dwipe_length, wipe_length]; exact r.1, fun i d e => by
    obtain ⟨e1, hn⟩ := dwipe_some e
    obtain ⟨v, e2, q⟩ := r.2 i d e1
    exact ⟨v, by rw [wipe_out' hn]; exact e2, q⟩⟩
theorem wipe_set {σ : L2.St} {i : Nat} {o : Option V} : ∀ {vs : List Nat}, i ∈ vs → L2.wipe (σ.set i o) vs = L2.wipe σ vs
  | v :: vs, h => by
    have gen : ∀ (vs : List Nat), L2.wipe (σ.set i o) vs = (if i ∈ vs then L2.wipe σ vs else (L2.wipe σ vs).set i o) := by
      intro vs
      induction vs with
      | nil => simp [L2.wipe]
      | cons w ws ih =>
        unfold L2.wipe
        rw [ih]
        by_cases hw : i ∈ ws
        · rw [if_pos hw, if_pos (List.mem_cons_of_mem _ hw)]
        · rw [if_neg hw]
          by_cases hi : i = w
          · subst hi
            rw [if_pos (by simp), List.set_set]
          · rw [if_neg (by simp [hi, hw]), List.set_comm _ _ hi]
    rw [gen, if_pos h]
/-- a comprehension's targets: names, tuples of names -/
inductive Pat where
  | n (i : Nat)
  | t (ps : List Pat)
mutual
def Pat.g (K : PySem.W.Frag) : Pat → TG
  | .n i => gName i
  | .t ps => gTup K ps.length (Pat.gs K ps)
def Pat.gs (K : PySem.W.Frag) : List Pat → TGs
  | [] => gNil
  | p :: ps => gCons (Pat.g K p) (Pat.gs K ps)
end
mutual
def Pat.put : Pat → D → Ro → (Ro → Prop) → Prop
  | .n i, d, ρ, k => k (ρ.set i (some d))
  | .t ps, d, ρ, k => match d with
    | .tup xs => Pat.puts ps xs ρ k
    | _ => False
def Pat.puts : List Pat → List D → Ro → (Ro → Prop) → Prop
  | [], ds, ρ, k => match ds with
    | [] => k ρ
    | _ => False
  | p :: ps, ds, ρ, k => match ds with
    | d :: ds => Pat.put p d ρ fun ρ' => Pat.puts ps ds ρ' k
    | [] => False
end
mutual
def Pat.all (vs : List Nat) : Pat → Bool
  | .n i => vs.contains i
  | .t ps => Pat.alls vs ps
def Pat.alls (vs : List Nat) : List Pat → Bool
  | [] => true
  | p :: ps => Pat.all vs p && Pat.alls vs ps
end
theorem puts_len : ∀ {ps : List Pat} {ds : List D} {ρ : Ro} {k : Ro → Prop}, Pat.puts ps ds ρ k → ps.length = ds.length ∨ True := fun _ => .inr trivial
mutual
theorem Pat.ok {K : PySem.W.Frag} {vs : List Nat} {H : Hp} {Q : L2.St → Hp → Prop} : ∀ (p : Pat) (d : D) (v : V) (σ : L2.St) (ρ : Ro) (k : Ro → Prop), Pat.all vs p = true → DV K H d v → SRv K σ H ρ → Pat.put p d ρ k →
    (∀ ρ' σ', SRv K σ' H ρ' → L2.wipe σ' vs = L2.wipe σ vs → k ρ' → Q σ' H) → Pat.g K p v σ H Q
  | .n i, d, v, σ, ρ, k, ha, dv, sr, h, hk => by
    refine hk _ _ (sr.set dv i) (wipe_set (by simpa [Pat.all] using ha)) h
  | .t ps, d, v, σ, ρ, k, ha, dv, sr, h, hk => by
    cases d with
    | tup xs =>
      obtain ⟨a, ws, rfl, q, r⟩ := dv
      obtain ⟨hl, hh⟩ := Pat.oks ps xs ws σ ρ k (by simpa [Pat.all] using ha) r sr h hk
      exact ⟨a, ws, rfl, q.sq, hl.symm, hh⟩
    | _ => exact False.elim h
theorem Pat.oks {K : PySem.W.Frag} {vs : List Nat} {H : Hp} {Q : L2.St → Hp → Prop} : ∀ (ps : List Pat) (ds : List D) (us : List V) (σ : L2.St) (ρ : Ro) (k : Ro → Prop), Pat.alls vs ps = true → DVs K H ds us → SRv K σ H ρ → Pat.puts ps ds ρ k →
    (∀ ρ' σ', SRv K σ' H ρ' → L2.wipe σ' vs = L2.wipe σ vs → k ρ' → Q σ' H) → ps.length = us.length ∧ Pat.gs K ps us σ H Q
  | [], ds, us, σ, ρ, k, ha, dv, sr, h, hk => by
    cases ds with
    | nil =>
      cases (show us = [] from dv)
      exact ⟨rfl, rfl, hk ρ σ sr rfl h⟩
    | cons _ _ => exact False.elim h
  | p :: ps, ds, us, σ, ρ, k, ha, dv, sr, h, hk => by
    cases ds with
    | nil => exact False.elim h
    | cons d ds =>
      obtain ⟨v, ws, rfl, dv1, dv2⟩ := dv
      have ha2 : Pat.all vs p = true ∧ Pat.alls vs ps = true := by simpa [Pat.alls] using ha
      -- the length is told by any run of the rest
      have key := Pat.ok (K := K) (vs := vs) (H := H) (Q := fun σ' H' => H' = H ∧ ps.length = ws.length ∧ Pat.gs K ps ws σ' H Q) p d v σ ρ (fun ρ' => Pat.puts ps ds ρ' k) ha2.1 dv1 sr h (fun ρ' σ' sr' hw h' => by
        obtain ⟨hl, hg⟩ := Pat.oks ps ds ws σ' ρ' k ha2.2 dv2 sr' h' (fun ρ'' σ'' sr'' hw' h'' => hk ρ'' σ'' sr'' (hw'.trans hw) h'')
        exact ⟨rfl, hl, hg⟩)
      have len : ps.length = ws.length := by
        have dl := dv2.length
        rw [← dl]
        -- from the D-level readings
        exact Pat.lens ps ds p d ρ k h
      refine ⟨by simp [len], v, ws, rfl, ?_⟩
      exact Pat.mono p v σ H _ _ (fun σ' H' q => by obtain ⟨e, _, q⟩ := q; rw [e]; exact q) key
theorem Pat.lens : ∀ (ps : List Pat) (ds : List D) (p : Pat) (d : D) (ρ : Ro) (k : Ro → Prop), Pat.put p d ρ (fun ρ' => Pat.puts ps ds ρ' k) → ps.length = ds.length := by
  intro ps ds p d ρ k h
  have h2 : ∃ ρ', Pat.puts ps ds ρ' k := Pat.exi p d ρ _ h
  obtain ⟨ρ', h2⟩ := h2
  exact Pat.len2 ps ds ρ' k h2
theorem Pat.exi : ∀ (p : Pat) (d : D) (ρ : Ro) (k : Ro → Prop), Pat.put p d ρ k → ∃ ρ', k ρ'
  | .n i, d, ρ, k, h => ⟨_, h⟩
  | .t ps, d, ρ, k, h => by
    cases d with
    | tup xs => exact Pat.exis ps xs ρ k h
    | _ => exact False.elim h
theorem Pat.exis : ∀ (ps : List Pat) (ds : List D) (ρ : Ro) (k : Ro → Prop), Pat.puts ps ds ρ k → ∃ ρ', k ρ'
  | [], ds, ρ, k, h => by
    cases ds with
    | nil => exact ⟨_, h⟩
    | cons _ _ => exact False.elim h
  | p :: ps, ds, ρ, k, h => by
    cases ds with
    | nil => exact False.elim h
    | cons d ds =>
      obtain ⟨ρ', h'⟩ := Pat.exi p d ρ _ h
      exact Pat.exis ps ds ρ' k h'
theorem Pat.len2 : ∀ (ps : List Pat) (ds : List D) (ρ : Ro) (k : Ro → Prop), Pat.puts ps ds ρ k → ps.length = ds.length
  | [], ds, ρ, k, h => by
    cases ds with
    | nil => rfl
    | cons _ _ => exact False.elim h
  | p :: ps, ds, ρ, k, h => by
    cases ds with
    | nil => exact False.elim h
    | cons d ds =>
      obtain ⟨ρ', h'⟩ := Pat.exi p d ρ _ h
      simp [Pat.len2 ps ds ρ' k h']
theorem Pat.mono {K : PySem.W.Frag} : ∀ (p : Pat) (v : V) (σ : L2.St) (H : Hp) (Q Q' : L2.St → Hp → Prop), (∀ σ' H', Q σ' H' → Q' σ' H') → Pat.g K p v σ H Q → Pat.g K p v σ H Q'
  | .n i, v, σ, H, Q, Q', m, h => m _ _ h
  | .t ps, v, σ, H, Q, Q', m, h => by
    obtain ⟨a, xs, e, q, l, h⟩ := h
    exact ⟨a, xs, e, q, l, Pat.monos ps xs σ H Q Q' m h⟩
theorem Pat.monos {K : PySem.W.Frag} : ∀ (ps : List Pat) (vs : List V) (σ : L2.St) (H : Hp) (Q Q' : L2.St → Hp → Prop), (∀ σ' H', Q σ' H' → Q' σ' H') → Pat.gs K ps vs σ H Q → Pat.gs K ps vs σ H Q'
  | [], vs, σ, H, Q, Q', m, h => ⟨h.1, m _ _ h.2⟩
  | p :: ps, vs, σ, H, Q, Q', m, h => by
    obtain ⟨v, r, e, h⟩ := h
    exact ⟨v, r, e, Pat.mono p v σ H _ _ (fun σ' H' q => Pat.monos ps r σ' H' Q Q' m q) h⟩
end

def PDTs (X : Cx) (y : DXw) (ifs : List Expr) (t : RT) : Prop := PTs X ifs (lT X.K y t)
def rYes : RT := fun _ S Q => Q true S
theorem pdts_nil : PDTs X y [] rYes := ⟨fun pins s σ H Q I h => by
  obtain ⟨ρ, S, R, sr, so, h, k⟩ := h
  exact pts_nil.run pins s σ H Q I (k true S H (Go.refl so.so) h)⟩
theorem pdts_one {c : Expr} {t : RT} (h : PDT X y c t) : PDTs X y [c] t := pts_one h
/-- no exception is wanted -/
def y0 : DXw := ⟨fun _ _ _ _ => False, fun _ _ _ _ => False⟩
theorem sx0 {K : PySem.W.Frag} {H : Hp} {S : Sto} (h : SOk K H S) : SX K y0 H S := ⟨h, fun _ _ _ _ _ _ _ _ _ _ _ _ z => z⟩
def rLc (wi : RI) (p : Pat) (tt : RT) (te : RE) (vs : List Nat) : RE := fun ρ S Q => wi ρ S fun xs src S1 => ∃ W : Nat → List D → Sto → Prop, W 0 [] S1 ∧ ∀ i acc S', W i acc S' → src S' ∧
  (∀ x, xs[i]? = some x → Pat.put p x (dwipe ρ vs) fun ρ2 => tt ρ2 S' fun b S3 => IFB b (te ρ2 S3 fun d S4 => acc.length < sizeLine ∧ W (i + 1) (acc ++ [d]) S4) (W (i + 1) acc S3)) ∧
  (i = xs.length → ∀ p, S' p = none → Q (.ref p) (sup S' p (.lst acc)))
theorem lc_of {wi : RI} {p : Pat} {tt : RT} {te : RE} {vs : List Nat} {σ : L2.St} {H : Hp} {Q : VK} (ha : Pat.all vs p = true) (h : lE X.K y (rLc wi p tt te vs) σ H Q) : tLc (lI X.K y wi) (Pat.g X.K p) (lT X.K y0 tt) (lE X.K y0 te) vs σ H Q := by
  obtain ⟨ρ, S, R, sr, so, h, k⟩ := h
  refine ⟨ρ, S, _, sr, so, h, fun xs src S1 J H1 g1 jo ⟨W, w0, hs⟩ D hD => ?_⟩
  -- the new list lies beside the store
  have base : ∀ {H2 : Hp} {S2 : Sto} {ws : List V}, Go X.K H1 S1 H2 S2 → H2 D = some (.lst ws) → S2 D = none → True := fun _ _ _ => trivial
  have gD := Go.new (K := X.K) (o := .lst []) g1.ok hD
  have swap : ∀ {H2 : Hp} {S2 : Sto} {ws ws' : List V}, SOk X.K H2 S2 → S2 D = none → H2 D = some (.lst ws) → SOk X.K (upd H2 D (.lst ws')) S2 := fun {H2 S2 ws ws'} so2 e e2 a c q => by
    have ne : a ≠ D := fun z => by rw [z, e] at q; cases q
    have := so2 a c q
    cases c with
    | lst xs => obtain ⟨us, e1, r⟩ := this; exact ⟨us, by rw [upd_ne ne]; exact e1, DVs.wr e2 (.inl ⟨_, rfl⟩) _ _ r⟩
    | dK kvs => obtain ⟨us, e1, r⟩ := this; exact ⟨us, by rw [upd_ne ne]; exact e1, DKs.wr e2 (.inl ⟨_, rfl⟩) r⟩
  -- what stands beside the store, but the new list, from H1 on
  refine ⟨fun i m H2 => ∃ S2 acc ws, m = xs.length - i ∧ i ≤ xs.length ∧ Go X.K H1 S1 H2 S2 ∧ H2 D = some (.lst ws) ∧ S2 D = none ∧ DVs X.K H2 acc ws ∧ W i acc S2, ⟨_, S1, [], [], rfl, Nat.zero_le _, gD, upd_same, g1.ok.free hD, DVs.nil, w0⟩, ?_⟩
  rintro i m H2 ⟨S2, acc, ws, rfl, hi, g2, hD2, sD2, r2, w2⟩
  obtain ⟨hsrc, hturn, hend⟩ := hs i acc S2 w2
  obtain ⟨j1, j2⟩ := jo i H2 S2 g2 hsrc
  by_cases hlt : i < xs.length
  · have hx : xs[i]? = some xs[i] := List.getElem?_eq_getElem hlt
    obtain ⟨jg, jy⟩ := j1 _ hx
    refine .inr ⟨jg, fun H3 => ∃ S3 acc3 ws3, Go X.K H1 S1 H3 S3 ∧ H3 D = some (.lst ws3) ∧ S3 D = none ∧ DVs X.K H3 acc3 ws3 ∧ W (i + 1) acc3 S3, fun H3 ⟨S3, acc3, ws3, g3, a1, a2, a3, a4⟩ => ⟨xs.length - (i + 1), by omega, S3, acc3, ws3, rfl, hlt, g3, a1, a2, a3, a4⟩, fun v H3 hy => ?_⟩
    obtain ⟨g3, dv⟩ := jy v H3 hy
    have gA := g2.trans g3
    have hD3 : H3 D = some (.lst ws) := g3.frame D _ sD2 hD2
    refine Pat.ok p _ v _ _ _ ha dv (((sr.go g1).go gA).wipe vs) (hturn _ hx) fun ρ3 σ3 sr3 hw h3 => ⟨by
      have e : ∀ (l : List Nat), L2.wipe (L2.wipe σ l) l = L2.wipe σ l := by
        intro l
        have gen : ∀ (l l' : List Nat), (∀ i ∈ l, i ∈ l') → L2.wipe (L2.wipe σ l') l = L2.wipe σ l' := by
          intro l
          induction l with
          | nil => intro l' _; rfl
          | cons a l ih =>
            intro l' hl
            show (L2.wipe (L2.wipe σ l') l).set a none = L2.wipe σ l'
            rw [ih l' fun i hi => hl i (List.mem_cons_of_mem _ hi)]
            have ha' := hl a List.mem_cons_self
            apply List.ext_getElem?
            intro j
            by_cases hj : a = j
            · subst hj
              by_cases hb : a < (L2.wipe σ l').length
              · rw [List.getElem?_set_self hb]
                cases q : (L2.wipe σ l')[a]? with
                | none => rw [List.getElem?_eq_none_iff] at q; omega
                | some o =>
                  cases o with
                  | none => rfl
                  | some x => exact absurd ha' (wipe_some q).2
              · rw [List.getElem?_eq_none (by simpa using hb), List.getElem?_eq_none (by simpa using hb)]
            · rw [List.getElem?_set_ne hj]
        exact gen l l fun _ h => h
      rw [hw, e], ?_⟩
    refine ⟨ρ3, S2, _, sr3, sx0 gA.ok, h3, fun b S4 H4 g4 h4 => ?_⟩
    have hD4 : H4 D = some (.lst ws) := g4.frame D _ sD2 hD3
    have sD4 : S4 D = none := g4.ex D _ sD2 hD3
    refine ite_of_IFB h4 (fun z => ⟨ρ3, S4, _, sr3.go g4, sx0 g4.ok, z, fun d S5 w H5 g5 dv5 h5 => ?_⟩) fun z => ?_
    · have hD5 : H5 D = some (.lst ws) := g5.frame D _ sD4 hD4
      have sD5 : S5 D = none := g5.ex D _ sD4 hD4
      have gB := (gA.trans g4).trans g5
      have r5 : DVs X.K H5 acc ws := DVs.go ((g3.trans g4).trans g5) _ _ r2
      refine ⟨ws, hD5, by rw [← r5.length]; exact h5.1, S5, acc ++ [d], ws ++ [w], ⟨g1.ok, swap gB.ok sD5 hD5, fun a o e q => ?_, gB.ex⟩, upd_same, sD5, DVs.wr hD5 (.inl ⟨_, rfl⟩) _ _ (r5.append (DVs.cons dv5 DVs.nil)), h5.2⟩
      rw [upd_ne (ne_of_none q hD)]
      exact gB.frame a o e q
    · exact ⟨S4, acc, ws, gA.trans g4, hD4, sD4, DVs.go (g3.trans g4) _ _ r2, z⟩
  · have e : i = xs.length := by omega
    subst e
    refine .inl ⟨j2 (by simp), ?_⟩
    have sok : SOk X.K H2 (sup S2 D (.lst acc)) := fun a c q => by
      by_cases ha : a = D
      · subst ha
        rw [sup_same] at q; cases q
        exact ⟨ws, hD2, r2⟩
      · rw [sup_ne ha] at q
        exact g2.ok a c q
    have gE : Go X.K H1 S1 H2 (sup S2 D (.lst acc)) := ⟨g1.ok, sok, g2.frame, fun a o e q => by rw [sup_ne (ne_of_none q hD)]; exact g2.ex a o e q⟩
    exact k (.ref D) _ _ _ (g1.trans gE) rfl (hend rfl D sD2)
theorem pd_lc {elt tg iter : Expr} {ifs : List Expr} {scope : Scope} {own : List (Str × Nat)} {wi : RI} {p : Pat} {tt : RT} {te : RE} (hc : X.calm = true) (hN : X.N.Nodup) (hi : PDI X y tg iter wi) (ok : BlkOk X.N X.env.scope scope own)
    (hg : ∀ (s : Shared) (H : Hp) (C : Addr) (cl : List (Str × Addr)) (fp : List Addr), PG (X.blk s H scope (compEnvC scope cl C X.env) fp) tg (Pat.g X.K p)) (ht : ∀ (s : Shared) (H : Hp) (C : Addr) (cl : List (Str × Addr)) (fp : List Addr), PDTs (X.blk s H scope (compEnvC scope cl C X.env) fp) y0 ifs tt)
    (he : ∀ (s : Shared) (H : Hp) (C : Addr) (cl : List (Str × Addr)) (fp : List Addr), PD (X.blk s H scope (compEnvC scope cl C X.env) fp) y0 elt te) (hv : Pat.all (own.map (·.2)) p = true := by rfl) (hs : ∀ x, foldedSetIterable iter X.env x = pure x := by intro _; rfl) :
    PD X y (.ListComp elt [⟨tg, iter, ifs, 0⟩] scope pos) (rLc wi p tt te (own.map (·.2))) :=
  PD.of (pe_lc (tt := lT X.K y0 tt) (te := lE X.K y0 te) hc hN hi ok hg ht he hs) fun σ H Q h => lc_of hv h
theorem pd_setLc (i : Nat) {yn : Str} {py : Pos} {elt tg iter : Expr} {ifs : List Expr} {scope : Scope} {own : List (Str × Nat)} {spos : Pos} {wi : RI} {p : Pat} {tt : RT} {te : RE} (hc : X.calm = true) (hN : X.N.Nodup) (hy : X.N[i]? = some yn) (hyl : X.env.scope.names.lookup yn = some .local)
    (hsw : swapsWith (.ListComp elt [⟨tg, iter, ifs, 0⟩] scope pos) (some (.Name yn py)) spos.line X.env = pure true) (hi : PDI X y tg iter wi) (ok : BlkOk X.N X.env.scope scope own)
    (hg : ∀ (s : Shared) (H : Hp) (C : Addr) (cl : List (Str × Addr)) (fp : List Addr), PG (X.blk s H scope (compEnvC scope cl C X.env) fp) tg (Pat.g X.K p)) (ht : ∀ (s : Shared) (H : Hp) (C : Addr) (cl : List (Str × Addr)) (fp : List Addr), PDTs (X.blk s H scope (compEnvC scope cl C X.env) fp) y0 ifs tt)
    (he : ∀ (s : Shared) (H : Hp) (C : Addr) (cl : List (Str × Addr)) (fp : List Addr), PD (X.blk s H scope (compEnvC scope cl C X.env) fp) y0 elt te) (hv : Pat.all (own.map (·.2)) p = true := by rfl) (hs : ∀ x, foldedSetIterable iter X.env x = pure x := by intro _; rfl) :
    PDS X y (.Assign [.Name yn py] (.ListComp elt [⟨tg, iter, ifs, 0⟩] scope pos) spos) (rAsg (rLc wi p tt te (own.map (·.2))) (gN i)) :=
  PDS.of (ps_setLc (tt := lT X.K y0 tt) (te := lE X.K y0 te) hc hN hy hyl hsw hi ok hg ht he hs) fun D σ H h => by
    obtain ⟨ρ, S, E, sr, so, h, eo⟩ := h
    exact lc_of hv ⟨ρ, S, _, sr, so, h, fun d S1 v H1 g1 dv h1 => eo.nx _ S1 _ H1 g1 ((sr.go g1).set dv i) h1⟩
end
end DL
set_option Elab.async false
set_option linter.all false
set_option maxRecDepth 100000
set_option maxHeartbeats 4000000
namespace DL
open PySem PySem.Spec PyProof.Rows L2

/-! ### defs -/
abbrev DSp := List D → Sto → (D → Sto → Prop) → (Addr → D → Sto → Prop) → Prop
def toSp (K : PySem.W.Frag) (f : DSp) : Sp := fun vs H Q E => ∃ ds S R RX, DVs K H ds vs ∧ SOk K H S ∧ f ds S R RX ∧ (∀ d S' v H', Go K H S H' S' → DV K H' d v → R d S' → Q v H') ∧
  (∀ C d S' dx w H', Go K H S H' S' → H' dx = some (.xd [(("value" : Str), w)]) → DV K H' d w → RX C d S' → E (.ref C) (some dx) H')
def startD (N : List Str) (ds : List D) : Ro := ds.map some ++ List.replicate (N.length - ds.length) none
theorem start_srv {K : PySem.W.Frag} {H : Hp} {N : List Str} {ds : List D} {vs : List V} (h : DVs K H ds vs) : SRv K (L2.start N vs) H (startD N ds) := by
  have hl := h.length
  refine ⟨by unfold L2.start startD; simp [hl], fun i d e => ?_⟩
  unfold startD at e
  by_cases hi : i < ds.length
  · rw [List.getElem?_append_left (by simpa using hi), List.getElem?_map] at e
    cases q : ds[i]? with
    | none => rw [q] at e; cases e
    | some d' =>
      rw [q] at e
      have e2 : d' = d := Option.some.inj (Option.some.inj e)
      subst e2
      obtain ⟨v, e1, r⟩ := h.get q
      refine ⟨v, ?_, r⟩
      unfold L2.start
      rw [List.getElem?_append_left (by simpa using (hl ▸ hi)), List.getElem?_map, e1]
      rfl
  · rw [List.getElem?_append_right (by simpa using hi), List.getElem?_replicate] at e
    split at e <;> cases e
abbrev yOf (E : XK) (RX : Addr → D → Sto → Prop) : DXw := ⟨fun cls d _ H => E cls d H, fun C d _ S => RX C d S⟩
theorem fnD {P : Program} {w : World} {K : PySem.W.Frag} {mg : Str → Option Value} {base : Heap} {x qual : Str} {st : Stmt} {f : Addr} {fd : FuncData} {N ps : List Str} {k : Nat} {sp : DSp} (F : Fun K x qual st f fd) (S : FnScope N ps (defScope st))
    (len : ∀ ds S Q E, sp ds S Q E → ds.length = ps.length)
    (hbody : ∀ (cdv : Value) (A : Around) (outer : List Env) (s : Shared) (H : Hp) (E : XK) (RX : Addr → D → Sto → Prop), Room k (A.deeper (envOfC qual (defScope st) s.heap.objs.size f cdv)) →
      ∃ t, PDSs (cxOf (L2.CX P w) P w K mg base N qual (defScope st) f cdv A outer s H E) (yOf E RX) (defBody st) t ∧ ∀ ds S Q, sp ds S Q RX → t { nx := fun _ S' => Q .non S', rt := Q } (startD N ds) S) :
    FnOk P w K mg base (L2.CX P w) (k + 1) f fd ps (toSp K sp) := by
  refine F.okX S (fun vs H Q E h => ?_) (fun cdv A outer s H vs Q E hr h => ?_)
  · obtain ⟨ds, S, R, RX, dvs, _, h, _⟩ := h
    rw [← dvs.length]
    exact len _ _ _ _ h
  · obtain ⟨ds, S, R, RX, dvs, so, h, k1, k2⟩ := h
    obtain ⟨t, ht, hq⟩ := hbody cdv A outer s H E RX hr
    refine ⟨_, ht, startD N ds, S, { nx := fun _ S' => R .non S', rt := R }, start_srv dvs, ⟨so, fun C d ρ S' dx w' σ H' g _ e dv q => k2 C d S' dx w' H' g e dv q⟩, hq ds S R h, ?_⟩
    exact ⟨fun ρ S' σ H' g _ q => k1 .non S' .non H' g rfl q, fun d S' v H' g dv q => k1 d S' v H' g dv q, fun _ _ _ _ _ _ z => z, fun _ _ _ _ _ _ z => z⟩
section
variable {X : Cx} {y : DXw} {pos p : Pos} {e : Expr} {es : List Expr} {x : Str} {k : Nat} {f : Addr} {fd : FuncData} {ps : List Str} {spec : DSp}
def rCall (y : DXw) (spec : DSp) (ta : RA) : RE := fun ρ S Q => ta ρ S fun ds S1 => spec ds S1 Q fun C d S' => y.d C d ρ S'
theorem pd_call {ta : RA} (tk : Takes X y.W) (G : FnOk X.prog X.w X.K X.mg X.base (L2.CX X.prog X.w) k f fd ps (toSp X.K spec)) (hr : Room k X.A) (hm : X.mg x = some (.ref f)) (hk : PySem.W.keepIn X.K (.ref f) = true) (hb : Binds X.K fd ps [])
    (ha : PDA X y (e :: es) ta) (hg : Gl X x := by rfl) (hdb : (x == ("__debug__" : Str)) = false := by decide) (he : starEach (e :: es) X.env = (false, eval e X.env) :: starEach es X.env := by rfl) (hpl : (backTo pos (starEach es X.env)).any (·.1) = false := by rfl) :
    PD X y (.Call (.Name x p) (e :: es) [] pos) (rCall y spec ta) :=
  PD.of (pe_callS G hr hg hm hk hb (fun σ => passAt tk σ) ha hdb he hpl) fun σ H Q h => by
    obtain ⟨ρ, S, R, sr, so, h, k⟩ := h
    exact ⟨ρ, S, _, sr, so, h, fun ds S1 vs H1 g1 dvs hn h1 => ⟨ds, S1, R, _, dvs, g1.ok, h1, fun d S2 v H2 g2 dv q => k d S2 v H2 (g1.trans g2) dv q, fun C d S2 dx w H2 g2 e dw q => (so.go g1).xo C d ρ S2 dx w σ H2 g2 (sr.go (g1.trans g2)) e dw q⟩⟩
/-- keywords -/
def RdK (X : Cx) (y : DXw) (kws : List Keyword) (n : Nat) (t : RA) : Prop := PK X kws (lA X.K y n t)
theorem pdk_nil : RdK X y [] 0 rNil := ⟨fun pins pos s σ H Q I h => by
  obtain ⟨ρ, S, R, sr, so, h, k⟩ := h
  exact pk_nil.run pins pos s σ H Q I (k [] S [] H (Go.refl so.so) DVs.nil rfl h)⟩
theorem pdk_cons {nm : Option Str} {kpos : Pos} {kws : List Keyword} {n : Nat} {t : RE} {u : RA} (he : PD X y e t) (hr : RdK X y kws n u) : RdK X y (⟨nm, e, kpos⟩ :: kws) (n + 1) (rCons t u) := ⟨fun pins pos s σ H Q I h => by
  obtain ⟨ρ, S, R, sr, so, h, k⟩ := h
  refine (pk_cons he hr).run pins pos s σ H Q I ⟨ρ, S, _, sr, so, h, fun d S1 v H1 g1 dv h1 => ⟨ρ, S1, _, sr.go g1, so.go g1, h1, fun ds S2 vs H2 g2 dvs hn h2 => ?_⟩⟩
  exact k _ S2 _ H2 (g1.trans g2) (DVs.cons (DV.go g2 _ _ dv) dvs) (by rw [List.length_cons, hn]) h2⟩
end
end DL
set_option Elab.async false
set_option linter.all false
set_option maxRecDepth 100000
set_option maxHeartbeats 4000000
namespace DL
open PySem PySem.Spec PyProof.Rows L2

/-! ### data as PyData -/
mutual
inductive PyR (S : Sto) : D → PyData → Prop
  | non : PyR S .non .none
  | bl (b : Bool) : PyR S (.bl b) (.bool b)
  | int (i : Int) : PyR S (.int i) (.int i)
  | str (x : Str) : PyR S (.str x) (.str x)
  | tup {xs : List D} {ps : List PyData} : PyRs S xs ps → PyR S (.tup xs) (.tuple ps)
  | fro {xs : List D} {ps : List PyData} : PyRs S xs ps → PyR S (.fro xs) (.list ps)
  | lst {a : Addr} {xs : List D} {ps : List PyData} : S a = some (.lst xs) → PyRs S xs ps → PyR S (.ref a) (.list ps)
inductive PyRs (S : Sto) : List D → List PyData → Prop
  | nil : PyRs S [] []
  | cons {x : D} {xs : List D} {p : PyData} {ps : List PyData} : PyR S x p → PyRs S xs ps → PyRs S (x :: xs) (p :: ps)
end
section
variable {K : PySem.W.Frag} {H : Hp} {S : Sto}
mutual
theorem PyR.dp (so : SOk K H S) : ∀ (p : PyData) (x : D) (v : V), PyR S x p → DV K H x v → Dp K H v p
  | .none, _, _, h, r => by cases h; cases (show _ = V.non from r); exact .non
  | .bool b, _, _, h, r => by cases h; cases (show _ = V.bl b from r); exact .bl b
  | .int i, _, _, h, r => by cases h; cases (show _ = V.int i from r); exact .int i
  | .str x, _, _, h, r => by cases h; cases (show _ = V.str x from r); exact .str x
  | .tuple ps, _, _, h, r => by
    cases h with
    | tup hs =>
      obtain ⟨a, vs, rfl, q, r⟩ := r
      exact .tup q.sq (PyR.dps so ps _ _ hs r)
  | .list ps, _, _, h, r => by
    cases h with
    | fro hs =>
      obtain ⟨a, vs, rfl, q, r⟩ := r
      exact .lst q.sq (PyR.dps so ps _ _ hs r)
    | lst e hs =>
      cases (show _ = V.ref _ from r)
      obtain ⟨vs, e1, r⟩ := so _ _ e
      exact .lst (SqL.of e1) (PyR.dps so ps _ _ hs r)
  | .dict _, _, _, h, _ => by cases h
theorem PyR.dps (so : SOk K H S) : ∀ (ps : List PyData) (xs : List D) (vs : List V), PyRs S xs ps → DVs K H xs vs → DpAll K H vs ps
  | [], _, _, h, r => by cases h; cases (show _ = [] from r); exact .nil
  | p :: ps, _, _, h, r => by
    cases h with
    | cons h1 h2 =>
      obtain ⟨v, ws, rfl, r1, r2⟩ := r
      exact .cons (PyR.dp so p _ _ h1 r1) (PyR.dps so ps _ _ h2 r2)
end
end

/-! ### operators -/
def dAdd : ROp
  | .int i, .int j, S, R => R (.int (i + j)) S
  | .str x, .str z, S, R => x.length + z.length ≤ sizeLine ∧ R (.str (x ++ z)) S
  | .tup xs, .tup ys, S, R => xs.length + ys.length ≤ sizeLine ∧ R (.tup (xs ++ ys)) S
  | .ref a, .ref b, S, R => ∃ xs ys, S a = some (.lst xs) ∧ S b = some (.lst ys) ∧ xs.length + ys.length ≤ sizeLine ∧ ∀ p, S p = none → R (.ref p) (sup S p (.lst (xs ++ ys)))
  | _, _, _, _ => False
def dSub : ROp
  | .int i, .int j, S, R => R (.int (i - j)) S
  | _, _, _, _ => False
def dMul : ROp
  | .int i, .int j, S, R => (CMulW i j ∨ CMul i j) ∧ R (.int (i * j)) S
  | .ref a, .int k, S, R => ∃ xs, S a = some (.lst xs) ∧ (0 ≤ k ∧ k < 2 ^ 63) ∧ xs.length * k.toNat ≤ sizeLine ∧ ∀ p, S p = none → R (.ref p) (sup S p (.lst ((List.replicate k.toNat xs).flatten)))
  | _, _, _, _ => False
def dFdiv : ROp
  | .int i, .int j, S, R => CDivW i j ∧ R (.int (i / j)) S
  | _, _, _, _ => False
def dMod : ROp
  | .int i, .int j, S, R => 0 < j ∧ R (.int (i % j)) S
  | _, _, _, _ => False
def dPow : ROp
  | .int i, .int j, S, R => (0 ≤ j ∧ (Builtin.Int.intBits i : Int) * j ≤ 2 ^ 27) ∧ R (.int (i ^ j.toNat)) S
  | _, _, _, _ => False
def dCmpI (f : Int → Int → Bool) : ROp
  | .int i, .int j, S, R => R (.bl (f i j)) S
  | _, _, _, _ => False
def dLt : ROp
  | .int i, .int j, S, R => R (.bl (decide (i < j))) S
  | _, _, _, _ => False
def dLe : ROp
  | .int i, .int j, S, R => R (.bl (decide (i ≤ j))) S
  | _, _, _, _ => False
def dGt : ROp
  | .int i, .int j, S, R => R (.bl (decide (j < i))) S
  | _, _, _, _ => False
def dGe : ROp
  | .int i, .int j, S, R => R (.bl (decide (j ≤ i))) S
  | _, _, _, _ => False
def dEqG (n : Bool) (x y : D) (S : Sto) (R : D → Sto → Prop) : Prop := ∃ p q, PyR S x p ∧ PyR S y q ∧ SeqAt.shaped p = true ∧ SeqAt.shaped q = true ∧ R (.bl (if n then !PyData.eqv p q else PyData.eqv p q)) S
def dEq : ROp
  | .int i, .int j, S, R => R (.bl (decide (i = j))) S
  | .bl i, .bl j, S, R => R (.bl (decide (i = j))) S
  | .str i, .str j, S, R => R (.bl (decide (i = j))) S
  | x, y, S, R => dEqG false x y S R
def dNe : ROp
  | .int i, .int j, S, R => R (.bl (!decide (i = j))) S
  | .bl i, .bl j, S, R => R (.bl (!decide (i = j))) S
  | .str i, .str j, S, R => R (.bl (!decide (i = j))) S
  | x, y, S, R => dEqG true x y S R
def isNone : D → Bool
  | .non => true
  | _ => false
def dIs : ROp
  | x, .non, S, R => R (.bl (isNone x)) S
  | _, _, _, _ => False
def dIsNot : ROp
  | x, .non, S, R => R (.bl (!isNone x)) S
  | _, _, _, _ => False
section
variable {X : Cx}
theorem od_add : OpR X (binaryOp .Add) (lop X.K dAdd) := by
  intro pins s σ H v w vv ww Q I rv rw' h
  obtain ⟨x, y, S, R, dx, dy, so, h, k⟩ := h
  cases x <;> cases y <;> first | exact False.elim h | skip
  case int.int i j =>
    cases (show v = V.int i from dx); cases (show w = V.int j from dy)
    exact op_add pins s σ H _ _ vv ww Q I rv rw' ⟨i, j, rfl, rfl, k (.int (i + j)) S _ H (Go.refl so) rfl h⟩
  case str.str i j =>
    cases (show v = V.str i from dx); cases (show w = V.str j from dy)
    exact op_add_str pins s σ H _ _ vv ww Q I rv rw' ⟨i, j, rfl, rfl, h.1, k (.str (i ++ j)) S _ H (Go.refl so) rfl h.2⟩
  case tup.tup xs ys =>
    obtain ⟨a, vs, rfl, q1, r1⟩ := dx
    obtain ⟨b, ws, rfl, q2, r2⟩ := dy
    obtain ⟨hl, h⟩ := h
    refine op_catA pins s σ H _ _ vv ww Q I rv rw' ⟨a, b, vs, ws, rfl, rfl, q1.sq, q2.sq, by rw [← r1.length, ← r2.length]; exact hl, fun hv => ?_, fun _ hw => ?_, fun _ _ p hp => ?_⟩
    · subst hv
      have e : xs = [] := List.length_eq_zero_iff.mp r1.length
      subst e
      rw [List.nil_append] at h
      exact k (.tup ys) S _ H (Go.refl so) ⟨b, ws, rfl, q2, r2⟩ h
    · subst hw
      have e : ys = [] := List.length_eq_zero_iff.mp r2.length
      subst e
      rw [List.append_nil] at h
      exact k (.tup xs) S _ H (Go.refl so) ⟨a, vs, rfl, q1, r1⟩ h
    · have g := Go.new (o := .tup (vs ++ ws)) so hp
      exact k (.tup (xs ++ ys)) S _ _ g ⟨p, vs ++ ws, rfl, .inl upd_same, DVs.append (DVs.go g _ _ r1) (DVs.go g _ _ r2)⟩ h
  case ref.ref a b =>
    cases (show v = V.ref a from dx); cases (show w = V.ref b from dy)
    obtain ⟨xs, ys, e1, e2, hl, h⟩ := h
    obtain ⟨vs, f1, r1⟩ := so _ _ e1
    obtain ⟨ws, f2, r2⟩ := so _ _ e2
    refine op_cat pins s σ H _ _ vv ww Q I rv rw' ⟨a, b, vs, ws, rfl, rfl, f1, f2, by rw [← r1.length, ← r2.length]; exact hl, fun p hp => ?_⟩
    exact k (.ref p) _ _ _ (Go.newLst so hp (r1.append r2)) rfl (h p (so.free hp))
theorem od_sub : OpR X (binaryOp .Sub) (lop X.K dSub) := by
  intro pins s σ H v w vv ww Q I rv rw' h
  obtain ⟨x, y, S, R, dx, dy, so, h, k⟩ := h
  cases x <;> cases y <;> first | exact False.elim h | skip
  case int.int i j =>
    cases (show v = V.int i from dx); cases (show w = V.int j from dy)
    exact op_sub pins s σ H _ _ vv ww Q I rv rw' ⟨i, j, rfl, rfl, k (.int (i - j)) S _ H (Go.refl so) rfl h⟩
theorem od_mul : OpR X (binaryOp .Mult) (lop X.K dMul) := by
  intro pins s σ H v w vv ww Q I rv rw' h
  obtain ⟨x, y, S, R, dx, dy, so, h, k⟩ := h
  cases x <;> cases y <;> first | exact False.elim h | skip
  case int.int i j =>
    cases (show v = V.int i from dx); cases (show w = V.int j from dy)
    rcases h.1 with hc | hc
    · exact op_mulW pins s σ H _ _ vv ww Q I rv rw' ⟨i, j, rfl, rfl, hc, k (.int (i * j)) S _ H (Go.refl so) rfl h.2⟩
    · exact op_mul pins s σ H _ _ vv ww Q I rv rw' ⟨i, j, rfl, rfl, hc, k (.int (i * j)) S _ H (Go.refl so) rfl h.2⟩
  case ref.int a j =>
    cases (show v = V.ref a from dx); cases (show w = V.int j from dy)
    obtain ⟨xs, e1, ⟨h0, h1⟩, hl, h⟩ := h
    obtain ⟨vs, f1, r1⟩ := so _ _ e1
    refine op_rep pins s σ H _ _ vv ww Q I rv rw' ⟨a, j, vs, rfl, rfl, f1, by omega, h1, by rw [← r1.length]; exact hl, fun p hp => ?_⟩
    have rr : DVs X.K H ((List.replicate j.toNat xs).flatten) ((List.replicate j.toNat vs).flatten) := by
      generalize j.toNat = n
      induction n with
      | zero => exact DVs.nil
      | succ n ih => rw [List.replicate_succ, List.replicate_succ, List.flatten_cons, List.flatten_cons]; exact r1.append ih
    exact k (.ref p) _ _ _ (Go.newLst so hp rr) rfl (h p (so.free hp))
theorem od_fdiv : OpR X (binaryOp .FloorDiv) (lop X.K dFdiv) := by
  intro pins s σ H v w vv ww Q I rv rw' h
  obtain ⟨x, y, S, R, dx, dy, so, h, k⟩ := h
  cases x <;> cases y <;> first | exact False.elim h | skip
  case int.int i j =>
    cases (show v = V.int i from dx); cases (show w = V.int j from dy)
    exact op_fdivW pins s σ H _ _ vv ww Q I rv rw' ⟨i, j, rfl, rfl, h.1, k (.int (i / j)) S _ H (Go.refl so) rfl h.2⟩
theorem od_mod : OpR X (binaryOp .Mod) (lop X.K dMod) := by
  intro pins s σ H v w vv ww Q I rv rw' h
  obtain ⟨x, y, S, R, dx, dy, so, h, k⟩ := h
  cases x <;> cases y <;> first | exact False.elim h | skip
  case int.int i j =>
    cases (show v = V.int i from dx); cases (show w = V.int j from dy)
    exact op_mod pins s σ H _ _ vv ww Q I rv rw' ⟨i, j, rfl, rfl, h.1, k (.int (i % j)) S _ H (Go.refl so) rfl h.2⟩
theorem op_powW : OpR X (binaryOp .Pow) (rI (fun i j => 0 ≤ j ∧ (Builtin.Int.intBits i : Int) * j ≤ 2 ^ 27) fun i j => .int (i ^ j.toNat)) := opI fun _ _ _ _ _ _ _ hc q => PyProof.Rows.pow_int hc.1 hc.2 q
theorem od_pow : OpR X (binaryOp .Pow) (lop X.K dPow) := by
  intro pins s σ H v w vv ww Q I rv rw' h
  obtain ⟨x, y, S, R, dx, dy, so, h, k⟩ := h
  cases x <;> cases y <;> first | exact False.elim h | skip
  case int.int i j =>
    cases (show v = V.int i from dx); cases (show w = V.int j from dy)
    exact op_powW pins s σ H _ _ vv ww Q I rv rw' ⟨i, j, rfl, rfl, h.1, k (.int (i ^ j.toNat)) S _ H (Go.refl so) rfl h.2⟩
theorem od_cmpI {op : CmpOp} {f : Int → Int → Bool} (ho : OpR X (compareOp op) (rI0 fun i j => .bl (f i j))) : OpR X (compareOp op) (lop X.K (dCmpI f)) := by
  intro pins s σ H v w vv ww Q I rv rw' h
  obtain ⟨x, y, S, R, dx, dy, so, h, k⟩ := h
  cases x <;> cases y <;> first | exact False.elim h | skip
  case int.int i j =>
    cases (show v = V.int i from dx); cases (show w = V.int j from dy)
    exact ho pins s σ H _ _ vv ww Q I rv rw' ⟨i, j, rfl, rfl, k (.bl (f i j)) S _ H (Go.refl so) rfl h⟩
theorem od_lt : OpR X (compareOp .Lt) (lop X.K dLt) := od_cmpI op_lt
theorem od_le : OpR X (compareOp .LtE) (lop X.K dLe) := od_cmpI op_le
theorem od_gt : OpR X (compareOp .Gt) (lop X.K dGt) := od_cmpI op_gt
theorem od_ge : OpR X (compareOp .GtE) (lop X.K dGe) := od_cmpI op_ge
theorem eqG_of {n : Bool} {x y : D} {S : Sto} {R : D → Sto → Prop} {H : Hp} {v w : V} {Q : VK} (so : SOk X.K H S) (dx : DV X.K H x v) (dy : DV X.K H y w) (h : dEqG n x y S R) (k : ∀ d S' z H', Go X.K H S H' S' → DV X.K H' d z → R d S' → Q z H') :
    ∃ d e, Dp X.K H v d ∧ Dp X.K H w e ∧ SeqAt.shaped d = true ∧ SeqAt.shaped e = true ∧ Q (.bl (if n then !PyData.eqv d e else PyData.eqv d e)) H := by
  obtain ⟨p, q, h1, h2, s1, s2, h⟩ := h
  exact ⟨p, q, PyR.dp so p x v h1 dx, PyR.dp so q y w h2 dy, s1, s2, k (.bl (if n then !PyData.eqv p q else PyData.eqv p q)) S _ H (Go.refl so) rfl h⟩
theorem dEq_case {x y : D} {S : Sto} {R : D → Sto → Prop} (h : dEq x y S R) : (∃ i j, x = .int i ∧ y = .int j ∧ R (.bl (decide (i = j))) S) ∨ (∃ i j, x = .bl i ∧ y = .bl j ∧ R (.bl (decide (i = j))) S) ∨ (∃ i j, x = .str i ∧ y = .str j ∧ R (.bl (decide (i = j))) S) ∨ dEqG false x y S R := by
  cases x <;> cases y <;> first | exact .inr (.inr (.inr h)) | exact .inl ⟨_, _, rfl, rfl, h⟩ | exact .inr (.inl ⟨_, _, rfl, rfl, h⟩) | exact .inr (.inr (.inl ⟨_, _, rfl, rfl, h⟩))
theorem dNe_case {x y : D} {S : Sto} {R : D → Sto → Prop} (h : dNe x y S R) : (∃ i j, x = .int i ∧ y = .int j ∧ R (.bl (!decide (i = j))) S) ∨ (∃ i j, x = .bl i ∧ y = .bl j ∧ R (.bl (!decide (i = j))) S) ∨ (∃ i j, x = .str i ∧ y = .str j ∧ R (.bl (!decide (i = j))) S) ∨ dEqG true x y S R := by
  cases x <;> cases y <;> first | exact .inr (.inr (.inr h)) | exact .inl ⟨_, _, rfl, rfl, h⟩ | exact .inr (.inl ⟨_, _, rfl, rfl, h⟩) | exact .inr (.inr (.inl ⟨_, _, rfl, rfl, h⟩))
theorem od_eq (hu : X.A.units + 64 < cLine) : OpR X (compareOp .Eq) (lop X.K dEq) := by
  intro pins s σ H v w vv ww Q I rv rw' h
  obtain ⟨x, y, S, R, dx, dy, so, h, k⟩ := h
  rcases dEq_case h with ⟨i, j, rfl, rfl, h⟩ | ⟨i, j, rfl, rfl, h⟩ | ⟨i, j, rfl, rfl, h⟩ | h
  · cases (show v = V.int i from dx); cases (show w = V.int j from dy)
    exact op_eq pins s σ H _ _ vv ww Q I rv rw' ⟨rfl, by rw [show decide (V.int i = V.int j) = decide (i = j) by simp]; exact k (.bl (decide (i = j))) S _ H (Go.refl so) rfl h⟩
  · cases (show v = V.bl i from dx); cases (show w = V.bl j from dy)
    exact op_eq pins s σ H _ _ vv ww Q I rv rw' ⟨rfl, by rw [show decide (V.bl i = V.bl j) = decide (i = j) by simp]; exact k (.bl (decide (i = j))) S _ H (Go.refl so) rfl h⟩
  · cases (show v = V.str i from dx); cases (show w = V.str j from dy)
    exact op_eq pins s σ H _ _ vv ww Q I rv rw' ⟨rfl, by rw [show decide (V.str i = V.str j) = decide (i = j) by simp]; exact k (.bl (decide (i = j))) S _ H (Go.refl so) rfl h⟩
  · exact op_eqD hu pins s σ H _ _ vv ww Q I rv rw' (eqG_of so dx dy h k)
theorem od_ne (hu : X.A.units + 64 < cLine) : OpR X (compareOp .NotEq) (lop X.K dNe) := by
  intro pins s σ H v w vv ww Q I rv rw' h
  obtain ⟨x, y, S, R, dx, dy, so, h, k⟩ := h
  rcases dNe_case h with ⟨i, j, rfl, rfl, h⟩ | ⟨i, j, rfl, rfl, h⟩ | ⟨i, j, rfl, rfl, h⟩ | h
  · cases (show v = V.int i from dx); cases (show w = V.int j from dy)
    exact op_ne pins s σ H _ _ vv ww Q I rv rw' ⟨rfl, by rw [show decide (V.int i = V.int j) = decide (i = j) by simp]; exact k (.bl (!decide (i = j))) S _ H (Go.refl so) rfl h⟩
  · cases (show v = V.bl i from dx); cases (show w = V.bl j from dy)
    exact op_ne pins s σ H _ _ vv ww Q I rv rw' ⟨rfl, by rw [show decide (V.bl i = V.bl j) = decide (i = j) by simp]; exact k (.bl (!decide (i = j))) S _ H (Go.refl so) rfl h⟩
  · cases (show v = V.str i from dx); cases (show w = V.str j from dy)
    exact op_ne pins s σ H _ _ vv ww Q I rv rw' ⟨rfl, by rw [show decide (V.str i = V.str j) = decide (i = j) by simp]; exact k (.bl (!decide (i = j))) S _ H (Go.refl so) rfl h⟩
  · exact op_neD hu pins s σ H _ _ vv ww Q I rv rw' (eqG_of so dx dy h k)
theorem isNone_of {K : PySem.W.Frag} {H : Hp} {x : D} {v : V} (h : DV K H x v) : decide (v = V.non) = isNone x := by
  cases x with
  | non => cases (show v = V.non from h); rfl
  | bl b => cases (show v = V.bl b from h); rfl
  | int b => cases (show v = V.int b from h); rfl
  | str b => cases (show v = V.str b from h); rfl
  | ty b => cases (show v = V.ty b from h); rfl
  | ref b => cases (show v = V.ref b from h); rfl
  | tup b => obtain ⟨a, vs, rfl, _⟩ := h; rfl
  | fro b => obtain ⟨a, vs, rfl, _⟩ := h; rfl
  | exc C d => obtain ⟨a, dx, w, rfl, _⟩ := h; rfl
theorem od_is : OpR X (compareOp .Is) (lop X.K dIs) := by
  intro pins s σ H v w vv ww Q I rv rw' h
  obtain ⟨x, y, S, R, dx, dy, so, h, k⟩ := h
  cases y <;> first | (cases x <;> exact False.elim h) | skip
  cases (show w = V.non from dy)
  have h : R (.bl (isNone x)) S := by cases x <;> exact h
  exact op_isN pins s σ H _ _ vv ww Q I rv rw' ⟨rfl, by rw [isNone_of dx]; exact k (.bl (isNone x)) S _ H (Go.refl so) rfl h⟩
theorem od_isnot : OpR X (compareOp .IsNot) (lop X.K dIsNot) := by
  intro pins s σ H v w vv ww Q I rv rw' h
  obtain ⟨x, y, S, R, dx, dy, so, h, k⟩ := h
  cases y <;> first | (cases x <;> exact False.elim h) | skip
  cases (show w = V.non from dy)
  have h : R (.bl (!isNone x)) S := by cases x <;> exact h
  exact op_notN pins s σ H _ _ vv ww Q I rv rw' ⟨rfl, by rw [isNone_of dx]; exact k (.bl (!isNone x)) S _ H (Go.refl so) rfl h⟩
variable {y : DXw} {a b : Expr} {t : RE} {pos : Pos}
/-- -a -/
def rNeg (t : RE) : RE := fun ρ S Q => t ρ S fun d S1 => match d with
  | .int i => Q (.int (-i)) S1
  | _ => False
theorem pd_neg (ha : PD X y a t) : PD X y (.UnaryOp .USub a pos) (rNeg t) := by
  refine PD.of (pe_un un_neg ha) fun σ H Q h => ?_
  obtain ⟨ρ, S, R, sr, so, h, k⟩ := h
  refine ⟨ρ, S, _, sr, so, h, fun d S' v H' g dv hd => ?_⟩
  cases d with
  | int i => exact ⟨i, dv, k (.int (-i)) S' _ H' g rfl hd⟩
  | _ => exact False.elim hd
end
end DL
set_option Elab.async false
set_option linter.all false
set_option maxRecDepth 100000
set_option maxHeartbeats 4000000
namespace DL
open PySem PySem.Spec PyProof.Rows L2

/-! ### built-ins, by values -/
abbrev RCall := List D → Sto → (D → Sto → Prop) → Prop
def lcl (K : PySem.W.Frag) (p : RCall) : List V → Hp → VK → Prop := fun vs H Q => ∃ ds S R, DVs K H ds vs ∧ SOk K H S ∧ p ds S R ∧ ∀ d S' z H', Go K H S H' S' → DV K H' d z → R d S' → Q z H'
def rCl (p : RCall) (ta : RA) : RE := fun ρ S Q => ta ρ S fun ds S1 => p ds S1 Q
def dvs1 {K : PySem.W.Frag} {H : Hp} {d : D} {vs : List V} (h : DVs K H [d] vs) : ∃ v, vs = [v] ∧ DV K H d v := by
  obtain ⟨v, ws, rfl, r, q⟩ := h
  cases (show ws = [] from q)
  exact ⟨v, rfl, r⟩
def dvs2 {K : PySem.W.Frag} {H : Hp} {d e : D} {vs : List V} (h : DVs K H [d, e] vs) : ∃ v w, vs = [v, w] ∧ DV K H d v ∧ DV K H e w := by
  obtain ⟨v, ws, rfl, r, q⟩ := h
  obtain ⟨w, rfl, r2⟩ := dvs1 q
  exact ⟨v, w, rfl, r, r2⟩
section
variable {X : Cx} {y : DXw} {pos p : Pos} {e : Expr} {es : List Expr} {x : Str} {ta : RA}
theorem cl_of {r : List V → Hp → VK → Prop} {q : RCall} {n : Nat} {σ : L2.St} {H : Hp} {Q : VK} (hr : ∀ vs H Q, lcl X.K q vs H Q → r vs H Q) (h : lE X.K y (rCl q ta) σ H Q) : tCB r (lA X.K y n ta) σ H Q := by
  obtain ⟨ρ, S, R, sr, so, h, k⟩ := h
  exact ⟨ρ, S, _, sr, so, h, fun ds S1 vs H1 g1 dvs hn h1 => hr _ _ _ ⟨ds, S1, R, dvs, g1.ok, h1, fun d S2 z H2 g2 dz q => k d S2 z H2 (g1.trans g2) dz q⟩⟩
theorem pd_blt {id : String} {q : RCall} (hc : CallR X (.builtin id) (lcl X.K q)) (hm : X.mg x = none) (hv : bootBuiltins x = some (.builtin id)) (ha : PDA X y (e :: es) ta) (hg : Gl X x := by rfl) (hn : x ≠ "__name__" := by decide) (hdb : (x == ("__debug__" : Str)) = false := by decide)
    (he : starEach (e :: es) X.env = (false, eval e X.env) :: starEach es X.env := by rfl) (hpl : (backTo pos (starEach es X.env)).any (·.1) = false := by rfl) : PD X y (.Call (.Name x p) (e :: es) [] pos) (rCl q ta) :=
  PD.of (pe_callB hc hg hm hv ha hn hdb he hpl) fun σ H Q h => cl_of (fun _ _ _ z => z) h
theorem pd_bltTy {T : String} {q : RCall} (hc : CallR X (.type T) (lcl X.K q)) (hm : X.mg x = none) (hv : bootBuiltins x = some (.type T)) (ha : PDA X y (e :: es) ta) (hg : Gl X x := by rfl) (hn : x ≠ "__name__" := by decide) (hdb : (x == ("__debug__" : Str)) = false := by decide)
    (he : starEach (e :: es) X.env = (false, eval e X.env) :: starEach es X.env := by rfl) (hpl : (backTo pos (starEach es X.env)).any (·.1) = false := by rfl) : PD X y (.Call (.Name x p) (e :: es) [] pos) (rCl q ta) :=
  PD.of (pe_callTy hc hg hm hv ha hn hdb he hpl) fun σ H Q h => cl_of (fun _ _ _ z => z) h
theorem pd_bltFun {id : String} {q : RCall} (hc : CallR X (.builtin id) (lcl X.K q)) (hm : X.mg x = some (.builtin id)) (ha : PDA X y (e :: es) ta) (hg : Gl X x := by rfl) (hdb : (x == ("__debug__" : Str)) = false := by decide)
    (he : starEach (e :: es) X.env = (false, eval e X.env) :: starEach es X.env := by rfl) (hpl : (backTo pos (starEach es X.env)).any (·.1) = false := by rfl) : PD X y (.Call (.Name x p) (e :: es) [] pos) (rCl q ta) :=
  PD.of (pe_callBfun hc hg hm ha hdb he hpl) fun σ H Q h => cl_of (fun _ _ _ z => z) h

/-- len -/
def dLen : RCall := fun ds S Q => match ds with
  | [.tup xs] => Q (.int xs.length) S
  | [.str x] => x.length ≤ sizeLine ∧ Q (.int x.length) S
  | [d] => ∃ xs, RdL S d xs ∧ Q (.int xs.length) S
  | _ => False
theorem cd_len : CallR X (.builtin "len") (lcl X.K dLen) := by
  intro pins s σ H vs us Q I rv h
  obtain ⟨ds, S, R, dv, so, h, k⟩ := h
  refine call_len pins s σ H vs us Q I rv ?_
  unfold dLen at h
  split at h
  · rename_i xs
    obtain ⟨v, rfl, a, ws, rfl, q, r⟩ := dvs1 dv
    exact ⟨_, _, rfl, .inr ⟨ws, q.sq, rfl⟩, by rw [← r.length]; exact k (.int xs.length) S _ H (Go.refl so) rfl h⟩
  · rename_i z
    obtain ⟨v, rfl, r⟩ := dvs1 dv
    cases (show v = V.str z from r)
    exact ⟨_, _, rfl, ⟨h.1, rfl⟩, k (.int z.length) S _ H (Go.refl so) rfl h.2⟩
  · rename_i d _ _
    obtain ⟨v, rfl, r⟩ := dvs1 dv
    obtain ⟨xs, hx, h⟩ := h
    obtain ⟨a, ws, rfl, q, r⟩ := hx.sq so r
    exact ⟨_, _, rfl, .inl ⟨ws, q, rfl⟩, by rw [← r.length]; exact k (.int xs.length) S _ H (Go.refl so) rfl h⟩
  · exact h.elim
/-- int -/
def dInt : RCall := fun ds S Q => match ds with
  | [.int i] => Q (.int i) S
  | [.bl b] => Q (.int (if b then 1 else 0)) S
  | _ => False
theorem cd_int : CallR X (.type "int") (lcl X.K dInt) := by
  intro pins s σ H vs us Q I rv h
  obtain ⟨ds, S, R, dv, so, h, k⟩ := h
  refine call_int1 pins s σ H vs us Q I rv ?_
  unfold dInt at h
  split at h
  · rename_i i
    obtain ⟨v, rfl, r⟩ := dvs1 dv
    cases (show v = V.int i from r)
    exact .inl ⟨i, rfl, k (.int i) S _ H (Go.refl so) rfl h⟩
  · rename_i b
    obtain ⟨v, rfl, r⟩ := dvs1 dv
    cases (show v = V.bl b from r)
    exact .inr ⟨b, rfl, k (.int (if b then 1 else 0)) S _ H (Go.refl so) rfl h⟩
  · exact h.elim
/-- a built-in of whole numbers -/
def dI1 (f : Int → Int) : RCall := fun ds S Q => match ds with
  | [.int i] => Q (.int (f i)) S
  | _ => False
def dI2 (f : Int → Int → Int) : RCall := fun ds S Q => match ds with
  | [.int i, .int j] => Q (.int (f i j)) S
  | _ => False
theorem cd_I1 {u : Value} {f : Int → Int} (hc : CallR X u (fun xs H Q => ∃ i, xs = [.int i] ∧ Q (.int (f i)) H)) : CallR X u (lcl X.K (dI1 f)) := by
  intro pins s σ H vs us Q I rv h
  obtain ⟨ds, S, R, dv, so, h, k⟩ := h
  refine hc pins s σ H vs us Q I rv ?_
  unfold dI1 at h
  split at h
  · rename_i i
    obtain ⟨v, rfl, r⟩ := dvs1 dv
    cases (show v = V.int i from r)
    exact ⟨i, rfl, k (.int (f i)) S _ H (Go.refl so) rfl h⟩
  · exact h.elim
theorem cd_I2 {u : Value} {f : Int → Int → Int} (hc : CallR X u (fun xs H Q => ∃ i j, xs = [.int i, .int j] ∧ Q (.int (f i j)) H)) : CallR X u (lcl X.K (dI2 f)) := by
  intro pins s σ H vs us Q I rv h
  obtain ⟨ds, S, R, dv, so, h, k⟩ := h
  refine hc pins s σ H vs us Q I rv ?_
  unfold dI2 at h
  split at h
  · rename_i i j
    obtain ⟨v, w, rfl, r1, r2⟩ := dvs2 dv
    cases (show v = V.int i from r1)
    cases (show w = V.int j from r2)
    exact ⟨i, j, rfl, k (.int (f i j)) S _ H (Go.refl so) rfl h⟩
  · exact h.elim
def dAbs : RCall := fun ds S Q => match ds with
  | [.int i] => Q (.int (if i < 0 then -i else i)) S
  | _ => False
def dMax2 : RCall := fun ds S Q => match ds with
  | [.int i, .int j] => Q (.int (if j > i then j else i)) S
  | _ => False
def dMin2 : RCall := fun ds S Q => match ds with
  | [.int i, .int j] => Q (.int (if j < i then j else i)) S
  | _ => False
def dGcd : RCall := fun ds S Q => match ds with
  | [.int i, .int j] => Q (.int ((Nat.gcd i.natAbs j.natAbs : Nat) : Int)) S
  | _ => False
theorem cd_abs : CallR X (.builtin "abs") (lcl X.K dAbs) := cd_I1 call_abs
theorem cd_max2 (hc : X.calm = true) : CallR X (.builtin "max") (lcl X.K dMax2) := cd_I2 (call_max2 hc)
theorem cd_min2 (hc : X.calm = true) : CallR X (.builtin "min") (lcl X.K dMin2) := cd_I2 (call_min2 hc)
theorem cd_gcd : CallR X (.builtin "math.gcd") (lcl X.K dGcd) := cd_I2 cr_gcd
/-- tuple, list -/
def dTuple : RCall := fun ds S Q => match ds with
  | [.tup xs] => Q (.tup xs) S
  | [d] => ∃ xs, RdL S d xs ∧ Q (.tup xs) S
  | _ => False
theorem cd_tuple : CallR X (.type "tuple") (lcl X.K dTuple) := by
  intro pins s σ H vs us Q I rv h
  obtain ⟨ds, S, R, dv, so, h, k⟩ := h
  refine call_tuple_of pins s σ H vs us Q I rv ?_
  unfold dTuple at h
  split at h
  · rename_i xs
    obtain ⟨v, rfl, a, ws, rfl, q, r⟩ := dvs1 dv
    exact ⟨a, ws, rfl, .inr ⟨q.sq, k (.tup xs) S _ H (Go.refl so) ⟨a, ws, rfl, q, r⟩ h⟩⟩
  · rename_i d _
    obtain ⟨v, rfl, r⟩ := dvs1 dv
    obtain ⟨xs, hx, h⟩ := h
    obtain ⟨a, ws, rfl, q, r⟩ := hx.sq so r
    refine ⟨a, ws, rfl, .inl ⟨q, fun l hl => ?_⟩⟩
    have g := Go.new (o := .tup ws) so hl
    exact k (.tup xs) S _ _ g ⟨l, ws, rfl, .inl upd_same, DVs.go g _ _ r⟩ h
  · exact h.elim
def dList : RCall := fun ds S Q => match ds with
  | [.tup xs] => ∀ p, S p = none → Q (.ref p) (sup S p (.lst xs))
  | [d] => ∃ xs, RdL S d xs ∧ ∀ p, S p = none → Q (.ref p) (sup S p (.lst xs))
  | _ => False
theorem cd_list : CallR X (.type "list") (lcl X.K dList) := by
  intro pins s σ H vs us Q I rv h
  obtain ⟨ds, S, R, dv, so, h, k⟩ := h
  refine call_list_of pins s σ H vs us Q I rv ?_
  unfold dList at h
  split at h
  · rename_i xs
    obtain ⟨v, rfl, a, ws, rfl, q, r⟩ := dvs1 dv
    exact ⟨a, ws, rfl, .inr q.sq, fun l hl => k (.ref l) _ _ _ (Go.newLst so hl r) rfl (h l (so.free hl))⟩
  · rename_i d _
    obtain ⟨v, rfl, r⟩ := dvs1 dv
    obtain ⟨xs, hx, h⟩ := h
    obtain ⟨a, ws, rfl, q, r⟩ := hx.sq so r
    exact ⟨a, ws, rfl, .inl q, fun l hl => k (.ref l) _ _ _ (Go.newLst so hl r) rfl (h l (so.free hl))⟩
  · exact h.elim
/-- sum, all, any of a list -/
def dSum : RCall := fun ds S Q => match ds with
  | [d] => ∃ ns : List Int, RdL S d (ns.map D.int) ∧ Q (.int ns.sum) S
  | _ => False
theorem cd_sum (hc : X.calm = true) : CallR X (.builtin "sum") (lcl X.K dSum) := by
  intro pins s σ H vs us Q I rv h
  obtain ⟨ds, S, R, dv, so, h, k⟩ := h
  refine cr_sum hc pins s σ H vs us Q I rv ?_
  unfold dSum at h
  split at h
  · rename_i d
    obtain ⟨v, rfl, r⟩ := dvs1 dv
    obtain ⟨ns, hx, h⟩ := h
    obtain ⟨a, ws, rfl, q, r⟩ := hx.sq so r
    rw [DVs.ints r] at q
    exact ⟨a, ns, rfl, q, k (.int ns.sum) S _ H (Go.refl so) rfl h⟩
  · exact h.elim
def dAll : RCall := fun ds S Q => match ds with
  | [d] => ∃ bs : List Bool, RdL S d (bs.map D.bl) ∧ Q (.bl (bs.all id)) S
  | _ => False
def dAny : RCall := fun ds S Q => match ds with
  | [d] => ∃ bs : List Bool, RdL S d (bs.map D.bl) ∧ Q (.bl (bs.any id)) S
  | _ => False
theorem cd_all (hc : X.calm = true) : CallR X (.builtin "all") (lcl X.K dAll) := by
  intro pins s σ H vs us Q I rv h
  obtain ⟨ds, S, R, dv, so, h, k⟩ := h
  refine cr_all hc pins s σ H vs us Q I rv ?_
  unfold dAll at h
  split at h
  · rename_i d
    obtain ⟨v, rfl, r⟩ := dvs1 dv
    obtain ⟨ns, hx, h⟩ := h
    obtain ⟨a, ws, rfl, q, r⟩ := hx.sq so r
    rw [DVs.bls r] at q
    exact ⟨a, ns, rfl, q, k (.bl (ns.all id)) S _ H (Go.refl so) rfl h⟩
  · exact h.elim
theorem cd_any (hc : X.calm = true) : CallR X (.builtin "any") (lcl X.K dAny) := by
  intro pins s σ H vs us Q I rv h
  obtain ⟨ds, S, R, dv, so, h, k⟩ := h
  refine cr_any hc pins s σ H vs us Q I rv ?_
  unfold dAny at h
  split at h
  · rename_i d
    obtain ⟨v, rfl, r⟩ := dvs1 dv
    obtain ⟨ns, hx, h⟩ := h
    obtain ⟨a, ws, rfl, q, r⟩ := hx.sq so r
    rw [DVs.bls r] at q
    exact ⟨a, ns, rfl, q, k (.bl (ns.any id)) S _ H (Go.refl so) rfl h⟩
  · exact h.elim

/-! ### isinstance -/
inductive Ty where
  | int | bool | none | str | tup | lst | dct
  deriving DecidableEq
def Ty.nm : Ty → String
  | .int => "int" | .bool => "bool" | .none => "NoneType" | .str => "str" | .tup => "tuple" | .lst => "list" | .dct => "dict"
def isi : Ty → Ty → Bool
  | .int, .int => true | .bool, .bool => true | .bool, .int => true | .none, .none => true | .str, .str => true | .tup, .tup => true | .lst, .lst => true | .dct, .dct => true
  | _, _ => false
theorem isi_kit : ∀ t c : Ty, kitB t.nm c.nm = some (isi t c) := by
  intro t c
  cases t <;> cases c <;> decide +kernel
def dTy : D → Sto → (Ty → Prop) → Prop
  | .non, _, k => k .none
  | .bl _, _, k => k .bool
  | .int _, _, k => k .int
  | .str _, _, k => k .str
  | .tup _, _, k => k .tup
  | .fro _, _, k => k .lst
  | .ref a, S, k => (∃ xs, S a = some (.lst xs) ∧ k .lst) ∨ ∃ kvs, S a = some (.dK kvs) ∧ k .dct
  | _, _, _ => False
theorem dTy_of {K : PySem.W.Frag} {H : Hp} {S : Sto} (so : SOk K H S) : ∀ {d : D} {v : V} {k : Ty → Prop}, DV K H d v → dTy d S k → ∃ t : Ty, TyX K H v (.type t.nm) ∧ k t
  | .non, _, _, h, q => by cases (show _ = V.non from h); exact ⟨.none, .base .non, q⟩
  | .bl b, _, _, h, q => by cases (show _ = V.bl b from h); exact ⟨.bool, .base (.bl b), q⟩
  | .int b, _, _, h, q => by cases (show _ = V.int b from h); exact ⟨.int, .base (.int b), q⟩
  | .str b, _, _, h, q => by cases (show _ = V.str b from h); exact ⟨.str, .base (.str b), q⟩
  | .tup b, _, _, h, q => by
    obtain ⟨a, vs, rfl, e, _⟩ := h
    rcases e with e | ⟨o, its, n, e, c, _⟩
    · exact ⟨.tup, .base (.tup e), q⟩
    · exact ⟨.tup, .kTuple e c, q⟩
  | .fro b, _, _, h, q => by
    obtain ⟨a, vs, rfl, e, _⟩ := h
    rcases e with ⟨o, e⟩ | ⟨o, its, n, e, c, _⟩
    · exact ⟨.lst, .base (.frz e), q⟩
    · exact ⟨.lst, .kList e c, q⟩
  | .ref a, _, _, h, q => by
    cases (show _ = V.ref a from h)
    rcases q with ⟨xs, e, q⟩ | ⟨xs, e, q⟩
    · obtain ⟨vs, e1, _⟩ := so a _ e
      exact ⟨.lst, .base (.lst e1), q⟩
    · obtain ⟨vs, e1, _⟩ := so a _ e
      exact ⟨.dct, .base (.dK e1), q⟩
  | .ty _, _, _, _, q => q.elim
  | .exc _ _, _, _, _, q => q.elim
/-- a class's name as a value -/
theorem pd_ty {x : Str} {c : Ty} {pos : Pos} (hm : X.mg x = none) (hv : bootBuiltins x = some (.type c.nm)) (hg : Gl X x := by rfl) (hn : x ≠ "__name__" := by decide) (hd : (x == ("__debug__" : Str)) = false := by decide) : PD X y (.Name x pos) (rC (.ty c.nm)) :=
  pd_c (pe_bltn (v := .ty c.nm) hg hm hv rfl hn hd) fun _ => rfl
def dIsi : RCall := fun ds S Q => match ds with
  | [d, .ty n] => ∀ c : Ty, c.nm = n → dTy d S fun t => Q (.bl (isi t c)) S
  | [d, .tup [.ty n, .ty m]] => ∀ c c' : Ty, c.nm = n → c'.nm = m → dTy d S fun t => Q (.bl (isi t c || isi t c')) S
  | _ => False
end
end DL
set_option Elab.async false
set_option linter.all false
set_option maxRecDepth 100000
set_option maxHeartbeats 4000000
namespace DL
open PySem PySem.Spec PyProof.Rows L2
section
variable {X : Cx} {y : DXw} {pos p p2 apos : Pos} {e a b o : Expr} {es : List Expr} {x : Str} {ta : RA} {te ti to : RE}

/-! ### isinstance -/
def rIs1 (c : Ty) (te : RE) : RE := fun ρ S Q => te ρ S fun d S1 => dTy d S1 fun t => Q (.bl (isi t c)) S1
def rIs2 (c c' : Ty) (te : RE) : RE := fun ρ S Q => te ρ S fun d S1 => dTy d S1 fun t => Q (.bl (isi t c || isi t c')) S1
theorem pd_isi1 (c : Ty) {cn : Str} (he : PD X y e te) (hm : X.mg "isinstance" = none) (hmc : X.mg cn = none) (hvc : bootBuiltins cn = some (.type c.nm) := by decide +kernel) (hg : Gl X "isinstance" := by rfl) (hgc : Gl X cn := by rfl) (hn : cn ≠ "__name__" := by decide) (hdb : (cn == ("__debug__" : Str)) = false := by decide)
    (h1 : starEach [e, .Name cn p2] X.env = (false, eval e X.env) :: starEach [.Name cn p2] X.env := by rfl) (h2 : starEach [.Name cn p2] X.env = (false, eval (.Name cn p2) X.env) :: starEach [] X.env := by rfl) (hpl : (backTo pos (starEach [.Name cn p2] X.env)).any (·.1) = false := by rfl) :
    PD X y (.Call (.Name "isinstance" p) [e, .Name cn p2] [] pos) (rIs1 c te) := by
  refine PD.of (pe_callB call_isi hg hm (by decide +kernel) (pa_cons he (pa_cons (pe_bltn (v := .ty c.nm) hgc hmc hvc rfl hn hdb) pa_nil h2) h1) (by decide) (by decide) h1 hpl) fun σ H Q h => ?_
  obtain ⟨ρ, S, R, sr, so, h, k⟩ := h
  refine ⟨ρ, S, _, sr, so, h, fun d S1 v H1 g dv hd => ?_⟩
  obtain ⟨t, ht, q⟩ := dTy_of g.ok dv hd
  exact ⟨v, .ty c.nm, .type t.nm, .type c.nm, _, rfl, .ty _, ht, kit_ty (isi_kit t c), k (.bl (isi t c)) S1 _ H1 g rfl q⟩
theorem pd_isi2 (c c' : Ty) {cn cn' : Str} {kk : Nat} {p3 p4 : Pos} (he : PD X y e te) (hm : X.mg "isinstance" = none) (hmc : X.mg cn = none) (hmc' : X.mg cn' = none) (hvc : bootBuiltins cn = some (.type c.nm) := by decide +kernel) (hvc' : bootBuiltins cn' = some (.type c'.nm) := by decide +kernel) (hg : Gl X "isinstance" := by rfl) (hgc : Gl X cn := by rfl) (hgc' : Gl X cn' := by rfl) (hn : cn ≠ "__name__" := by decide) (hdb : (cn == ("__debug__" : Str)) = false := by decide) (hn' : cn' ≠ "__name__" := by decide) (hdb' : (cn' == ("__debug__" : Str)) = false := by decide)
    (h1 : starEach [e, .Tuple [.Name cn p2, .Name cn' p3] kk p4] X.env = (false, eval e X.env) :: starEach [.Tuple [.Name cn p2, .Name cn' p3] kk p4] X.env := by rfl) (h2 : starEach [.Tuple [.Name cn p2, .Name cn' p3] kk p4] X.env = (false, eval (.Tuple [.Name cn p2, .Name cn' p3] kk p4) X.env) :: starEach [] X.env := by rfl) (hpl : (backTo pos (starEach [.Tuple [.Name cn p2, .Name cn' p3] kk p4] X.env)).any (·.1) = false := by rfl)
    (h3 : starEach [.Name cn p2, .Name cn' p3] X.env = (false, eval (.Name cn p2) X.env) :: starEach [.Name cn' p3] X.env := by rfl) (h4 : starEach [.Name cn' p3] X.env = (false, eval (.Name cn' p3) X.env) :: starEach [] X.env := by rfl) :
    PD X y (.Call (.Name "isinstance" p) [e, .Tuple [.Name cn p2, .Name cn' p3] kk p4] [] pos) (rIs2 c c' te) := by
  refine PD.of (pe_callB call_isiT hg hm (by decide +kernel) (pa_cons he (pa_cons (pe_tup (pa_cons (pe_bltn (v := .ty c.nm) hgc hmc hvc rfl hn hdb) (pa_cons (pe_bltn (v := .ty c'.nm) hgc' hmc' hvc' rfl hn' hdb') pa_nil h4) h3)) pa_nil h2) h1) (by decide) (by decide) h1 hpl) fun σ H Q h => ?_
  obtain ⟨ρ, S, R, sr, so, h, k⟩ := h
  refine ⟨ρ, S, _, sr, so, h, fun d S1 v H1 g dv hd => ?_⟩
  refine ⟨by show 2 ≤ sizeLine; decide, fun q hq => ?_⟩
  have g2 := Go.new (K := X.K) (o := .tup [.ty c.nm, .ty c'.nm]) g.ok hq
  obtain ⟨t, ht, hr⟩ := dTy_of g2.ok (DV.go g2 _ _ dv) hd
  refine ⟨v, q, [.ty c.nm, .ty c'.nm], .type t.nm, [.type c.nm, .type c'.nm], isi t c || isi t c', rfl, upd_same, .cons (.ty _) (.cons (.ty _) .nil), ht, ?_, k (.bl (isi t c || isi t c')) S1 _ _ (g.trans g2) rfl hr⟩
  refine kitAny_cons (kit_ty (isi_kit t c)) (fun z => ?_) fun z => by rw [z]; rfl
  rw [z, Bool.false_or]
  exact kitAny_cons (kit_ty (isi_kit t c')) (fun z => by rw [z]; exact kitAny_nil) fun z => z

/-! ### items -/
def dIx : ROp
  | .tup xs, .int i, S, R => ∃ d, atI xs i = some d ∧ R d S
  | .str x, .int i, S, R => ∃ c, x.length ≤ sizeLine ∧ atI x.cps.toList i = some c ∧ R (.str ⟨#[c]⟩) S
  | d, .int i, S, R => ∃ xs v, RdL S d xs ∧ atI xs i = some v ∧ R v S
  | _, _, _, _ => False
theorem atI_dv {K : PySem.W.Frag} {H : Hp} {xs : List D} {vs : List V} {i : Int} {d : D} (r : DVs K H xs vs) (h : atI xs i = some d) : ∃ v, atI vs i = some v ∧ DV K H d v := by
  unfold atI at h ⊢
  rw [← r.length]
  cases e : ixN xs.length i with
  | none => rw [e] at h; cases h
  | some j =>
    rw [e] at h
    exact r.get h
theorem dIx_case {x y : D} {S : Sto} {R : D → Sto → Prop} (h : dIx x y S R) : ∃ i, y = .int i ∧ ((∃ xs d, x = .tup xs ∧ atI xs i = some d ∧ R d S) ∨ (∃ z c, x = .str z ∧ z.length ≤ sizeLine ∧ atI z.cps.toList i = some c ∧ R (.str ⟨#[c]⟩) S) ∨ ∃ xs v, RdL S x xs ∧ atI xs i = some v ∧ R v S) := by
  cases y with
  | int i =>
    refine ⟨i, rfl, ?_⟩
    cases x with
    | tup xs => obtain ⟨d, h1, h2⟩ := (show ∃ d, atI xs i = some d ∧ R d S from h); exact .inl ⟨xs, d, rfl, h1, h2⟩
    | str z => obtain ⟨c, h1, h2, h3⟩ := (show ∃ c, z.length ≤ sizeLine ∧ atI z.cps.toList i = some c ∧ R (.str ⟨#[c]⟩) S from h); exact .inr (.inl ⟨z, c, rfl, h1, h2, h3⟩)
    | _ => exact .inr (.inr h)
  | _ => cases x <;> exact False.elim h
theorem id_seq : IxR X (lop X.K dIx) := by
  intro value slice pins s σ H v w vv ww Q I rv rw' h hs
  obtain ⟨x, z, S, R, dx, dz, so, h, k⟩ := h
  obtain ⟨i, rfl, hc⟩ := dIx_case h
  cases (show w = V.int i from dz)
  refine ix_seq value slice pins s σ H _ _ vv ww Q I rv rw' ?_ hs
  rcases hc with ⟨xs, d, rfl, e, h⟩ | ⟨z, c, rfl, hl, e, h⟩ | ⟨xs, d, hx, e, h⟩
  · obtain ⟨a, vs, rfl, q, r⟩ := dx
    obtain ⟨u, e2, r2⟩ := atI_dv r e
    exact .inr (.inl ⟨a, vs, i, u, rfl, rfl, q.sq, e2, k d S _ H (Go.refl so) r2 h⟩)
  · cases (show v = V.str z from dx)
    exact .inr (.inr ⟨z, i, c, rfl, rfl, hl, e, k (.str ⟨#[c]⟩) S _ H (Go.refl so) rfl h⟩)
  · obtain ⟨a, vs, rfl, q, r⟩ := hx.sq so dx
    obtain ⟨u, e2, r2⟩ := atI_dv r e
    exact .inl ⟨a, vs, i, u, rfl, rfl, q, e2, k d S _ H (Go.refl so) r2 h⟩
theorem pd_ix (ha : PD X y a te) (hb : PD X y b ti) (hs : PlainIx b := by exact fun _ _ => rfl) : PD X y (.Subscript a b pos) (rBin dIx te ti) :=
  PD.of (pe_ix id_seq ha hb hs) fun _ _ _ h => bin_of (fun _ _ _ _ z => z) h
/-- xs[i] = v -/
def dSet : RSet := fun o i v S R => match o, i with
  | .ref a, .int k => ∃ xs j, S a = some (.lst xs) ∧ ixN xs.length k = some j ∧ R (sup S a (.lst (xs.set j v)))
  | _, _ => False
theorem sd_list : PSet X (lset X.K dSet) := by
  intro pins s σ H o i v ov iv u Q I ro ri rv h
  obtain ⟨x, k, d, S, R, dx, dk, dv, so, h, c⟩ := h
  refine set_list pins s σ H o i v ov iv u Q I ro ri rv ?_
  cases x <;> cases k <;> first | exact False.elim h | skip
  case ref.int a j =>
    cases (show o = V.ref a from dx); cases (show i = V.int j from dk)
    obtain ⟨xs, m, e, hj, h⟩ := h
    obtain ⟨vs, e1, r⟩ := so a _ e
    exact ⟨a, vs, j, m, rfl, rfl, e1, by rw [← r.length]; exact hj, c _ _ (Go.setLst so e (r.set m dv)) h⟩

/-! ### slices -/
abbrev RO := Ro → Sto → (Option Int → Sto → Prop) → Prop
def lO (K : PySem.W.Frag) (y : DXw) (t : RO) : TO := fun σ H Q => ∃ ρ S R, SRv K σ H ρ ∧ SX K y H S ∧ t ρ S R ∧ ∀ i S' H', Go K H S H' S' → R i S' → Q i H'
def PDO (X : Cx) (y : DXw) (e : Option Expr) (t : RO) : Prop := PO X e (lO X.K y t)
def rNoP : RO := fun _ S Q => Q none S
def rPart (t : RE) : RO := fun ρ S Q => t ρ S fun d S1 => match d with
  | .int i => Q (some i) S1
  | _ => False
theorem pdo_none : PDO X y none rNoP := ⟨fun pins s σ H Q I h => by
  obtain ⟨ρ, S, R, sr, so, h, k⟩ := h
  exact po_none.run pins s σ H Q I (k none S H (Go.refl so.so) h)⟩
theorem pdo_some (h : PD X y e te) : PDO X y (some e) (rPart te) := ⟨fun pins s σ H Q I q => by
  refine (po_some h).run pins s σ H Q I ?_
  obtain ⟨ρ, S, R, sr, so, h, k⟩ := q
  refine ⟨ρ, S, _, sr, so, h, fun d S' v H' g dv hd => ?_⟩
  cases d with
  | int i => exact ⟨i, dv, k (some i) S' H' g hd⟩
  | _ => exact False.elim hd⟩
def cutD (xs : List D) (lo hi : Option Int) : List D := (xs.drop (HT.sIx xs.length 0 lo)).take (HT.sIx xs.length xs.length hi - HT.sIx xs.length 0 lo)
theorem cutD_dv {K : PySem.W.Frag} {H : Hp} {xs : List D} {vs : List V} (r : DVs K H xs vs) (lo hi : Option Int) : DVs K H (cutD xs lo hi) (cutV vs lo hi) := by
  unfold cutD cutV
  rw [← r.length]
  exact (r.drop _).take _
abbrev RSl := D → Option Int → Option Int → Sto → (D → Sto → Prop) → Prop
def dSl : RSl := fun d lo hi S R => match d with
  | .tup xs => R (.tup (cutD xs lo hi)) S
  | _ => ∃ xs, RdL S d xs ∧ ∀ p, S p = none → R (.ref p) (sup S p (.lst (cutD xs lo hi)))
def lsl (K : PySem.W.Frag) (q : RSl) : V → Option Int → Option Int → Hp → VK → Prop := fun v lo hi H Q => ∃ d S R, DV K H d v ∧ SOk K H S ∧ q d lo hi S R ∧ ∀ d S' z H', Go K H S H' S' → DV K H' d z → R d S' → Q z H'
theorem sd_sl : SlR X (lsl X.K dSl) := by
  have lst : ∀ {d : D} {lo hi : Option Int} {v : V} {S : Sto} {H : Hp} {R : D → Sto → Prop} {Q : VK}, SOk X.K H S → DV X.K H d v → (∃ xs, RdL S d xs ∧ ∀ p, S p = none → R (.ref p) (sup S p (.lst (cutD xs lo hi)))) → (∀ d S' z H', Go X.K H S H' S' → DV X.K H' d z → R d S' → Q z H') → rSlL X.K v lo hi H Q := fun so dv ⟨xs, hx, h⟩ k => by
    obtain ⟨a, vs, rfl, q, r⟩ := hx.sq so dv
    exact ⟨a, vs, rfl, q, fun p hp => k (.ref p) _ _ _ (Go.newLst so hp (cutD_dv r _ _)) rfl (h p (so.free hp))⟩
  intro pins s σ H x v vl vu lo hi sl Q I rx hs pl pu h
  obtain ⟨d, S, R, dv, so, h, k⟩ := h
  refine ((sl_tupA (X := X)).or (sl_list (X := X))) pins s σ H x v vl vu lo hi sl Q I rx hs pl pu ?_
  cases d with
  | tup xs =>
    obtain ⟨a, vs, rfl, q, r⟩ := dv
    have h : R (.tup (cutD xs lo hi)) S := h
    refine .inl ⟨a, vs, rfl, q.sq, fun hw => ?_, fun _ p hp => ?_⟩
    · have e : cutD xs lo hi = xs := by
        unfold cutD
        rw [r.length, hw.1, hw.2, ← r.length]
        simp
      rw [e] at h
      exact k (.tup xs) S _ H (Go.refl so) ⟨a, vs, rfl, q, r⟩ h
    · have g := Go.new (K := X.K) (o := .tup (cutV vs lo hi)) so hp
      exact k (.tup (cutD xs lo hi)) S _ _ g ⟨p, _, rfl, .inl upd_same, DVs.go g _ _ (cutD_dv r _ _)⟩ h
  | _ => exact .inr (lst so dv h k)
def rSl (te : RE) (tl th : RO) : RE := fun ρ S Q => te ρ S fun d S1 => tl ρ S1 fun l S2 => th ρ S2 fun u S3 => dSl d l u S3 Q
theorem pd_slice {lo hi : Option Expr} {tl th : RO} (he : PD X y e te) (hl : PDO X y lo tl) (hu : PDO X y hi th) : PD X y (.Subscript e (.Slice lo hi none p2) pos) (rSl te tl th) := by
  refine PD.of (pe_slice sd_sl he hl hu) fun σ H Q h => ?_
  obtain ⟨ρ, S, R, sr, so, h, k⟩ := h
  refine ⟨ρ, S, _, sr, so, h, fun d S1 v H1 g1 dv h1 => ⟨ρ, S1, _, sr.go g1, so.go g1, h1, fun l S2 H2 g2 h2 => ⟨ρ, S2, _, (sr.go g1).go g2, (so.go g1).go g2, h2, fun u S3 H3 g3 h3 => ?_⟩⟩⟩
  exact ⟨d, S3, R, DV.go (g2.trans g3) _ _ dv, g3.ok, h3, fun d S' z H' g dz hz => k d S' z H' (g1.trans (g2.trans (g3.trans g))) dz hz⟩

/-! ### methods of lists -/
abbrev RMt := D → List D → Sto → (D → Sto → Prop) → Prop
def isL : D → Sto → Prop
  | .ref a, S => ∃ xs, S a = some (.lst xs)
  | _, _ => False
def lmt (K : PySem.W.Frag) (q : RMt) : V → List V → Hp → VK → Prop := fun v vs H Q => ∃ d ds S R, DV K H d v ∧ DVs K H ds vs ∧ SOk K H S ∧ q d ds S R ∧ ∀ d S' z H', Go K H S H' S' → DV K H' d z → R d S' → Q z H'
def rBM (q : RMt) (to : RE) (ta : RA) : RE := fun ρ S Q => to ρ S fun o S1 => isL o S1 ∧ ta ρ S1 fun ds S2 => q o ds S2 Q
def rBM0 (q : RMt) (to : RE) : RE := fun ρ S Q => to ρ S fun o S1 => isL o S1 ∧ q o [] S1 Q
theorem isL_ty {K : PySem.W.Frag} {H : Hp} {S : Sto} (so : SOk K H S) {d : D} {v : V} (dv : DV K H d v) (h : isL d S) : tyV K "list" v H := by
  cases d with
  | ref a =>
    cases (show v = V.ref a from dv)
    obtain ⟨xs, e⟩ := h
    obtain ⟨vs, e1, _⟩ := so a _ e
    exact .inl ⟨rfl, vs, SqL.of e1⟩
  | _ => exact False.elim h
variable {name : Str} {id : String} {cpos : Pos}
theorem pd_lm {q : RMt} (slot : Slot "list" name id) (hty : typeOf (.builtin id) = pure (.type "method_descriptor")) (hm : MtR X id (lmt X.K q)) (ho : PD X y o to) (ha : PDA X y (e :: es) ta)
    (hbase : attributeBase o name X.env (eval o X.env) = eval o X.env := by rfl)
    (hfew : ((backTo cpos (starEach (e :: es) X.env)).all (fun x => !x.1) && (backToKw cpos (keywordEach [] X.env)).all (fun x => x.1.isSome)
      && decide ((e :: es).length + ([] : List Keyword).length + (if ([] : List Keyword).isEmpty then 0 else 1) < 30)) = true := by rfl)
    (hline : (apos.endLine == cpos.line) = true := by rfl) (hs : starEach (e :: es) X.env = (false, eval e X.env) :: starEach es X.env := by rfl) (hplain : (backTo cpos (starEach es X.env)).any (·.1) = false := by rfl) :
    PD X y (.Call (.Attribute o name apos) (e :: es) [] cpos) (rBM q to ta) :=
  PD.of (pe_bm PySem.F.plainAttrs_list slot hty hm ho ha hbase hfew hline hs hplain) fun σ H Q h => by
    obtain ⟨ρ, S, R, sr, so, h, k⟩ := h
    refine ⟨ρ, S, _, sr, so, h, fun d S1 v H1 g1 dv h1 => ⟨isL_ty g1.ok dv h1.1, ρ, S1, _, sr.go g1, so.go g1, h1.2, fun ds S2 vs H2 g2 dvs hn h2 => ?_⟩⟩
    exact ⟨d, ds, S2, R, DV.go g2 _ _ dv, dvs, g2.ok, h2, fun d S' z H' g dz hz => k d S' z H' (g1.trans (g2.trans g)) dz hz⟩
theorem pd_lm0 {q : RMt} (slot : Slot "list" name id) (hty : typeOf (.builtin id) = pure (.type "method_descriptor")) (hm : MtR X id (lmt X.K q)) (ho : PD X y o to)
    (hbase : attributeBase o name X.env (eval o X.env) = eval o X.env := by rfl) (hline : (apos.endLine == cpos.line) = true := by rfl) : PD X y (.Call (.Attribute o name apos) [] [] cpos) (rBM0 q to) :=
  PD.of (pe_bm0 PySem.F.plainAttrs_list slot hty hm ho hbase hline) fun σ H Q h => by
    obtain ⟨ρ, S, R, sr, so, h, k⟩ := h
    refine ⟨ρ, S, _, sr, so, h, fun d S1 v H1 g1 dv h1 => ⟨isL_ty g1.ok dv h1.1, ?_⟩⟩
    exact ⟨d, [], S1, R, dv, DVs.nil, g1.ok, h1.2, fun d S' z H' g dz hz => k d S' z H' (g1.trans g) dz hz⟩
def dAppend : RMt := fun o ds S R => match o, ds with
  | .ref a, [d] => ∃ xs, S a = some (.lst xs) ∧ xs.length < sizeLine ∧ R .non (sup S a (.lst (xs ++ [d])))
  | _, _ => False
theorem md_append : MtR X "list.append" (lmt X.K dAppend) := by
  intro pins s σ H v vs vv us Q I rv rs h
  obtain ⟨o, ds, S, R, dv, dvs, so, h, k⟩ := h
  refine mt_append pins s σ H v vs vv us Q I rv rs ?_
  unfold dAppend at h
  split at h
  · rename_i a d
    cases (show v = V.ref a from dv)
    obtain ⟨w, rfl, dw⟩ := dvs1 dvs
    obtain ⟨xs, e, hl, h⟩ := h
    obtain ⟨ws, e1, r⟩ := so a _ e
    exact ⟨a, ws, w, rfl, rfl, e1, by rw [← r.length]; exact hl, k .non _ _ _ (Go.setLst so e (r.append (DVs.cons dw DVs.nil))) rfl h⟩
  · exact h.elim
def dInsert : RMt := fun o ds S R => match o, ds with
  | .ref a, [.int i, d] => ∃ xs, S a = some (.lst xs) ∧ xs.length < sizeLine ∧ 0 ≤ i ∧ i < 2 ^ 63 ∧ R .non (sup S a (.lst (xs.take i.toNat ++ [d] ++ xs.drop i.toNat)))
  | _, _ => False
theorem md_insert : MtR X "list.insert" (lmt X.K dInsert) := by
  intro pins s σ H v vs vv us Q I rv rs h
  obtain ⟨o, ds, S, R, dv, dvs, so, h, k⟩ := h
  refine mt_insert pins s σ H v vs vv us Q I rv rs ?_
  unfold dInsert at h
  split at h
  · rename_i a i d
    cases (show v = V.ref a from dv)
    obtain ⟨w, w2, rfl, dw, dw2⟩ := dvs2 dvs
    cases (show w = V.int i from dw)
    obtain ⟨xs, e, hl, h0, h1, h⟩ := h
    obtain ⟨ws, e1, r⟩ := so a _ e
    exact ⟨a, ws, i, w2, rfl, rfl, e1, by rw [← r.length]; exact hl, h0, h1, k .non _ _ _ (Go.setLst so e (((r.take _).append (DVs.cons dw2 DVs.nil)).append (r.drop _))) rfl h⟩
  · exact h.elim
def dExtend : RMt := fun o ds S R => match o, ds with
  | .ref a, [.ref b] => ∃ xs zs, S a = some (.lst xs) ∧ S b = some (.lst zs) ∧ xs.length + zs.length ≤ sizeLine ∧ R .non (sup S a (.lst (xs ++ zs)))
  | _, _ => False
theorem md_extend : MtR X "list.extend" (lmt X.K dExtend) := by
  intro pins s σ H v vs vv us Q I rv rs h
  obtain ⟨o, ds, S, R, dv, dvs, so, h, k⟩ := h
  refine mt_extend pins s σ H v vs vv us Q I rv rs ?_
  unfold dExtend at h
  split at h
  · rename_i a b
    cases (show v = V.ref a from dv)
    obtain ⟨w, rfl, dw⟩ := dvs1 dvs
    cases (show w = V.ref b from dw)
    obtain ⟨xs, zs, e, e', hl, h⟩ := h
    obtain ⟨ws, e1, r⟩ := so a _ e
    obtain ⟨ws', e1', r'⟩ := so b _ e'
    exact ⟨a, b, ws, ws', rfl, rfl, e1, e1', by rw [← r.length, ← r'.length]; exact hl, k .non _ _ _ (Go.setLst so e (r.append r')) rfl h⟩
  · exact h.elim
end
end DL
set_option Elab.async false
set_option linter.all false
set_option maxRecDepth 100000
set_option maxHeartbeats 4000000
namespace DL
open PySem PySem.Spec PyProof.Rows L2
section
variable {X : Cx} {y : DXw} {pos p p2 pos' apos : Pos} {e a b o i value : Expr} {es : List Expr} {x : Str} {ta : RA} {te ti to td tv : RE}

/-! ### flat values in lists and tuples -/
def fl : D → V
  | .non => .non | .bl b => .bl b | .int i => .int i | .str x => .str x | _ => .ref 0
def fb : D → Bool
  | .non => true | .bl _ => true | .int _ => true | .str _ => true | _ => false
theorem fl_of {K : PySem.W.Frag} {H : Hp} {d : D} {v : V} (h : fb d = true) (dv : DV K H d v) : v = fl d ∧ flatV v = true := by
  cases d with
  | non => cases (show v = V.non from dv); exact ⟨rfl, rfl⟩
  | bl b => cases (show v = V.bl b from dv); exact ⟨rfl, rfl⟩
  | int b => cases (show v = V.int b from dv); exact ⟨rfl, rfl⟩
  | str b => cases (show v = V.str b from dv); exact ⟨rfl, rfl⟩
  | _ => cases h
theorem fls_of {K : PySem.W.Frag} {H : Hp} : ∀ {ds : List D} {vs : List V}, ds.all fb = true → DVs K H ds vs → vs = ds.map fl ∧ vs.all flatV = true
  | [], _, _, h => by cases (show _ = [] from h); exact ⟨rfl, rfl⟩
  | d :: ds, _, f, h => by
    obtain ⟨v, ws, rfl, r, q⟩ := h
    rw [List.all_cons, Bool.and_eq_true] at f
    obtain ⟨e1, f1⟩ := fl_of f.1 r
    obtain ⟨e2, f2⟩ := fls_of f.2 q
    exact ⟨by rw [e1, e2, List.map_cons], by rw [List.all_cons, f1, f2]; rfl⟩
def inD (x : D) (xs : List D) : Bool := inV (fl x) (xs.map fl)
def dIn (n : Bool) : ROp := fun x c S R => match c with
  | .tup xs => fb x = true ∧ xs.all fb = true ∧ R (.bl (if n then !inD x xs else inD x xs)) S
  | _ => ∃ xs, RdL S c xs ∧ fb x = true ∧ xs.all fb = true ∧ R (.bl (if n then !inD x xs else inD x xs)) S
theorem dIn_of {n : Bool} {x c : D} {S : Sto} {R : D → Sto → Prop} {H : Hp} {v w : V} {Q : VK} (so : SOk X.K H S) (dx : DV X.K H x v) (dc : DV X.K H c w) (h : dIn n x c S R) (k : ∀ d S' z H', Go X.K H S H' S' → DV X.K H' d z → R d S' → Q z H') : rIn X.K n v w H Q := by
  have fin : ∀ {a : Addr} {xs : List D} {vs : List V}, w = .ref a → (SqL X.K H a vs ∨ SqT X.K H a vs) → DVs X.K H xs vs → fb x = true → xs.all fb = true → R (.bl (if n then !inD x xs else inD x xs)) S → rIn X.K n v w H Q := fun {a xs vs} e q r f1 f2 h => by
    obtain ⟨e1, g1⟩ := fl_of f1 dx
    obtain ⟨e2, g2⟩ := fls_of f2 r
    refine ⟨a, vs, e, q, g1, g2, ?_⟩
    rw [e1, e2]
    exact k (.bl (if n then !inD x xs else inD x xs)) S _ H (Go.refl so) rfl h
  cases c with
  | tup xs =>
    obtain ⟨a, vs, e, q, r⟩ := dc
    exact fin e (.inr q.sq) r h.1 h.2.1 h.2.2
  | _ =>
    obtain ⟨xs, hx, f1, f2, h⟩ := h
    obtain ⟨a, vs, e, q, r⟩ := hx.sq so dc
    exact fin e (.inl q) r f1 f2 h
theorem od_in : OpR X (compareOp .In) (lop X.K (dIn false)) := by
  intro pins s σ H v w vv ww Q I rv rw' h
  obtain ⟨x, y, S, R, dx, dy, so, h, k⟩ := h
  exact op_in_seq pins s σ H v w vv ww Q I rv rw' (dIn_of so dx dy h k)
theorem od_notin : OpR X (compareOp .NotIn) (lop X.K (dIn true)) := by
  intro pins s σ H v w vv ww Q I rv rw' h
  obtain ⟨x, y, S, R, dx, dy, so, h, k⟩ := h
  exact op_notIn_seq pins s σ H v w vv ww Q I rv rw' (dIn_of so dx dy h k)

/-! ### dicts by ints and texts -/
def dkey : Key → D
  | .inl i => .int i
  | .inr x => .str x
def keyD : D → Option Key
  | .int i => some (.inl i)
  | .str x => some (.inr x)
  | _ => none
theorem keyD_v {K : PySem.W.Frag} {H : Hp} {d : D} {v : V} {k : Key} (h : keyD d = some k) (dv : DV K H d v) : v = kV k := by
  cases d with
  | int i => cases h; exact dv
  | str i => cases h; exact dv
  | _ => cases h
def dval (kvs : List (Key × D)) (k : Key) : Option D := (kvs.find? fun kv => decide (kv.1 = k)).map (·.2)
def dput (kvs : List (Key × D)) (k : Key) (v : D) : List (Key × D) := if kvs.any (fun kv => decide (kv.1 = k)) then kvs.map (fun kv => if kv.1 = k then (kv.1, v) else kv) else kvs ++ [(k, v)]
theorem DKs.val {K : PySem.W.Frag} {H : Hp} {ds : List (Key × D)} {vs : List (Key × V)} (h : DKs K H ds vs) (k : Key) : (dval ds k).isSome = (valV vs k).isSome ∧ ∀ d, dval ds k = some d → ∃ v, valV vs k = some v ∧ DV K H d v := by
  induction h with
  | nil => exact ⟨rfl, fun _ e => by cases e⟩
  | @cons k' d v ds vs r _ ih =>
    by_cases e : k' = k
    · subst e
      refine ⟨by simp [dval, valV, List.find?_cons], fun d' h => ⟨v, by simp [valV, List.find?_cons], ?_⟩⟩
      have : d = d' := by simpa [dval, List.find?_cons] using h
      rw [← this]; exact r
    · have e1 : dval ((k', d) :: ds) k = dval ds k := by simp [dval, List.find?_cons, e]
      have e2 : valV ((k', v) :: vs) k = valV vs k := valV_neg e
      rw [e1, e2]
      exact ih
theorem DKs.any {K : PySem.W.Frag} {H : Hp} {ds : List (Key × D)} {vs : List (Key × V)} (h : DKs K H ds vs) (k : Key) : (ds.any fun kv => decide (kv.1 = k)) = vs.any fun kv => decide (kv.1 = k) := by
  induction h with
  | nil => rfl
  | cons _ _ ih => rw [List.any_cons, List.any_cons, ih]
theorem DKs.append {K : PySem.W.Frag} {H : Hp} {ds : List (Key × D)} {vs : List (Key × V)} (h : DKs K H ds vs) {k : Key} {d : D} {v : V} (r : DV K H d v) : DKs K H (ds ++ [(k, d)]) (vs ++ [(k, v)]) := by
  induction h with
  | nil => exact .cons r .nil
  | cons q _ ih => exact .cons q ih
theorem DKs.put {K : PySem.W.Frag} {H : Hp} {ds : List (Key × D)} {vs : List (Key × V)} (h : DKs K H ds vs) (k : Key) {d : D} {v : V} (r : DV K H d v) : DKs K H (dput ds k d) (putK vs k v) := by
  have m : DKs K H (ds.map fun kv => if kv.1 = k then (kv.1, d) else kv) (vs.map fun kv => if kv.1 = k then (kv.1, v) else kv) := by
    induction h with
    | nil => exact .nil
    | @cons k' d' v' ds vs q _ ih =>
      rw [List.map_cons, List.map_cons]
      by_cases e : k' = k
      · rw [if_pos e, if_pos e]; exact .cons r ih
      · rw [if_neg e, if_neg e]; exact .cons q ih
  unfold dput putK
  rw [h.any k]
  split
  · exact m
  · exact h.append r
def rDNew : RE := fun _ S Q => ∀ p, S p = none → Q (.ref p) (sup S p (.dK []))
theorem pd_dnew : PD X y (.Dict [] [] pos) rDNew := by
  refine PD.of pe_dnewK fun σ H Q h => ?_
  obtain ⟨ρ, S, R, sr, so, h, k⟩ := h
  intro p hp
  exact k (.ref p) _ _ _ (Go.newDK so.so hp .nil) rfl (h p (so.so.free hp))
def isD (S : Sto) (o k : D) (f : Addr → List (Key × D) → Key → Prop) : Prop := match o with
  | .ref a => ∃ kvs key, S a = some (.dK kvs) ∧ keyD k = some key ∧ f a kvs key
  | _ => False
def rDGet (td ti : RE) : RE := fun ρ S Q => td ρ S fun o S1 => ti ρ S1 fun k S2 => isD S2 o k fun _ kvs key => ∃ d, dval kvs key = some d ∧ Q d S2
def rDIn (n : Bool) (ti td : RE) : RE := fun ρ S Q => ti ρ S fun k S1 => td ρ S1 fun o S2 => isD S2 o k fun _ kvs key => Q (.bl (if n then !(dval kvs key).isSome else (dval kvs key).isSome)) S2
theorem isD_of {K : PySem.W.Frag} {S : Sto} {H : Hp} {o k : D} {v w : V} {f : Addr → List (Key × D) → Key → Prop} (so : SOk K H S) (dv : DV K H o v) (dw : DV K H k w) (h : isD S o k f) : ∃ a kvs vs key, v = .ref a ∧ S a = some (.dK kvs) ∧ H a = some (.dK vs) ∧ DKs K H kvs vs ∧ w = kV key ∧ f a kvs key := by
  cases o with
  | ref a =>
    obtain ⟨kvs, key, e, ek, h⟩ := h
    obtain ⟨vs, e1, r⟩ := so a _ e
    exact ⟨a, kvs, vs, key, dv, e, e1, r, keyD_v ek dw, h⟩
  | _ => exact False.elim h
theorem pd_dget (hu : X.A.units + 1 < cLine) (ho : PD X y o td) (hi : PD X y i ti) (hs : NoSl i := by exact fun _ _ => rfl) : PD X y (.Subscript o i pos) (rDGet td ti) := by
  refine PD.of (pe_dget hu ho hi hs) fun σ H Q h => ?_
  obtain ⟨ρ, S, R, sr, so, h, k⟩ := h
  refine ⟨ρ, S, _, sr, so, h, fun x S1 v H1 g1 dv h1 => ⟨ρ, S1, _, sr.go g1, so.go g1, h1, fun z S2 w H2 g2 dw h2 => ?_⟩⟩
  obtain ⟨a, kvs, vs, key, rfl, _, e1, r, rfl, d, hd, h3⟩ := isD_of g2.ok (DV.go g2 _ _ dv) dw h2
  obtain ⟨u, hu, ru⟩ := (r.val key).2 d hd
  exact ⟨a, u, rfl, hu ▸ DGet.k e1, k d S2 u H2 (g1.trans g2) ru h3⟩
theorem din_read {n : Bool} {σ : L2.St} {H : Hp} {Q : VK} (h : lE X.K y (rDIn n ti td) σ H Q) : lE X.K y ti σ H fun w H1 => lE X.K y td σ H1 fun v H2 => ∃ a o, v = .ref a ∧ DGet H2 a w o ∧ Q (.bl (if n then !o.isSome else o.isSome)) H2 := by
  obtain ⟨ρ, S, R, sr, so, h, k⟩ := h
  refine ⟨ρ, S, _, sr, so, h, fun z S1 w H1 g1 dw h1 => ⟨ρ, S1, _, sr.go g1, so.go g1, h1, fun x S2 v H2 g2 dv h2 => ?_⟩⟩
  obtain ⟨a, kvs, vs, key, rfl, _, e1, r, rfl, h3⟩ := isD_of g2.ok dv (DV.go g2 _ _ dw) h2
  refine ⟨a, _, rfl, DGet.k e1, ?_⟩
  rw [← (r.val key).1]
  exact k (.bl (if n then !(dval kvs key).isSome else (dval kvs key).isSome)) S2 _ H2 (g1.trans g2) rfl h3
theorem pd_din (hu : X.A.units + 1 < cLine) (hi : PD X y i ti) (ho : PD X y o td) (hb : behindInMarks .In o = false := by rfl) : PD X y (.Compare i [.In] [o] pos) (rDIn false ti td) := PD.of (pe_cmp (pc_din hu hi ho) hb) fun _ _ _ h => din_read (n := false) h
theorem pd_dnotin (hu : X.A.units + 1 < cLine) (hi : PD X y i ti) (ho : PD X y o td) (hb : behindInMarks .NotIn o = false := by rfl) : PD X y (.Compare i [.NotIn] [o] pos) (rDIn true ti td) := PD.of (pe_cmp (pc_dnotin hu hi ho) hb) fun _ _ _ h => din_read (n := true) h
theorem pdt_din (hu : X.A.units + 1 < cLine) (hi : PD X y i ti) (ho : PD X y o td) (hb : behindInMarks .In o = false := by rfl) : PDT X y (.Compare i [.In] [o] pos) (rTst (rDIn false ti td)) := PDT.of (pt_cmp (pc_din hu hi ho) hb) fun _ _ _ h => tst_of (fun _ _ _ h => din_read (n := false) h) h
theorem pdt_dnotin (hu : X.A.units + 1 < cLine) (hi : PD X y i ti) (ho : PD X y o td) (hb : behindInMarks .NotIn o = false := by rfl) : PDT X y (.Compare i [.NotIn] [o] pos) (rTst (rDIn true ti td)) := PDT.of (pt_cmp (pc_dnotin hu hi ho) hb) fun _ _ _ h => tst_of (fun _ _ _ h => din_read (n := true) h) h
def rDPut (td ti tv : RE) : RS := fun E ρ S => tv ρ S fun d S1 => td ρ S1 fun o S2 => ti ρ S2 fun k S3 => isD S3 o k fun a kvs key => kvs.length < sizeLine ∧ E.nx ρ (sup S3 a (.dK (dput kvs key d)))
theorem pd_dput (hu : X.A.units + 1 < cLine) (ho : PD X y o td) (hi : PD X y i ti) (hv : PD X y value tv) (hs : swapsWith value (some (.Subscript o i pos')) pos.line X.env = pure false := by rfl) : PDS X y (.Assign [.Subscript o i pos'] value pos) (rDPut td ti tv) := by
  refine PDS.of (ps_dput hu ho hi hv hs) fun D σ H h => ?_
  obtain ⟨ρ, S, E, sr, so, h, eo⟩ := h
  refine ⟨ρ, S, _, sr, so, h, fun d S1 u H1 g1 du h1 => ⟨ρ, S1, _, sr.go g1, so.go g1, h1, fun x S2 v H2 g2 dv h2 => ⟨ρ, S2, _, (sr.go g1).go g2, (so.go g1).go g2, h2, fun z S3 w H3 g3 dw h3 => ?_⟩⟩⟩
  obtain ⟨a, kvs, vs, key, rfl, e0, e1, r, rfl, hl, h4⟩ := isD_of g3.ok (DV.go g3 _ _ dv) dw h3
  have gA := g1.trans (g2.trans g3)
  have g4 := Go.setDK g3.ok e0 (r.put key (DV.go (g2.trans g3) _ _ du))
  exact ⟨a, _, rfl, DPut.k e1 (by rw [← r.length]; exact hl), eo.nx ρ _ σ _ (gA.trans g4) ((sr.go gA).go g4) h4⟩

/-! ### tuple(range(..)) -/
def rRgT (ta : RA) : RE := fun ρ S Q => ta ρ S fun ds S1 => match ds with
  | [.int j] => j ≤ 16777216 ∧ Q (.tup (rgI 0 j.toNat)) S1
  | [.int i, .int j] => (0 ≤ i ∧ i ≤ 16777216 ∧ 0 ≤ j ∧ j ≤ 16777216) ∧ Q (.tup (rgI i (j - i).toNat)) S1
  | _ => False
theorem rgI_dv {K : PySem.W.Frag} {H : Hp} {i j : Int} : DVs K H (rgI i (j - i).toNat) (rgV i j) := by
  unfold rgI rgV
  generalize (List.range (j - i).toNat) = l
  induction l with
  | nil => exact DVs.nil
  | cons a l ih => exact DVs.cons rfl ih
theorem pd_tupRg1 {ti : RE} {p q : Pos} (hc : X.calm = true) (hm : X.mg "tuple" = none) (hm2 : X.mg "range" = none) (hi : PD X y a ti) (hg : Gl X "tuple" := by rfl) (hg2 : Gl X "range" := by rfl) (na : starEach [.Call (.Name "range" q) [a] [] p2] X.env = (false, eval (.Call (.Name "range" q) [a] [] p2) X.env) :: starEach [] X.env := by rfl)
    (nb : starEach [a] X.env = (false, eval a X.env) :: starEach [] X.env := by rfl) : PD X y (.Call (.Name "tuple" p) [.Call (.Name "range" q) [a] [] p2] [] pos) (fun ρ S Q => ti ρ S fun d S1 => match d with | .int j => (0 ≤ j ∧ j ≤ 16777216) ∧ Q (.tup (rgI 0 j.toNat)) S1 | _ => False) := by
  refine PD.of (pe_tupRg hc hg hm (prg_1 hg2 hm2 hi nb) na) fun σ H Q h => ?_
  obtain ⟨ρ, S, R, sr, so, h, k⟩ := h
  refine ⟨ρ, S, _, sr, so, h, fun d S1 v H1 g dv hd => ?_⟩
  cases d with
  | int j =>
    refine ⟨j, dv, RgOk.of_le (by omega) hd.1.2 (by omega) hd.1.1, fun q hq => ?_⟩
    have g2 := Go.new (K := X.K) (o := .tup (rgV 0 j)) g.ok hq
    have e : (j - 0).toNat = j.toNat := by omega
    exact k (.tup (rgI 0 j.toNat)) S1 _ _ (g.trans g2) ⟨q, _, rfl, .inl upd_same, e ▸ rgI_dv⟩ hd.2
  | _ => exact False.elim hd
theorem pd_tupRg2 {ti tj : RE} {p q : Pos} (hc : X.calm = true) (hm : X.mg "tuple" = none) (hm2 : X.mg "range" = none) (hi : PD X y a ti) (hj : PD X y b tj) (hg : Gl X "tuple" := by rfl) (hg2 : Gl X "range" := by rfl) (na : starEach [.Call (.Name "range" q) [a, b] [] p2] X.env = (false, eval (.Call (.Name "range" q) [a, b] [] p2) X.env) :: starEach [] X.env := by rfl)
    (nb : starEach [a, b] X.env = (false, eval a X.env) :: starEach [b] X.env := by rfl) (nc : starEach [b] X.env = (false, eval b X.env) :: starEach [] X.env := by rfl) (hp : (backTo p2 (starEach [b] X.env)).any (·.1) = false := by rfl) : PD X y (.Call (.Name "tuple" p) [.Call (.Name "range" q) [a, b] [] p2] [] pos)
      (fun ρ S Q => ti ρ S fun d S1 => tj ρ S1 fun f S2 => match d, f with | .int i, .int j => (0 ≤ i ∧ i ≤ 16777216 ∧ 0 ≤ j ∧ j ≤ 16777216) ∧ Q (.tup (rgI i (j - i).toNat)) S2 | _, _ => False) := by
  refine PD.of (pe_tupRg hc hg hm (prg_2 hg2 hm2 hi hj nb nc hp) na) fun σ H Q h => ?_
  obtain ⟨ρ, S, R, sr, so, h, k⟩ := h
  refine ⟨ρ, S, _, sr, so, h, fun d S1 v H1 g1 dv hd => ⟨ρ, S1, _, sr.go g1, so.go g1, hd, fun f S2 w H2 g2 dw hf => ?_⟩⟩
  cases d <;> cases f <;> first | exact False.elim hf | skip
  case int.int i j =>
    cases (show v = V.int i from dv); cases (show w = V.int j from dw)
    refine ⟨i, j, rfl, rfl, RgOk.of_le hf.1.1 hf.1.2.2.2 hf.1.2.1 hf.1.2.2.1, fun q hq => ?_⟩
    have g3 := Go.new (K := X.K) (o := .tup (rgV i j)) g2.ok hq
    exact k (.tup (rgI i (j - i).toNat)) S2 _ _ (g1.trans (g2.trans g3)) ⟨q, _, rfl, .inl upd_same, rgI_dv⟩ hf.2
/-! ### x.bit_length(), factorial, comb -/
def rBits (te : RE) : RE := fun ρ S Q => te ρ S fun d S1 => match d with
  | .int i => Q (.int (Builtin.Int.intBits i : Nat)) S1
  | _ => False
theorem pd_bits (ho : PD X y o te) (hbase : attributeBase o "bit_length" X.env (eval o X.env) = eval o X.env := by rfl) (hline : (apos.endLine == pos.line) = true := by rfl) : PD X y (.Call (.Attribute o "bit_length" apos) [] [] pos) (rBits te) := by
  refine PD.of (pe_bits ho hbase hline) fun σ H Q h => ?_
  obtain ⟨ρ, S, R, sr, so, h, k⟩ := h
  refine ⟨ρ, S, _, sr, so, h, fun d S1 v H1 g dv hd => ?_⟩
  cases d with
  | int i => exact ⟨i, dv, k (.int (Builtin.Int.intBits i : Nat)) S1 _ H1 g rfl hd⟩
  | _ => exact False.elim hd
def dFact : RCall := fun ds S Q => match ds with
  | [.int i] => (0 ≤ i ∧ i ≤ 20000) ∧ Q (.int ((Builtin.Math.factorialNat i.toNat : Nat) : Int)) S
  | _ => False
theorem cd_factorial : CallR X (.builtin "math.factorial") (lcl X.K dFact) := by
  intro pins s σ H vs us Q I rv h
  obtain ⟨ds, S, R, dv, so, h, k⟩ := h
  unfold dFact at h
  split at h
  · rename_i i
    obtain ⟨v, rfl, r⟩ := dvs1 dv
    cases (show v = V.int i from r)
    obtain ⟨u, rfl, t, rfl⟩ := vals1 rv
    exact PySem.W.mc_factorial h.1.1 h.1.2 fun _ => ⟨.int _, H, I.tok _, ⟨_, rfl⟩, k (.int _) S _ H (Go.refl so) rfl h.2⟩
  · exact h.elim
def dComb : RCall := fun ds S Q => match ds with
  | [.int i, .int j] => (0 ≤ i ∧ 0 ≤ j ∧ i ≤ 9000) ∧ Q (.int (PySem.W.mcComb i j)) S
  | _ => False
theorem cd_comb : CallR X (.builtin "math.comb") (lcl X.K dComb) := by
  intro pins s σ H vs us Q I rv h
  obtain ⟨ds, S, R, dv, so, h, k⟩ := h
  unfold dComb at h
  split at h
  · rename_i i j
    obtain ⟨v, w, rfl, r1, r2⟩ := dvs2 dv
    cases (show v = V.int i from r1)
    cases (show w = V.int j from r2)
    obtain ⟨u, u', rfl, ⟨t, rfl⟩, ⟨t', rfl⟩⟩ := vals2 rv
    exact PySem.W.mc_comb h.1.1 h.1.2.1 (by have := h.1.2.2; omega) (.inr (by have := h.1.2.2; omega)) fun _ => ⟨.int _, H, I.tok _, ⟨_, rfl⟩, k (.int _) S _ H (Go.refl so) rfl h.2⟩
  · exact h.elim

/-! ### calls with keywords -/
def rCallK (y : DXw) (spec : DSp) (gD : List D → List D → List D) (ta tk : RA) : RE := fun ρ S Q => ta ρ S fun ds S1 => tk ρ S1 fun zs S2 => spec (gD ds zs) S2 Q fun C d S' => y.d C d ρ S'
structure KBD (K : PySem.W.Frag) (fd : FuncData) (ps ks : List Str) (g : List Value → List Value → List Value) (gD : List D → List D → List D) : Prop where
  to : ∀ (s : Shared) (us ws : List Value), K.In s.heap → (g us ws).length = ps.length → BindsTo s fd ⟨us, ks.zip ws⟩ (ps.zip (g us ws))
  rel : ∀ {H : Hp} {ds zs : List D} {vs ws : List V} {us xs : List Value}, DVs K H ds vs → DVs K H zs ws → Vals vs us → Vals ws xs → ∃ qs, DVs K H (gD ds zs) qs ∧ Vals qs (g us xs)
variable {k : Nat} {f : Addr} {fd : FuncData} {ps ks : List Str} {spec : DSp} {kws : List Keyword} {g : List Value → List Value → List Value} {gD : List D → List D → List D}
theorem run_K {pins : List (Addr × Obj)} {σ : L2.St} {H : Hp} {s : Shared} {Q : VK} {us ws : List Value} {qs : List V} (tk : Takes X y.W) (G : FnOk X.prog X.w X.K X.mg X.base (L2.CX X.prog X.w) k f fd ps (toSp X.K spec)) (hr : Room k X.A) (hb : KBD X.K fd ps ks g gD)
    (I : Inv X pins σ H s) (r : Vals qs (g us ws)) (h : toSp X.K spec qs H Q (WE y.W σ)) : wpAny (model X.prog X.w) X.A (call (.ref f) us (ks.zip ws)) (EP X pins σ Q) X.xe s := by
  have hl : (g us ws).length = ps.length := by rw [← r.length]; exact G.len _ _ _ _ h
  refine wpAny_call (codeAny_mono (G.run X.A X.stack s H ⟨us, ks.zip ws⟩ (g us ws) qs Q _ hr I.env0 (hb.to s us ws I.kIn hl) r h) fun r s' hq => ?_)
  cases r with
  | error e => exact passAt tk σ pins H s e s' I hq
  | ok fl =>
    cases fl with
    | ret u => exact I.after hq
    | next => exact False.elim hq
    | brk => exact False.elim hq
    | cont => exact False.elim hq
theorem pd_callK0 {tkk : RA} {n : Nat} (tk : Takes X y.W) (G : FnOk X.prog X.w X.K X.mg X.base (L2.CX X.prog X.w) k f fd ps (toSp X.K spec)) (hr : Room k X.A) (hm : X.mg x = some (.ref f)) (hk : PySem.W.keepIn X.K (.ref f) = true) (hb : KBD X.K fd ps ks g gD) (hkw : RdK X y kws n tkk)
    (hg : Gl X x := by rfl) (hall : (backToKw pos (keywordEach kws X.env)).all (·.1.isSome) = true := by rfl) (hks : (backToKw pos (keywordEach kws X.env)).filterMap (·.1) = ks := by rfl)
    (hdb : (x == ("__debug__" : Str)) = false := by decide) (hpl : ((backTo pos (starEach [] X.env)).any (·.1) || (backToKw pos (keywordEach kws X.env)).any (·.1.isNone)) = false := by rfl) :
    PD X y (.Call (.Name x p) [] kws pos) (rCallK y spec gD rNil tkk) := by
  refine ⟨fun pins s σ H Q I h => ?_⟩
  obtain ⟨ρ, S, R, sr, so, h, c⟩ := h
  refine wpAny_Call_Name_kw (ld_glob I hg hm ?_ hdb)
  refine PySem.W.callWith_KW0 (h₀ := X.base) I.ok.mod.kin hk hall ?_ hpl
  have hkr := hkw.run pos pins s σ H (fun vs H1 => ∃ zs S1, Go X.K H S H1 S1 ∧ DVs X.K H1 zs vs ∧ spec (gD [] zs) S1 R fun C d S' => y.d C d ρ S') I ⟨ρ, S, _, sr, so, h, fun zs S1 vs H1 g1 dvs _ h1 => ⟨zs, S1, g1, dvs, h1⟩⟩
  refine thn hkr fun ws s2 ⟨vs, H2, I2, rz, zs, S2, g2, dvs, h2⟩ => ⟨I2.kIn, ?_⟩
  rw [hks]
  obtain ⟨qs, hq1, hq2⟩ := hb.rel (H := H2) (ds := []) (vs := []) (us := []) DVs.nil dvs .nil rz
  exact run_K tk G hr hb I2 hq2 ⟨gD [] zs, S2, R, _, hq1, g2.ok, h2, fun d S3 v H3 g3 dv q => c d S3 v H3 (g2.trans g3) dv q, fun C d S3 dx w H3 g3 e dw q => (so.go g2).xo C d ρ S3 dx w σ H3 g3 (sr.go (g2.trans g3)) e dw q⟩
theorem pd_callK {tkk : RA} {n : Nat} (tk : Takes X y.W) (G : FnOk X.prog X.w X.K X.mg X.base (L2.CX X.prog X.w) k f fd ps (toSp X.K spec)) (hr : Room k X.A) (hm : X.mg x = some (.ref f)) (hk : PySem.W.keepIn X.K (.ref f) = true) (hb : KBD X.K fd ps ks g gD) (ha : PDA X y (e :: es) ta) (hkw : RdK X y kws n tkk)
    (hg : Gl X x := by rfl) (hall : (backToKw pos (keywordEach kws X.env)).all (·.1.isSome) = true := by rfl) (hks : (backToKw pos (keywordEach kws X.env)).filterMap (·.1) = ks := by rfl)
    (hdb : (x == ("__debug__" : Str)) = false := by decide) (he : starEach (e :: es) X.env = (false, eval e X.env) :: starEach es X.env := by rfl) (hpl : ((backTo pos (starEach (e :: es) X.env)).any (·.1) || (backToKw pos (keywordEach kws X.env)).any (·.1.isNone)) = false := by rfl) :
    PD X y (.Call (.Name x p) (e :: es) kws pos) (rCallK y spec gD ta tkk) := by
  refine ⟨fun pins s σ H Q I h => ?_⟩
  obtain ⟨ρ, S, R, sr, so, h, c⟩ := h
  refine wpAny_Call_Name_kw (ld_glob I hg hm ?_ hdb)
  have har := ha.run pos pins s σ H (fun vs H1 => ∃ ds S1, Go X.K H S H1 S1 ∧ DVs X.K H1 ds vs ∧ tkk ρ S1 fun zs S2 => spec (gD ds zs) S2 R fun C d S' => y.d C d ρ S') I ⟨ρ, S, _, sr, so, h, fun ds S1 vs H1 g1 dvs _ h1 => ⟨ds, S1, g1, dvs, h1⟩⟩
  refine PySem.W.callWith_KW (h₀ := X.base) I.ok.mod.kin hk hall (thn har fun us s1 ⟨vs, H1, I1, r, ds, S1, g1, dv1, h1⟩ => ?_) hpl he
  have hkr := hkw.run pos pins s1 σ H1 (fun vs H2 => ∃ zs S2, Go X.K H1 S1 H2 S2 ∧ DVs X.K H2 zs vs ∧ spec (gD ds zs) S2 R fun C d S' => y.d C d ρ S') I1 ⟨ρ, S1, _, sr.go g1, so.go g1, h1, fun zs S2 vs H2 g2 dvs _ h2 => ⟨zs, S2, g2, dvs, h2⟩⟩
  refine thn hkr fun ws s2 ⟨ws', H2, I2, rz, zs, S2, g2, dv2, h2⟩ => ⟨I2.kIn, ?_⟩
  rw [hks]
  obtain ⟨qs, hq1, hq2⟩ := hb.rel (H := H2) (DVs.go g2 _ _ dv1) dv2 r rz
  have gA := g1.trans g2
  exact run_K tk G hr hb I2 hq2 ⟨gD ds zs, S2, R, _, hq1, gA.ok, h2, fun d S3 v H3 g3 dv q => c d S3 v H3 (gA.trans g3) dv q, fun C d S3 dx w H3 g3 e dw q => (so.go gA).xo C d ρ S3 dx w σ H3 g3 (sr.go (gA.trans g3)) e dw q⟩
end
end DL
set_option Elab.async false
set_option linter.all false
set_option maxRecDepth 100000
set_option maxHeartbeats 4000000
namespace DL
open PySem PySem.Spec PyProof.Rows L2
/-! ### fractions -/
def fr (q : Rat) : D := .tup [.int q.num, .int (q.den : Int)]
theorem low_num {t b : Int} (hb : 0 < b) : t / ((Nat.gcd t.natAbs b.natAbs : Nat) : Int) = ((t : Rat) / (b : Rat)).num := by
  rw [← Rat.divInt_eq_div, Rat.num_divInt, Int.sign_eq_one_of_pos hb, Int.one_mul, Int.gcd, Nat.gcd_comm]
theorem low_den {t b : Int} (hb : 0 < b) : b / ((Nat.gcd t.natAbs b.natAbs : Nat) : Int) = (((t : Rat) / (b : Rat)).den : Int) := by
  rw [← Rat.divInt_eq_div, Rat.den_divInt, if_neg (by omega), Int.gcd, Nat.gcd_comm]
  have : (b.natAbs : Int) = b := by omega
  rw [Int.natCast_ediv, this]
theorem low_fr {t b : Int} (hb : 0 < b) : D.tup [.int (t / ((Nat.gcd t.natAbs b.natAbs : Nat) : Int)), .int (b / ((Nat.gcd t.natAbs b.natAbs : Nat) : Int))] = fr ((t : Rat) / (b : Rat)) := by
  unfold fr
  rw [← low_num hb, ← low_den hb]
theorem den_pos' (q : Rat) : (0 : Int) < (q.den : Int) := by have := q.den_pos; omega
theorem num_div_den' (q : Rat) : ((q.num : Int) : Rat) / ((q.den : Int) : Rat) = q := by
  rw [← Rat.divInt_eq_div]; exact Rat.num_divInt_den q
theorem mul_fr (a b : Rat) : (((a.num * b.num : Int) : Rat) / (((a.den : Int) * (b.den : Int) : Int) : Rat)) = a * b := by
  have ha := num_div_den' a
  have hb := num_div_den' b
  have da : ((a.den : Int) : Rat) ≠ 0 := by have := a.den_nz; simpa using this
  have db : ((b.den : Int) : Rat) ≠ 0 := by have := b.den_nz; simpa using this
  rw [Rat.intCast_mul, Rat.intCast_mul]
  generalize ((a.num : Int) : Rat) = x at *
  generalize ((b.num : Int) : Rat) = y at *
  generalize ((a.den : Int) : Rat) = u at *
  generalize ((b.den : Int) : Rat) = v at *
  subst ha hb
  grind
theorem add_fr (a b : Rat) : (((a.num * (b.den : Int) + b.num * (a.den : Int) : Int) : Rat) / (((a.den : Int) * (b.den : Int) : Int) : Rat)) = a + b := by
  have ha := num_div_den' a
  have hb := num_div_den' b
  have da : ((a.den : Int) : Rat) ≠ 0 := by have := a.den_nz; simpa using this
  have db : ((b.den : Int) : Rat) ≠ 0 := by have := b.den_nz; simpa using this
  rw [Rat.intCast_add, Rat.intCast_mul, Rat.intCast_mul, Rat.intCast_mul]
  generalize ((a.num : Int) : Rat) = x at *
  generalize ((b.num : Int) : Rat) = y at *
  generalize ((a.den : Int) : Rat) = u at *
  generalize ((b.den : Int) : Rat) = v at *
  subst ha hb
  grind
/-! ### sizes -/
theorem gcd_w {t b : Int} (hb : 0 < b) {n : Nat} (h : b.natAbs < 2 ^ n) (h0 : 0 < n) (h9 : n ≤ 9000) (z : Int) : CDivW z ((Nat.gcd t.natAbs b.natAbs : Nat) : Int) := by
  have h1 : 0 < Nat.gcd t.natAbs b.natAbs := Nat.gcd_pos_of_pos_right _ (by omega)
  have h2 : Nat.gcd t.natAbs b.natAbs ≤ b.natAbs := Nat.gcd_le_right _ (by omega)
  exact wide_div (b := n) (by omega) (by rw [Int.natAbs_natCast]; omega) h0 h9
theorem small_r {i j : Int} (h1 : -(2 ^ 64) < j) (h2 : j < 2 ^ 64) : CMulW i j ∨ CMul i j := .inr (.inr ⟨h1, h2⟩)
theorem small_l {i j : Int} (h1 : -(2 ^ 64) < i) (h2 : i < 2 ^ 64) : CMulW i j ∨ CMul i j := .inr (.inl ⟨h1, h2⟩)
theorem div_s {i j : Int} (h : 0 < j) (hb : j < 2 ^ 8000) : CDivW i j := wide_div (b := 8000) h (by omega) (by decide) (by decide)
end DL
set_option Elab.async false
set_option linter.all false
set_option maxRecDepth 100000
set_option maxHeartbeats 4000000
namespace DL
open PySem PySem.Spec PyProof.Rows L2
/-! ### loops -/
theorem for_rg {lo : Int} {n : Nat} {g : RG} {tb : RS} {E : DEnds} {ρ : Ro} {S : Sto} (W : Nat → Ro → Sto → Prop) (h0 : W 0 ρ S)
    (hs : ∀ (i : Nat) ρ' S', i < n → W i ρ' S' → g (.int (lo + (i : Int))) ρ' S' fun ρ2 S2 => tb { E with nx := W (i + 1), ct := W (i + 1), bk := E.nx } ρ2 S2) (hd : ∀ ρ' S', W n ρ' S' → E.nx ρ' S') :
    ∃ W : Nat → Ro → Sto → Prop, W 0 ρ S ∧ ∀ i ρ' S', W i ρ' S' → (fun (_ : Sto) => True) S' ∧
      (∀ x, (rgI lo n)[i]? = some x → g x ρ' S' fun ρ2 S2 => tb { E with nx := W (i + 1), ct := W (i + 1), bk := E.nx } ρ2 S2) ∧ (i = (rgI lo n).length → E.nx ρ' S') := by
  refine ⟨W, h0, fun i ρ' S' h => ⟨trivial, fun x hx => ?_, fun e => ?_⟩⟩
  · obtain ⟨hi, rfl⟩ := rgI_inv hx
    exact hs i ρ' S' hi h
  · rw [rgI_len] at e
    subst e
    exact hd ρ' S' h
theorem for_xs {xs : List D} {src : Sto → Prop} {g : RG} {tb : RS} {E : DEnds} {ρ : Ro} {S : Sto} (W : Nat → Ro → Sto → Prop) (h0 : W 0 ρ S) (hq : ∀ i ρ' S', W i ρ' S' → src S')
    (hs : ∀ (i : Nat) x ρ' S', xs[i]? = some x → W i ρ' S' → g x ρ' S' fun ρ2 S2 => tb { E with nx := W (i + 1), ct := W (i + 1), bk := E.nx } ρ2 S2) (hd : ∀ ρ' S', W xs.length ρ' S' → E.nx ρ' S') :
    ∃ W : Nat → Ro → Sto → Prop, W 0 ρ S ∧ ∀ i ρ' S', W i ρ' S' → src S' ∧
      (∀ x, xs[i]? = some x → g x ρ' S' fun ρ2 S2 => tb { E with nx := W (i + 1), ct := W (i + 1), bk := E.nx } ρ2 S2) ∧ (i = xs.length → E.nx ρ' S') :=
  ⟨W, h0, fun i ρ' S' h => ⟨hq i ρ' S' h, fun x hx => hs i x ρ' S' hx h, fun e => by subst e; exact hd ρ' S' h⟩⟩
/-- a comprehension whose elements are values f i x, the store but growing -/
def Ext (S S' : Sto) : Prop := ∀ a c, S a = some c → S' a = some c
theorem Ext.refl (S : Sto) : Ext S S := fun _ _ h => h
theorem Ext.trans {S S1 S2 : Sto} (a : Ext S S1) (b : Ext S1 S2) : Ext S S2 := fun c o h => b c o (a c o h)
theorem Ext.new {S : Sto} {p : Addr} (h : S p = none) (c : Cell) : Ext S (sup S p c) := fun a o e => by
  rw [sup_ne (fun z => ?_)]
  · exact e
  · subst z; rw [h] at e; cases e
theorem Ext.free {S S' : Sto} (e : Ext S S') {p : Addr} (h : S' p = none) : S p = none := by
  cases q : S p with
  | none => rfl
  | some o => rw [e p o q] at h; cases h
theorem Ext.rd {S S' : Sto} (e : Ext S S') {d : D} {xs : List D} (h : RdL S d xs) : RdL S' d xs := by
  rcases h with ⟨a, rfl, h⟩ | rfl
  · exact .inl ⟨a, rfl, e _ _ h⟩
  · exact .inr rfl
mutual
theorem Pat.imp : ∀ (p : Pat) (d : D) (ρ : Ro) (k k' : Ro → Prop), (∀ ρ', k ρ' → k' ρ') → Pat.put p d ρ k → Pat.put p d ρ k'
  | .n i, d, ρ, k, k', m, h => m _ h
  | .t ps, d, ρ, k, k', m, h => by
    cases d with
    | tup xs => exact Pat.imps ps xs ρ k k' m h
    | _ => exact False.elim h
theorem Pat.imps : ∀ (ps : List Pat) (ds : List D) (ρ : Ro) (k k' : Ro → Prop), (∀ ρ', k ρ' → k' ρ') → Pat.puts ps ds ρ k → Pat.puts ps ds ρ k'
  | [], ds, ρ, k, k', m, h => by
    cases ds with
    | nil => exact m _ h
    | cons _ _ => exact False.elim h
  | p :: ps, ds, ρ, k, k', m, h => by
    cases ds with
    | nil => exact False.elim h
    | cons d ds => exact Pat.imp p d ρ _ _ (fun ρ' h => Pat.imps ps ds ρ' k k' m h) h
end
def WM (n : Nat) (f : Nat → D) (S : Sto) : Nat → List D → Sto → Prop := fun i acc S' => i ≤ n ∧ acc = (List.range i).map f ∧ Ext S S'
theorem lc_rgm {lo : Int} {n : Nat} {p : Pat} {tt : RT} {te : RE} {vs : List Nat} {ρ : Ro} {S : Sto} {G : Addr → Sto → List D → Prop} (f : Nat → D)
    (hs : ∀ (i : Nat) acc S', i < n → WM n f S i acc S' → Pat.put p (.int (lo + (i : Int))) (dwipe ρ vs) fun ρ2 => tt ρ2 S' fun b S3 => IFB b (te ρ2 S3 fun d S4 => acc.length < sizeLine ∧ WM n f S (i + 1) (acc ++ [d]) S4) (WM n f S (i + 1) acc S3))
    (hd : ∀ S' q, Ext S S' → S' q = none → G q S' ((List.range n).map f)) :
    ∃ W : Nat → List D → Sto → Prop, W 0 [] S ∧ ∀ i acc S', W i acc S' → (fun (_ : Sto) => True) S' ∧
      (∀ x, (rgI lo n)[i]? = some x → Pat.put p x (dwipe ρ vs) fun ρ2 => tt ρ2 S' fun b S3 => IFB b (te ρ2 S3 fun d S4 => acc.length < sizeLine ∧ W (i + 1) (acc ++ [d]) S4) (W (i + 1) acc S3)) ∧
      (i = (rgI lo n).length → ∀ p, S' p = none → G p S' acc) := by
  refine ⟨WM n f S, ⟨Nat.zero_le _, by simp, Ext.refl S⟩, fun i acc S' w => ⟨trivial, fun x hx => ?_, fun h q hq => ?_⟩⟩
  · obtain ⟨hi, rfl⟩ := rgI_inv hx
    exact hs i acc S' hi w
  · rw [rgI_len] at h
    subst h
    obtain ⟨_, rfl, e⟩ := w
    exact hd S' q e hq
theorem lc_leaf {n i : Nat} {f : Nat → D} {S S' S4 : Sto} {acc : List D} {d : D} (hi : i < n) (w : WM n f S i acc S') (hn : n ≤ sizeLine) (hd : d = f i) (he : Ext S' S4) : acc.length < sizeLine ∧ WM n f S (i + 1) (acc ++ [d]) S4 := by
  obtain ⟨_, rfl, e⟩ := w
  refine ⟨by simp; omega, hi, ?_, e.trans he⟩
  rw [List.range_succ, List.map_append, hd]
  rfl
/-- over the items of a list -/
def WL (xs : List D) (f : D → D) (S : Sto) : Nat → List D → Sto → Prop := fun i acc S' => i ≤ xs.length ∧ acc = (xs.take i).map f ∧ Ext S S'
theorem lc_xsm {xs : List D} {src : Sto → Prop} {p : Pat} {tt : RT} {te : RE} {vs : List Nat} {ρ : Ro} {S : Sto} {G : Addr → Sto → List D → Prop} (f : D → D) (hq : ∀ S', Ext S S' → src S')
    (hs : ∀ (i : Nat) x acc S', xs[i]? = some x → WL xs f S i acc S' → Pat.put p x (dwipe ρ vs) fun ρ2 => tt ρ2 S' fun b S3 => IFB b (te ρ2 S3 fun d S4 => acc.length < sizeLine ∧ WL xs f S (i + 1) (acc ++ [d]) S4) (WL xs f S (i + 1) acc S3))
    (hd : ∀ S' q, Ext S S' → S' q = none → G q S' (xs.map f)) :
    ∃ W : Nat → List D → Sto → Prop, W 0 [] S ∧ ∀ i acc S', W i acc S' → src S' ∧
      (∀ x, xs[i]? = some x → Pat.put p x (dwipe ρ vs) fun ρ2 => tt ρ2 S' fun b S3 => IFB b (te ρ2 S3 fun d S4 => acc.length < sizeLine ∧ W (i + 1) (acc ++ [d]) S4) (W (i + 1) acc S3)) ∧
      (i = xs.length → ∀ p, S' p = none → G p S' acc) := by
  refine ⟨WL xs f S, ⟨Nat.zero_le _, by simp, Ext.refl S⟩, fun i acc S' w => ⟨hq S' w.2.2, fun x hx => hs i x acc S' hx w, fun h q hq => ?_⟩⟩
  subst h
  obtain ⟨_, rfl, e⟩ := w
  rw [List.take_length]
  exact hd S' q e hq
theorem lc_leafL {xs : List D} {i : Nat} {f : D → D} {S S' S4 : Sto} {acc : List D} {d x : D} (hx : xs[i]? = some x) (w : WL xs f S i acc S') (hn : xs.length ≤ sizeLine) (hd : d = f x) (he : Ext S' S4) : acc.length < sizeLine ∧ WL xs f S (i + 1) (acc ++ [d]) S4 := by
  obtain ⟨_, rfl, e⟩ := w
  have hi : i < xs.length := (List.getElem?_eq_some_iff.mp hx).1
  refine ⟨by simp; omega, hi, ?_, e.trans he⟩
  rw [List.take_succ, hx, List.map_append, hd]
  rfl
end DL
set_option Elab.async false
set_option linter.all false
set_option maxRecDepth 100000
set_option maxHeartbeats 4000000
namespace DL
open PySem PySem.Spec PyProof.Rows L2
section
variable {X : Cx} {y : DXw} {st : Stmt} {rest : List Stmt} {t u : RS} {e : Expr} {te : RE} {pos : Pos}
/-- a, b, c = x, y, z with plain local names -/
def rPar3 (i j l : Nat) (ta : RA) : RS := fun E ρ S => ta ρ S fun ds S1 => match ds with
  | [d, e, f] => E.nx (((ρ.set i (some d)).set j (some e)).set l (some f)) S1
  | _ => False
theorem pd_par3 (i j l : Nat) {x z w : Str} {a b c : Expr} {ta : RA} {px py pz pt pos : Pos} {kt k2 pt2} (hc : X.calm = true) (hN : X.N.Nodup) (ha : PDA X y [a, b, c] ta)
    (hw : swappedStores [.Tuple [.Name x px, .Name z py, .Name w pz] kt pt] (.Tuple [a, b, c] k2 pt2) X.env = pure (some [x, z, w]))
    (hi : X.N[i]? = some x := by rfl) (hj : X.N[j]? = some z := by rfl) (hl : X.N[l]? = some w := by rfl) (hij : i ≠ j := by decide) (hil : i ≠ l := by decide) (hjl : j ≠ l := by decide)
    (hx : X.env.scope.names.lookup x = some .local := by rfl) (hy : X.env.scope.names.lookup z = some .local := by rfl) (hz : X.env.scope.names.lookup w = some .local := by rfl)
    (hs : swapsWithSole [.Tuple [.Name x px, .Name z py, .Name w pz] kt pt] (.Tuple [a, b, c] k2 pt2) pos.line X.env = pure false := by rfl) :
    PDS X y (.Assign [.Tuple [.Name x px, .Name z py, .Name w pz] kt pt] (.Tuple [a, b, c] k2 pt2) pos) (rPar3 i j l ta) := PDS.of (ps_par3 hc hN hi hj hl hij hil hjl hx hy hz ha hw hs) fun D σ H h => by
  obtain ⟨ρ, S, E, sr, so, h, eo⟩ := h
  refine ⟨ρ, S, _, sr, so, h, fun ds S1 vs H1 g1 dvs hn h1 => ?_⟩
  match ds, dvs, h1 with
  | [d, e, f], dvs, h1 =>
    obtain ⟨v, ws, rfl, dv1, v2, ws2, rfl, dv2, v3, ws3, rfl, dv3, q⟩ := dvs
    cases (show ws3 = [] from q)
    exact ⟨v, v2, v3, rfl, eo.nx _ S1 _ H1 g1 ((((sr.go g1).set dv1 i).set dv2 j).set dv3 l) h1⟩
  | [], _, h1 => exact h1.elim
  | [_], _, h1 => exact h1.elim
  | [_, _], _, h1 => exact h1.elim
  | _ :: _ :: _ :: _ :: _, _, h1 => exact h1.elim
end

/-! ### a def whose garbage is dropped -/
theorem Go.less {K : PySem.W.Frag} {H H' : Hp} {S S' S2 : Sto} (g : Go K H S H' S') (e : Ext S2 S') : Go K H S H' S2 :=
  ⟨g.ok0, fun a c h => g.ok a c (e a c h), g.frame, fun a o h1 h2 => by
    cases q : S2 a with
    | none => rfl
    | some c => exact absurd (e a c q) (by rw [g.ex a o h1 h2]; exact fun z => by cases z)⟩
theorem fnE {P : Program} {w : World} {K : PySem.W.Frag} {mg : Str → Option Value} {base : Heap} {x qual : Str} {st : Stmt} {f : Addr} {fd : FuncData} {N ps : List Str} {k : Nat} {sp : DSp} (F : Fun K x qual st f fd) (S : FnScope N ps (defScope st))
    (len : ∀ ds S Q E, sp ds S Q E → ds.length = ps.length)
    (hbody : ∀ (cdv : Value) (A : Around) (outer : List Env) (s : Shared) (H : Hp) (E : XK) (RX : Addr → D → Sto → Prop), Room k (A.deeper (envOfC qual (defScope st) s.heap.objs.size f cdv)) →
      ∃ t, PDSs (cxOf (L2.CX P w) P w K mg base N qual (defScope st) f cdv A outer s H E) (yOf E RX) (defBody st) t ∧ ∀ ds S Q, sp ds S Q RX → t { nx := fun _ S' => ∃ S2, Ext S2 S' ∧ Q .non S2, rt := fun d S' => ∃ S2, Ext S2 S' ∧ Q d S2 } (startD N ds) S) :
    FnOk P w K mg base (L2.CX P w) (k + 1) f fd ps (toSp K sp) := by
  refine F.okX S (fun vs H Q E h => ?_) (fun cdv A outer s H vs Q E hr h => ?_)
  · obtain ⟨ds, S, R, RX, dvs, _, h, _⟩ := h
    rw [← dvs.length]
    exact len _ _ _ _ h
  · obtain ⟨ds, S, R, RX, dvs, so, h, k1, k2⟩ := h
    obtain ⟨t, ht, hq⟩ := hbody cdv A outer s H E RX hr
    refine ⟨_, ht, startD N ds, S, _, start_srv dvs, ⟨so, fun C d ρ S' dx w' σ H' g _ e dv q => k2 C d S' dx w' H' g e dv q⟩, hq ds S R h, ?_⟩
    exact ⟨fun ρ S' σ H' g _ ⟨S2, e, q⟩ => k1 .non S2 .non H' (g.less e) rfl q, fun d S' v H' g dv ⟨S2, e, q⟩ => k1 d S2 v H' (g.less e) dv q, fun _ _ _ _ _ _ z => z, fun _ _ _ _ _ _ z => z⟩
theorem fnok0 {P : Program} {w : World} {K : PySem.W.Frag} {mg : Str → Option Value} {base : Heap} {f : Addr} {fd : FuncData} {ps : List Str} {k : Nat} : FnOk P w K mg base (L2.CX P w) k f fd ps (toSp K fun _ _ _ _ => False) :=
  ⟨fun _ _ _ _ ⟨_, _, _, _, _, _, h, _⟩ => h.elim, fun _ _ _ _ _ _ _ _ _ _ _ _ _ ⟨_, _, _, _, _, _, h, _⟩ => h.elim⟩
/-! ### told and due -/
def cellsD (S : Sto) : D → Option (List D)
  | .ref a => match S a with
    | some (.lst xs) => some xs
    | _ => none
  | .fro xs => some xs
  | _ => none
def sameD (S : Sto) : Nat → D → D → Prop
  | 0, _, _ => False
  | _ + 1, told, .non => told = .non
  | _ + 1, told, .bl b => told = .bl b
  | _ + 1, told, .int i => told = .int i
  | _ + 1, told, .str x => told = .str x
  | n + 1, told, .tup xs => ∃ ys, told = .tup ys ∧ ys.length = xs.length ∧ xs.length < 1000000 ∧ ∀ (i : Nat) y x, ys[i]? = some y → xs[i]? = some x → sameD S n y x
  | n + 1, told, due => ∃ xs ys, RdL S due xs ∧ RdL S told ys ∧ ys.length = xs.length ∧ xs.length < 1000000 ∧ ∀ (i : Nat) y x, ys[i]? = some y → xs[i]? = some x → sameD S n y x
def sp_same (n : Nat) : DSp := fun ds S Q _ => ∃ told due, ds = [told, due] ∧ sameD S n told due ∧ Q (.bl true) S
theorem cut_to {xs : List D} {r : Nat} (h : r ≤ xs.length) : cutD xs none (some (r : Int)) = xs.take r := by
  unfold cutD
  rw [HT.sIx_none, HT.sIx_nat, Nat.min_eq_left h]
  rfl
theorem cut_from {xs : List D} {r : Nat} (h : r ≤ xs.length) : cutD xs (some (r : Int)) none = xs.drop r := by
  unfold cutD
  rw [HT.sIx_none, HT.sIx_nat, Nat.min_eq_left h, List.take_of_length_le (by simp)]
theorem take_get {xs : List D} {r j : Nat} {x : D} (h : (xs.take r)[j]? = some x) : xs[j]? = some x := by
  rw [List.getElem?_take] at h
  split at h
  · exact h
  · cases h
theorem drop_get {xs : List D} {r j : Nat} {x : D} (h : (xs.drop r)[j]? = some x) : xs[r + j]? = some x := by
  rw [List.getElem?_drop] at h
  exact h
theorem Ext.wr {S S' : Sto} {p : Addr} {c : Cell} (e : Ext S S') (h : S p = none) : Ext S (sup S' p c) := fun a o q => by
  rw [sup_ne (fun z => ?_)]
  · exact e a o q
  · subst z; rw [h] at q; cases q

/-! ### calls with keywords: what goes where -/
def gk {α : Type} (n m : Nat) (pm : List Nat) (us ws : List α) : List α := if us.length = n ∧ ws.length = m then pm.filterMap fun i => (us ++ ws)[i]? else []
theorem gk_rel {K : PySem.W.Frag} {n m : Nat} {pm : List Nat} {H : Hp} {ds zs : List D} {vs ws : List V} {us xs : List Value} (h1 : DVs K H ds vs) (h2 : DVs K H zs ws) (r1 : Vals vs us) (r2 : Vals ws xs) :
    ∃ qs, DVs K H (gk n m pm ds zs) qs ∧ Vals qs (gk n m pm us xs) := by
  have l1 := h1.length
  have l2 := h2.length
  have l3 := r1.length
  have l4 := r2.length
  by_cases c : ds.length = n ∧ zs.length = m
  · refine ⟨pm.filterMap fun i => (vs ++ ws)[i]?, ?_, ?_⟩
    · rw [show gk n m pm ds zs = pm.filterMap fun i => (ds ++ zs)[i]? from if_pos c]
      have hA := h1.append h2
      clear c
      induction pm with
      | nil => exact rfl
      | cons i pm ih =>
        rw [List.filterMap_cons, List.filterMap_cons]
        cases e : (ds ++ zs)[i]? with
        | none =>
          have : (vs ++ ws)[i]? = none := by
            rw [List.getElem?_eq_none_iff] at e ⊢
            rw [← hA.length]; exact e
          rw [this]
          exact ih
        | some d =>
          obtain ⟨v, e2, dv⟩ := hA.get e
          rw [e2]
          exact ⟨v, _, rfl, dv, ih⟩
    · rw [show gk n m pm us xs = pm.filterMap fun i => (us ++ xs)[i]? from if_pos (by omega)]
      have hA := r1.append r2
      clear c
      induction pm with
      | nil => exact .nil
      | cons i pm ih =>
        rw [List.filterMap_cons, List.filterMap_cons]
        cases e : (vs ++ ws)[i]? with
        | none =>
          have : (us ++ xs)[i]? = none := by
            rw [List.getElem?_eq_none_iff] at e ⊢
            rw [← hA.length]; exact e
          rw [this]
          exact ih
        | some d =>
          obtain ⟨v, e2, dv⟩ := hA.get e
          rw [e2]
          exact .cons dv ih
  · rw [show gk n m pm ds zs = [] from if_neg c, show gk n m pm us xs = [] from if_neg (by omega)]
    exact ⟨[], rfl, .nil⟩
theorem KBD.of {K : PySem.W.Frag} {x qual : Str} {st : Stmt} {f : Addr} {fd : FuncData} {ps ks : List Str} (n m : Nat) (pm : List Nat) (F : Fun K x qual st f fd) (hp : 0 < ps.length)
    (h : ∀ (kV doc pq : Value) (an : Option Addr) (cdv ct : Value) (us ws : List Value), us.length = n → ws.length = m → bindArgs (PySem.W.fnOf x qual (defArgs st) (defBody st) (defScope st) .none kV doc pq an cdv ct) ⟨us, ks.zip ws⟩ = pure (ps.zip (gk n m pm us ws))) :
    KBD K fd ps ks (gk n m pm) (gk n m pm) := by
  obtain ⟨oc, od, kV, doc, pq, an, cdv, ct, osl, rfl, lk, hcd⟩ := F.ex
  refine ⟨fun s us ws _ hl => ?_, fun h1 h2 r1 r2 => gk_rel h1 h2 r1 r2⟩
  by_cases c : us.length = n ∧ ws.length = m
  · exact .of_eq (h kV doc pq an cdv ct us ws c.1 c.2)
  · rw [show gk n m pm us ws = [] from if_neg c] at hl
    exact absurd hl (by simp; omega)

/-! ### the end -/
theorem law_end {K : PySem.W.Frag} {H : Hp} {a : Addr} {ns : List Int} (hO : Only H) (hS : SqL K H a (ns.map V.int)) {sp : DSp} (h : ∀ S, sp [.fro (ns.map D.int)] S (fun d _ => d = .bl true) (fun _ _ _ => False)) :
    toSp K sp [.ref a] H (fun v _ => v = .bl true) (fun _ _ _ => False) := by
  refine ⟨[.fro (ns.map D.int)], fun _ => none, _, _, ⟨_, _, rfl, ⟨a, ns.map V.int, rfl, ?_, DVs.of_ints⟩, rfl⟩, (fun _ _ z => by cases z), h _, (fun d S v H' _ dv e => by subst e; exact dv), fun _ _ _ _ _ _ _ _ _ z => z⟩
  rcases hS with hS | hS
  · rcases hS with hS | ⟨o, hS⟩
    · rcases hO a with e | ⟨o, xs, e⟩
      · rw [e] at hS; cases hS
      · rw [e] at hS; cases hS
    · exact .inl ⟨o, hS⟩
  · exact .inr hS
theorem cx_end (P : Program) (w : World) (H : Hp) (s : Shared) (e : Value) (s' : Shared) : L2.CX P w [] H s (fun _ _ _ => False) e s' → False := fun ⟨_, _, _, _, _, _, _, _, _, _, _, _, h⟩ => h
theorem law_binds {K : PySem.W.Frag} {x qual : Str} {st : Stmt} {f : Addr} {fd : FuncData} {p : Str} (F : Fun K x qual st f fd) (h : ∀ (kV doc pm : Value) (an : Option Addr) (cdv ct : Value) (u : Value), bindArgs (PySem.W.fnOf x qual (defArgs st) (defBody st) (defScope st) .none kV doc pm an cdv ct) ⟨[u], []⟩ = pure [(p, u)]) :
    ∀ (s : Shared) (u : Value), BindsTo s fd ⟨[u], []⟩ [(p, u)] := fun s u => by
  obtain ⟨oc, od, kV, doc, pm, an, cdv, ct, osl, rfl, _⟩ := F.ex
  exact .of_eq (h kV doc pm an cdv ct u)
end DL
set_option Elab.async false
set_option linter.all false
set_option maxRecDepth 100000
set_option maxHeartbeats 4000000
namespace DL
open PySem PySem.Spec PyProof.Rows L2
open PySem.AutoSeq1 (wpAny_loadPart')
/-! ### enumerate(tuple) -/
theorem meets_enumerate_newT (l : Addr) (items : Array Value) (n : Nat) (dct : Option Addr) (sl : Array (Option Value)) :
    Meets (Builtin.«enumerate.__new__» ⟨[.type "enumerate", .ref l], []⟩) (fun _ R s => s.heap.get? l = some { cls := .type "tuple", dict := dct, data := .seq items n, slots := sl } ∧
      R (.ok (.ret (.ref (s.heap.push { cls := .type "tuple_iterator", data := .fields #[.ref l, .int 0 0] }).objs.size)))
        { s with heap := (s.heap.push { cls := .type "tuple_iterator", data := .fields #[.ref l, .int 0 0] }).push { cls := .type "enumerate", data := .fields #[.none, .bool false, .ref s.heap.objs.size, rawInt 0, .none, .none] } }) :=
  .of_wp fun prog w A R s h => by
    obtain ⟨hp, g, d, tk, os⟩ := s; obtain ⟨hl, h⟩ := h
    have hsub := sub_enumerate
    have hL : Heap.IsTuple (Shared.heap ⟨hp, g, d, tk, os⟩) l items := ⟨_, hl, rfl, n, rfl⟩
    wp_walk using wpAny_loadPart' hl
    refine wpAny_stack_any fun st => wpAny_pure ?_
    split
    · rename_i c _ _ _ _ _
      cases (c == Value.type "enumerate")
      · wp_walk using wpAny_loadPart' hl, wpAny_pyIter_tuple hL
        exact ⟨_, rfl, h⟩
      · wp_walk using wpAny_loadPart' hl, wpAny_pyIter_tuple hL
        exact ⟨_, rfl, h⟩
    · wp_walk using wpAny_loadPart' hl, wpAny_pyIter_tuple hL
      exact ⟨_, rfl, h⟩
theorem call_enumerateT {prog : Program} {w : World} {A : Around} {E : Value → Shared → Prop} {s : Shared} {l : Addr} {items : Array Value} {Q : Value → Shared → Prop} (hL : s.heap.IsTuple l items)
    (h : ∀ h', IsEnum h' (s.heap.objs.size + 1) s.heap.objs.size 0 .none → h'.get? s.heap.objs.size = some { cls := .type "tuple_iterator", data := .fields #[.ref l, .int 0 0] } → h'.objs.size = s.heap.objs.size + 2 →
      (∀ b o, s.heap.get? b = some o → h'.get? b = some o) → Q (.ref (s.heap.objs.size + 1)) { s with heap := h' }) :
    wpAny (model prog w) A (call (.type "enumerate") [.ref l]) Q E s := by
  obtain ⟨⟨c, dct, dt, sl⟩, hl, hc, n, hd⟩ := hL
  replace hc : c = .type "tuple" := hc
  replace hd : dt = .seq items n := hd
  subst hc hd
  refine callType_new F.called_enumerate (by decide) (F.typeCall_enumerate_1 _) (F.newCall_enumerate_1 _) (fun obj => F.args_object_init_2 obj _) F.entry_enumerate_new
    (meets_enumerate_newT l items n dct sl) ⟨hl, ?_⟩
  have hz : (s.heap.push { cls := .type "tuple_iterator", data := .fields #[.ref l, .int 0 0] }).objs.size = s.heap.objs.size + 1 := Heap.size_push ..
  show _ ∧ _
  rw [hz]
  have he : IsEnum ((s.heap.push { cls := .type "tuple_iterator", data := .fields #[.ref l, .int 0 0] }).push
      { cls := .type "enumerate", data := .fields #[.none, .bool false, .ref s.heap.objs.size, rawInt 0, .none, .none] }) (s.heap.objs.size + 1) s.heap.objs.size 0 .none := by
    have := Heap.get?_push_size (s.heap.push { cls := .type "tuple_iterator", data := .fields #[.ref l, .int 0 0] })
      (o := { cls := .type "enumerate", data := .fields #[.none, .bool false, .ref s.heap.objs.size, rawInt 0, .none, .none] }) rfl
    rw [hz] at this; exact this
  refine ⟨⟨_, he, rfl⟩, h _ he (Heap.get?_push_of_some _ (Heap.get?_push_size _ rfl)) (by rw [Heap.size_push, hz]) fun b o x => Heap.get?_push_of_some _ (Heap.get?_push_of_some _ x)⟩
def IteT (K : PySem.W.Frag) (a : Addr) : It :=
  ⟨fun i H => ∃ (xs : List V) (x : V), SqT K H a xs ∧ xs[i]? = some x, fun i H v H' => ∃ T x, v = .ref T ∧ H T = none ∧ H' = upd H T (.tup [.int (i : Nat), x]) ∧ ∀ xs, SqT K H a xs → xs[i]? = some x, fun i H => ∃ xs : List V, SqT K H a xs ∧ xs.length ≤ i⟩
theorem turn_enumT {P : Program} {w : World} {K : PySem.W.Frag} {elts : List Expr} {kk : Nat} {tpos : Pos} (a e it : Addr) :
    Turn P w K (.Tuple elts kk tpos) (IteT K a) [e, it] e (fun i h => (∃ old, IsEnum h e it ((i : Nat) : Int) old) ∧ h.IsTupleIter it a i ∧ e ≠ it ∧ e ≠ a ∧ a ≠ it) where
  mem := by simp
  obj := fun i h st b hb => by
    obtain ⟨⟨old, he⟩, ⟨o, ho, hc, hd⟩, _⟩ := st
    have e' : b = e ∨ b = it := by simpa using hb
    rcases e' with z | z
    · rw [z]; exact ⟨_, he, fun v q => nomatch q⟩
    · rw [z]; exact ⟨o, ho, fun v q => by rw [hd] at q; cases q⟩
  keep := fun i h h' st k => let ⟨⟨old, he⟩, hi, hne⟩ := st; ⟨⟨old, k e (by simp) _ he⟩, hi.at fun o q => k it (by simp) o q, hne⟩
  item := by
    intro X hP hw hK hc i pins s σ H E I hf st hg
    subst hP hw hK
    obtain ⟨⟨old, he⟩, hit, hne, hea, hai⟩ := st
    obtain ⟨xs, x, hq, hx⟩ := hg
    obtain ⟨its, rv, p, hz⟩ := I.tuple hq
    obtain ⟨u, hu, ru⟩ := rv.get hx
    have hl := rv.length
    have hi : i < xs.length := by
      cases Nat.lt_or_ge i xs.length with
      | inl h => exact h
      | inr h2 => rw [List.getElem?_eq_none h2] at hx; cases hx
    have hel : e < s.heap.objs.size := Heap.lt_size he
    have hil : it < s.heap.objs.size := by obtain ⟨_, q, _⟩ := hit; exact Heap.lt_size q
    have pt : s.heap.IsTuple a its.toArray := p
    refine wpAny_pyNext_enum_itemD (Draws.tuple (A := X.A.in1) (show X.A.in1.handled = none from I.ok.hd hc) it a hai its.toArray) he ⟨hit, pt⟩ (by simp; omega) hne (by simp [hne, hea]) fun y h' tk hP ho st' hT hsz hk => ?_
    have ey : y = u := by
      have : its[i]? = some y := by simpa using hP
      rw [hu] at this
      exact (Option.some.inj this).symm
    subst ey
    refine ⟨_, rfl, wpAny_letOwnedTupleGo_enum (s := { s with heap := h', toks := tk + 1 }) ho fun h'' he' sb => ?_⟩
    have hT2 : h''.get? s.heap.objs.size = some { cls := .type "tuple", data := .seq #[.int i tk, y] } := (sb.2 _ (Nat.ne_of_gt hel)).trans hT
    have new : ObjOk X.prog X.w (upd H s.heap.objs.size (.tup [.int (i : Nat), x])) h'' s.heap.objs.size (.tup [.int (i : Nat), x]) :=
      ⟨by show 2 ≤ sizeLine; decide, [.int i tk, y], .cons ⟨_, rfl⟩ (.cons ru .nil), ⟨_, hT2, rfl, _, rfl⟩⟩
    have I1 : Inv X pins σ (upd H s.heap.objs.size (.tup [.int (i : Nat), x])) { s with heap := h'', toks := tk + 1 } :=
      I.turnedNew (ch := [e, it]) (fun b ob hb q => (sb.2 b (fun z => hb (by simp [z]))).trans (hk b ob (fun z => hb (by simp [z])) (fun z => hb (by simp [z])) q)) hf (Nat.le_refl _) new
    refine ⟨.ref s.heap.objs.size, _, I1, rfl, ⟨_, x, rfl, I.hok.fresh (Nat.le_refl _), rfl, fun ys hy => by rw [I.tuple_inj hy hq]; exact hx⟩, ⟨⟨y, ?_⟩, st'.1.at fun o q => (sb.2 it (Ne.symm hne)).trans q, hne, hea, hai⟩, fun b hb => ?_⟩
    · have e1 : ((i + 1 : Nat) : Int) = (i : Int) + 1 := by omega
      rw [e1]; exact he'
    · have hb' : b < s.heap.objs.size := by
        have e' : b = e ∨ b = it := by simpa using hb
        rcases e' with z | z
        · rw [z]; exact hel
        · rw [z]; exact hil
      rw [upd_ne (Nat.ne_of_lt hb')]
      exact (hf b hb).1
  done := by
    intro X hP hw hK hc i pins s σ H E I hf st hg
    subst hP hw hK
    obtain ⟨⟨old, he⟩, hit, hne, hea, hai⟩ := st
    obtain ⟨xs, hq, hx⟩ := hg
    obtain ⟨its, rv, p, hz⟩ := I.tuple hq
    obtain ⟨f0, f1, f2, f3, f4, f5⟩ := hf it (by simp)
    have hl := rv.length
    have hT : s.TypeIs (.ref e) "enumerate" := ⟨_, he, rfl⟩
    unfold pyNext
    refine wpAny_bind (wpAny_attempt (wpAny_callSpecial?_slot (name := Str.ofString "__next__") hT F.slot_enumerate_next
      (wpAny_call_entry F.slot_enumerate_next hT F.entry_enumerate_next ?_ (F.args_enumerate_next_1 _))))
    show wpAny _ _ (field (.ref e) 2 >>= _) _ _ _
    refine wpAny_bind (wpAny_field he rfl (x := .ref it) rfl ?_)
    refine wpAny_bind (wpAny_nextOf_tuple_end (items := its.toArray) (I.ok.hd hc) hit p (by simp; omega) fun h' x he' hx' => ?_)
    obtain ⟨o, ho, hc'⟩ := hx'
    refine wpAny_bind (wpAny_isInstance (T := "StopIteration") (b := true) ⟨o, ho, hc'⟩ isSubtype_stop ?_)
    exact wpAny_pure ⟨rfl, I.turned (t' := s.toks) (fun b o hb q => he' b o hb q) f0 f1 f3 f4 f5⟩
  self := fun A i s Q E st h => let ⟨⟨_, he⟩, _⟩ := st; wpAny_pyIter_enum he h
def iEnumT (K : PySem.W.Frag) (ta : TA) : TI := fun σ H R => ta σ H fun vs H1 => ∃ a xs, vs = [.ref a] ∧ SqT K H1 a xs ∧ R (IteT K a) H1
theorem pi_enumT {X : Cx} {e : Expr} {ta : TA} {p pos tpos : Pos} {elts : List Expr} {kk : Nat} (hg : Gl X "enumerate") (hm : X.mg "enumerate" = none) (ha : PA X [e] ta) (hs : starEach [e] X.env = [(false, eval e X.env)] := by rfl) :
    PI X (.Tuple elts kk tpos) (.Call (.Name "enumerate" p) [e] [] pos) (iEnumT X.K ta) := by
  refine ⟨fun pins s σ H R I h => ?_⟩
  refine Call_ (ld_blt I hg hm boot_enumerate (PyProof.Rows.callWith_type1 (thn (ha.run pos pins s σ H _ I h) fun us s1 ⟨vs, H1, I1, r1, q1⟩ => ?_) hs rfl))
  obtain ⟨a, xs, ex, hq, q⟩ := q1
  subst ex
  cases r1 with
  | cons r rr =>
    cases rr
    cases r
    obtain ⟨its, rv, p', hz⟩ := I1.tuple hq
    have pt : s1.heap.IsTuple a its.toArray := p'
    have hal : a < s1.heap.objs.size := by obtain ⟨_, q, _⟩ := pt; exact Heap.lt_size q
    refine call_enumerateT pt fun h' he hit hsz hk => wpAny_pyIter_enum he ?_
    have I2 : Inv X pins σ H1 { s1 with heap := h' } := I1.kept (t' := s1.toks) hk
    refine ⟨s1.heap.objs.size + 1, [s1.heap.objs.size + 1, s1.heap.objs.size], _, _, H1, rfl, I2, turn_enumT a (s1.heap.objs.size + 1) s1.heap.objs.size, ⟨⟨.none, he⟩, ⟨_, hit, rfl, rfl⟩, Nat.succ_ne_self _, Nat.ne_of_gt (Nat.lt_succ_of_lt hal), Nat.ne_of_lt hal⟩, fun b hb => ?_, q⟩
    have e' : b = s1.heap.objs.size + 1 ∨ b = s1.heap.objs.size := by simpa using hb
    have hle : s1.heap.objs.size ≤ b := by
      rcases e' with z | z
      · rw [z]; exact Nat.le_add_right _ _
      · rw [z]; exact Nat.le_refl _
    exact I1.fpOk hle (I1.hok.fresh hle)

section
variable {X : Cx} {y : DXw}
/-- (i, x) for each item of a tuple -/
def enD (xs : List D) : List D := xs.mapIdx fun i x => D.tup [.int (i : Int), x]
theorem enD_get {xs : List D} {i : Nat} : (enD xs)[i]? = xs[i]?.map fun x => D.tup [.int (i : Int), x] := by unfold enD; rw [List.getElem?_mapIdx]
theorem enD_len {xs : List D} : (enD xs).length = xs.length := by unfold enD; simp
def rEnum (t : RA) : RI := fun ρ S R => t ρ S fun ds S1 => match ds with
  | [.tup xs] => R (enD xs) (fun _ => True) S1
  | _ => False
theorem jok_enumT {K : PySem.W.Frag} {H1 : Hp} {S1 : Sto} {a : Addr} {xs : List D} {vs : List V} (h : StT K H1 a vs) (r : DVs K H1 xs vs) : JOk K H1 S1 (IteT K a) (enD xs) (fun _ => True) := by
  intro i H S g _
  have h2 := g.tup h
  have r2 := DVs.go g _ _ r
  refine ⟨fun x hx => ?_, fun hn => ⟨vs, h2.sq, ?_⟩⟩
  · rw [enD_get] at hx
    cases e : xs[i]? with
    | none => rw [e] at hx; cases hx
    | some d =>
      rw [e] at hx
      cases (Option.some.inj hx)
      obtain ⟨v, e2, dv⟩ := r2.get e
      refine ⟨⟨vs, v, h2.sq, e2⟩, fun w H' ⟨T, x, ew, hT, eH, hall⟩ => ?_⟩
      have := hall vs h2.sq
      rw [e2] at this
      cases (Option.some.inj this)
      subst ew eH
      have g2 := Go.new (K := K) (o := .tup [.int (i : Nat), v]) g.ok hT
      exact ⟨g2, T, _, rfl, .inl upd_same, DVs.cons rfl (DVs.cons (DV.go g2 _ _ dv) DVs.nil)⟩
  · rw [enD_get] at hn
    rw [← r.length]
    cases e : xs[i]? with
    | none => rw [List.getElem?_eq_none_iff] at e; exact e
    | some d => rw [e] at hn; cases hn
theorem pdi_enum {e : Expr} {ta : RA} {p pos tpos : Pos} {elts : List Expr} {kk : Nat} (hm : X.mg "enumerate" = none) (ha : PDA X y [e] ta) (hg : Gl X "enumerate" := by rfl) (hs : starEach [e] X.env = [(false, eval e X.env)] := by rfl) :
    PDI X y (.Tuple elts kk tpos) (.Call (.Name "enumerate" p) [e] [] pos) (rEnum ta) := by
  refine PDI.of (pi_enumT hg hm ha hs) fun σ H R h => ?_
  obtain ⟨ρ, S, Rd, sr, so, h, k⟩ := h
  refine ⟨ρ, S, _, sr, so, h, fun ds S1 vs H1 g dvs hn h1 => ?_⟩
  split at h1
  · rename_i xs
    obtain ⟨v, ws, rfl, dv, q⟩ := dvs
    cases (show ws = [] from q)
    obtain ⟨a, us, rfl, hT, r⟩ := dv
    exact ⟨a, us, rfl, hT.sq, k _ _ _ _ _ g (jok_enumT hT r) h1⟩
  · exact h1.elim
/-! ### comprehensions with two clauses: the new list stands in the store -/
theorem wipe_wipe (σ : L2.St) (l : List Nat) : L2.wipe (L2.wipe σ l) l = L2.wipe σ l := by
  have gen : ∀ (l l' : List Nat), (∀ i ∈ l, i ∈ l') → L2.wipe (L2.wipe σ l') l = L2.wipe σ l' := by
    intro l
    induction l with
    | nil => intro l' _; rfl
    | cons a l ih =>
      intro l' hl
      show (L2.wipe (L2.wipe σ l') l).set a none = L2.wipe σ l'
      rw [ih l' fun i hi => hl i (List.mem_cons_of_mem _ hi)]
      have ha' := hl a List.mem_cons_self
      apply List.ext_getElem?
      intro j
      by_cases hj : a = j
      · subst hj
        by_cases hb : a < (L2.wipe σ l').length
        · rw [List.getElem?_set_self hb]
          cases q : (L2.wipe σ l')[a]? with
          | none => rw [List.getElem?_eq_none_iff] at q; omega
          | some o =>
            cases o with
            | none => rfl
            | some x => exact absurd ha' (wipe_some q).2
        · rw [List.getElem?_eq_none (by simpa using hb), List.getElem?_eq_none (by simpa using hb)]
      · rw [List.getElem?_set_ne hj]
  exact gen l l fun _ h => h
def rLc2 (wi : RI) (p : Pat) (tt : RT) (wi1 : RI) (p1 : Pat) (tt1 : RT) (te : RE) (vs vs1 : List Nat) : RE := fun ρ S Q => wi ρ S fun xs src S1 => ∀ D0, S1 D0 = none → ∃ W : Nat → Sto → Prop, W 0 (sup S1 D0 (.lst [])) ∧ ∀ i S', W i S' → src S' ∧
  (∀ x, xs[i]? = some x → Pat.put p x (dwipe ρ vs) fun ρ2 => tt ρ2 S' fun b S3 => IFB b (wi1 ρ2 S3 fun ys src1 S4 => ∃ W1 : Nat → Sto → Prop, W1 0 S4 ∧ ∀ j S5, W1 j S5 → src1 S5 ∧
      (∀ z, ys[j]? = some z → Pat.put p1 z (dwipe ρ2 vs1) fun ρ3 => tt1 ρ3 S5 fun b S6 => IFB b (te ρ3 S6 fun d S7 => ∃ acc, S7 D0 = some (.lst acc) ∧ acc.length < sizeLine ∧ W1 (j + 1) (sup S7 D0 (.lst (acc ++ [d])))) (W1 (j + 1) S6)) ∧
      (j = ys.length → W (i + 1) S5)) (W (i + 1) S3)) ∧
  (i = xs.length → Q (.ref D0) S')
theorem lc2_of {wi wi1 : RI} {p p1 : Pat} {tt tt1 : RT} {te : RE} {vs vs1 : List Nat} {σ : L2.St} {H : Hp} {Q : VK} (ha : Pat.all vs p = true) (ha1 : Pat.all vs1 p1 = true) (h : lE X.K y (rLc2 wi p tt wi1 p1 tt1 te vs vs1) σ H Q) :
    tLc2 (lI X.K y wi) (Pat.g X.K p) (lT X.K y0 tt) (lI X.K y0 wi1) (Pat.g X.K p1) (lT X.K y0 tt1) (lE X.K y0 te) vs vs1 σ H Q := by
  obtain ⟨ρ, S, R, sr, so, h, k⟩ := h
  refine ⟨ρ, S, _, sr, so, h, fun xs src S1 J H1 g1 jo hD D0 hDn => ?_⟩
  obtain ⟨W, w0, hs⟩ := hD D0 (g1.ok.free hDn)
  have g0 := Go.newLst g1.ok hDn DVs.nil
  refine ⟨fun i m H2 => ∃ S2, m = xs.length - i ∧ i ≤ xs.length ∧ Go X.K H1 S1 H2 S2 ∧ W i S2, ⟨_, _, rfl, Nat.zero_le _, g0, w0⟩, ?_⟩
  rintro i m H2 ⟨S2, rfl, hi, g2, w2⟩
  obtain ⟨hsrc, hturn, hend⟩ := hs i S2 w2
  obtain ⟨j1, j2⟩ := jo i H2 S2 g2 hsrc
  by_cases hlt : i < xs.length
  · have hx : xs[i]? = some xs[i] := List.getElem?_eq_getElem hlt
    obtain ⟨jg, jy⟩ := j1 _ hx
    refine .inr ⟨jg, fun H3 => ∃ S3, Go X.K H1 S1 H3 S3 ∧ W (i + 1) S3, fun H3 ⟨S3, g3, a4⟩ => ⟨xs.length - (i + 1), by omega, S3, rfl, hlt, g3, a4⟩, fun v H3 hy => ?_⟩
    obtain ⟨g3, dv⟩ := jy v H3 hy
    have gA := g2.trans g3
    refine Pat.ok p _ v _ _ _ ha dv (((sr.go g1).go gA).wipe vs) (hturn _ hx) fun ρ3 σ3 sr3 hw h3 => ⟨by rw [hw, wipe_wipe], ?_⟩
    refine ⟨ρ3, S2, _, sr3, sx0 gA.ok, h3, fun b S4 H4 g4 h4 => ?_⟩
    refine ite_of_IFB h4 (fun z => ⟨ρ3, S4, _, sr3.go g4, sx0 g4.ok, z, fun ys src1 S5 J1 H5 g5 jo1 ⟨W1, w10, hs1⟩ => ?_⟩) fun z => ⟨S4, gA.trans g4, z⟩
    have gB := (gA.trans g4).trans g5
    refine ⟨fun j k H6 => ∃ S6, k = ys.length - j ∧ j ≤ ys.length ∧ Go X.K H5 S5 H6 S6 ∧ W1 j S6, ⟨_, S5, rfl, Nat.zero_le _, Go.refl g5.ok, w10⟩, ?_⟩
    rintro j k H6 ⟨S6, rfl, hj, g6, w6⟩
    obtain ⟨hsrc1, hturn1, hend1⟩ := hs1 j S6 w6
    obtain ⟨i1, i2⟩ := jo1 j H6 S6 g6 hsrc1
    by_cases hlt1 : j < ys.length
    · have hz : ys[j]? = some ys[j] := List.getElem?_eq_getElem hlt1
      obtain ⟨jg1, jy1⟩ := i1 _ hz
      refine .inr ⟨jg1, fun H7 => ∃ S7, Go X.K H5 S5 H7 S7 ∧ W1 (j + 1) S7, fun H7 ⟨S7, g7, a4⟩ => ⟨ys.length - (j + 1), by omega, S7, rfl, hlt1, g7, a4⟩, fun v H7 hy1 => ?_⟩
      obtain ⟨g7, dv7⟩ := jy1 v H7 hy1
      have gC := g6.trans g7
      refine Pat.ok p1 _ v _ _ _ ha1 dv7 ((((sr3.go g4).go g5).go gC).wipe vs1) (hturn1 _ hz) fun ρ4 σ4 sr4 hw4 h5 => ⟨by rw [hw4, wipe_wipe], ?_⟩
      refine ⟨ρ4, S6, _, sr4, sx0 gC.ok, h5, fun b S8 H8 g8 h8 => ?_⟩
      refine ite_of_IFB h8 (fun z => ⟨ρ4, S8, _, sr4.go g8, sx0 g8.ok, z, fun d S9 w H9 g9 dv9 ⟨acc, eD, hl, w9⟩ => ?_⟩) fun z => ⟨S8, gC.trans g8, z⟩
      obtain ⟨ws, hD9, r9⟩ := g9.ok D0 _ eD
      exact ⟨ws, hD9, by rw [← r9.length]; exact hl, _, ((gC.trans g8).trans g9).trans (Go.setLst g9.ok eD (r9.append (DVs.cons dv9 DVs.nil))), w9⟩
    · have e : j = ys.length := by omega
      subst e
      exact .inl ⟨i2 (by simp), S6, gB.trans g6, hend1 rfl⟩
  · have e : i = xs.length := by omega
    subst e
    exact .inl ⟨j2 (by simp), k (.ref D0) _ _ _ (g1.trans g2) rfl (hend rfl)⟩
theorem pd_lc2 {elt tg iter tg1 iter1 : Expr} {ifs ifs1 : List Expr} {scope : Scope} {own : List (Str × Nat)} {vs1 : List Nat} {pos : Pos} {wi wi1 : RI} {p p1 : Pat} {tt tt1 : RT} {te : RE} (hc : X.calm = true) (hN : X.N.Nodup) (hi : PDI X y tg iter wi) (ok : BlkOk X.N X.env.scope scope own)
    (hg : ∀ (s : Shared) (H : Hp) (C : Addr) (cl : List (Str × Addr)) (fp : List Addr), PG (X.blk s H scope (compEnvC scope cl C X.env) fp) tg (Pat.g X.K p)) (ht : ∀ (s : Shared) (H : Hp) (C : Addr) (cl : List (Str × Addr)) (fp : List Addr), PDTs (X.blk s H scope (compEnvC scope cl C X.env) fp) y0 ifs tt)
    (hi1 : ∀ (s : Shared) (H : Hp) (C : Addr) (cl : List (Str × Addr)) (fp : List Addr), PDI (X.blk s H scope (compEnvC scope cl C X.env) fp) y0 tg1 iter1 wi1)
    (hg1 : ∀ (s : Shared) (H : Hp) (C : Addr) (cl : List (Str × Addr)) (fp : List Addr), PG (X.blk s H scope (compEnvC scope cl C X.env) fp) tg1 (Pat.g X.K p1)) (ht1 : ∀ (s : Shared) (H : Hp) (C : Addr) (cl : List (Str × Addr)) (fp : List Addr), PDTs (X.blk s H scope (compEnvC scope cl C X.env) fp) y0 ifs1 tt1)
    (he : ∀ (s : Shared) (H : Hp) (C : Addr) (cl : List (Str × Addr)) (fp : List Addr), PD (X.blk s H scope (compEnvC scope cl C X.env) fp) y0 elt te) (hv1 : ∀ i ∈ vs1, i ∈ own.map (·.2) := by decide) (hv : Pat.all (own.map (·.2)) p = true := by rfl) (hv2 : Pat.all vs1 p1 = true := by rfl) (hs : ∀ x, foldedSetIterable iter X.env x = pure x := by intro _; rfl) (hs1 : ∀ env x, foldedSetIterable iter1 env x = pure x := by intro _ _; rfl) :
    PD X y (.ListComp elt [⟨tg, iter, ifs, 0⟩, ⟨tg1, iter1, ifs1, 0⟩] scope pos) (rLc2 wi p tt wi1 p1 tt1 te (own.map (·.2)) vs1) :=
  PD.of (pe_lc2 (wi1 := lI X.K y0 wi1) (tt := lT X.K y0 tt) (tt1 := lT X.K y0 tt1) (te := lE X.K y0 te) hc hN hi ok hv1 hg ht hi1 hg1 ht1 he hs hs1) fun σ H Q h => lc2_of hv hv2 h
end
end DL
set_option Elab.async false
set_option linter.all false
set_option maxRecDepth 100000
set_option maxHeartbeats 4000000
namespace DL
open PySem PySem.Spec PyProof.Rows L2
/-! ### sizes of fractions -/
def RB (n : Nat) (q : Rat) : Prop := q.num.natAbs < 2 ^ n ∧ q.den < 2 ^ n
theorem lt_up {x a b : Nat} (h : x < 2 ^ a) (hab : a ≤ b) : x < 2 ^ b := Nat.lt_of_lt_of_le h (Nat.pow_le_pow_right (by decide) hab)
theorem RB.mono {n m : Nat} {q : Rat} (h : RB n q) (l : n ≤ m) : RB m q := ⟨lt_up h.1 l, lt_up h.2 l⟩
theorem rb_div {t b : Int} {n : Nat} (hb : 0 < b) (h1 : t.natAbs < 2 ^ n) (h2 : b.natAbs < 2 ^ n) : RB n ((t : Rat) / (b : Rat)) := by
  constructor
  · rw [← low_num hb]
    exact Nat.lt_of_le_of_lt (by rw [Int.natAbs_ediv_of_dvd (Int.natAbs_dvd_natAbs.mp (by rw [Int.natAbs_natCast]; exact Nat.gcd_dvd_left _ _))]; exact Nat.div_le_self _ _) h1
  · have e := low_den (t := t) hb
    have : ((((t : Rat) / (b : Rat)).den : Nat) : Int) ≤ b := by
      rw [← e]
      exact Int.ediv_le_self _ (by omega)
    omega
/-- q is so many N-ths -/
def Ov (N : Int) (q : Rat) : Prop := ∃ k : Int, q = (k : Rat) / (N : Rat)
theorem ratNe {N : Int} (h : 0 < N) : (N : Rat) ≠ 0 := fun z => by
  have := Rat.intCast_inj.mp (z.trans Rat.intCast_zero.symm)
  omega
theorem ratPos {N : Int} (h : 0 < N) : (0 : Rat) < (N : Rat) := by
  have := Rat.intCast_lt_intCast.mpr h
  simpa using this
theorem ov_add {N : Int} (h : 0 < N) {a b : Rat} (ha : Ov N a) (hb : Ov N b) : Ov N (a + b) := by
  obtain ⟨k, rfl⟩ := ha
  obtain ⟨l, rfl⟩ := hb
  refine ⟨k + l, ?_⟩
  rw [Rat.intCast_add]
  have := ratNe h
  grind
theorem ov_mul {N M : Int} (h : 0 < N) (h' : 0 < M) {a b : Rat} (ha : Ov N a) (hb : Ov M b) : Ov (N * M) (a * b) := by
  obtain ⟨k, rfl⟩ := ha
  obtain ⟨l, rfl⟩ := hb
  refine ⟨k * l, ?_⟩
  rw [Rat.intCast_mul, Rat.intCast_mul]
  have := ratNe h
  have := ratNe h'
  grind
theorem ov_zero (N : Int) : Ov N 0 := ⟨0, by rw [Rat.intCast_zero, Rat.div_def, Rat.zero_mul]⟩
theorem ov_one {N : Int} (h : 0 < N) : Ov N 1 := ⟨N, by have := ratNe h; grind⟩
theorem ov_rb {N : Int} (h : 0 < N) {n : Nat} (hn : N.natAbs < 2 ^ n) {q : Rat} (o : Ov N q) (h0 : 0 ≤ q) (h1 : q ≤ 1) : RB n q := by
  obtain ⟨k, rfl⟩ := o
  have hp := ratPos h
  have e : ((k : Rat) / (N : Rat)) * (N : Rat) = (k : Rat) := by
    have := ratNe h
    grind
  have k0 : 0 ≤ k := by
    have : (0 : Rat) ≤ (k : Rat) := by rw [← e]; exact Rat.mul_nonneg h0 (Rat.le_of_lt hp)
    exact Rat.intCast_le_intCast.mp (by simpa using this)
  have k1 : k ≤ N := by
    have : (k : Rat) ≤ (N : Rat) := by
      rw [← e]
      have := Rat.mul_le_mul_of_nonneg_right h1 (Rat.le_of_lt hp)
      simpa using this
    exact Rat.intCast_le_intCast.mp this
  exact rb_div h (by omega) hn
/-! ### shares -/
def shD (qs : List Rat) : D := .tup (qs.map fr)
structure Sh (N : Int) (qs : List Rat) : Prop where
  pos : 0 < N
  ne : qs ≠ []
  all : ∀ q ∈ qs, 0 < q ∧ Ov N q
  sum : qs.sum = 1
theorem sum_nonneg : ∀ {qs : List Rat}, (∀ q ∈ qs, (0 : Rat) ≤ q) → 0 ≤ qs.sum
  | [], _ => by simp
  | q :: qs, h => by
    have h1 := h q List.mem_cons_self
    have h2 := sum_nonneg (qs := qs) fun x hx => h x (List.mem_cons_of_mem _ hx)
    rw [List.sum_cons]
    grind
theorem mem_le_sum : ∀ {qs : List Rat}, (∀ q ∈ qs, (0 : Rat) ≤ q) → ∀ q ∈ qs, q ≤ qs.sum
  | x :: qs, h, q, hq => by
    have h1 := h x List.mem_cons_self
    have hs : ∀ q ∈ qs, (0 : Rat) ≤ q := fun y hy => h y (List.mem_cons_of_mem _ hy)
    have h2 := sum_nonneg hs
    rw [List.sum_cons]
    rcases List.mem_cons.mp hq with rfl | hq
    · grind
    · have := mem_le_sum hs q hq
      grind
theorem take_le_sum {qs : List Rat} (h : ∀ q ∈ qs, (0 : Rat) ≤ q) (i : Nat) : (qs.take i).sum ≤ qs.sum := by
  have e : qs.sum = (qs.take i).sum + (qs.drop i).sum := by rw [← List.sum_append, List.take_append_drop]
  have := sum_nonneg (qs := qs.drop i) fun q hq => h q (List.mem_of_mem_drop hq)
  grind
theorem ov_sum {N : Int} (hN : 0 < N) : ∀ {qs : List Rat}, (∀ q ∈ qs, Ov N q) → Ov N qs.sum
  | [], _ => by simpa using ov_zero N
  | q :: qs, h => by
    rw [List.sum_cons]
    exact ov_add hN (h q List.mem_cons_self) (ov_sum hN fun x hx => h x (List.mem_cons_of_mem _ hx))
theorem Sh.le1 {N : Int} {qs : List Rat} (s : Sh N qs) {q : Rat} (h : q ∈ qs) : q ≤ 1 := s.sum ▸ mem_le_sum (fun x hx => Rat.le_of_lt (s.all x hx).1) q h
theorem Sh.rb {N : Int} {qs : List Rat} (s : Sh N qs) {n : Nat} (hn : N.natAbs < 2 ^ n) {q : Rat} (h : q ∈ qs) : RB n q := ov_rb s.pos hn (s.all q h).2 (Rat.le_of_lt (s.all q h).1) (s.le1 h)
/-! ### equal fractions -/
theorem pyr_fr {S : Sto} (q : Rat) : PyR S (fr q) (.tuple [.int q.num, .int (q.den : Int)]) := .tup (.cons (.int _) (.cons (.int _) .nil))
theorem eq_fr {S : Sto} {R : D → Sto → Prop} (q : Rat) (h : R (.bl true) S) : dEqG false (fr q) (fr q) S R :=
  ⟨_, _, pyr_fr q, pyr_fr q, rfl, rfl, by
    have : PyData.eqv (.tuple [.int q.num, .int (q.den : Int)]) (.tuple [.int q.num, .int (q.den : Int)]) = true := SeqAt.eqv_refl _ rfl
    rw [if_neg (by decide), this]; exact h⟩
theorem fr1 : D.tup [.int 1, .int 1] = fr 1 := rfl
theorem fr0 : D.tup [.int 0, .int 1] = fr 0 := rfl
end DL
namespace DL
open PySem PySem.Spec PyProof.Rows L2
/-! ### things put together: shares with marks -/
def sel (ps : List (Rat × Bool)) : List Rat := (ps.filter (·.2)).map (·.1)
def tog (T : Rat) (ps : List (Rat × Bool)) : List Rat := match ps with
  | [] => []
  | (q, false) :: ps => q :: tog T ps
  | (_, true) :: ps => T :: (ps.filter (!·.2)).map (·.1)
def idx (k : Nat) : List (Rat × Bool) → List Nat
  | [] => []
  | (_, b) :: ps => if b then k :: idx (k + 1) ps else idx (k + 1) ps
theorem tog_push (T : Rat) (x : Rat × Bool) : ∀ ps, tog T (ps ++ [x]) = tog T ps ++ (if x.2 then (if ps.any (·.2) then [] else [T]) else [x.1])
  | [] => by
    obtain ⟨q, b⟩ := x
    cases b <;> rfl
  | (q, false) :: ps => by
    show q :: tog T (ps ++ [x]) = q :: (tog T ps ++ _)
    rw [tog_push T x ps]
    rfl
  | (q, true) :: ps => by
    show T :: ((ps ++ [x]).filter (!·.2)).map (·.1) = T :: ((ps.filter (!·.2)).map (·.1) ++ _)
    rw [List.filter_append, List.map_append]
    obtain ⟨r, b⟩ := x
    cases b <;> rfl
theorem idx_ge : ∀ (ps : List (Rat × Bool)) (k i : Nat), i ∈ idx k ps → k ≤ i
  | [], _, _, h => by cases h
  | (q, b) :: ps, k, i, h => by
    unfold idx at h
    cases b with
    | false => exact Nat.le_of_succ_le (idx_ge ps (k + 1) i (by simpa using h))
    | true =>
      rcases List.mem_cons.mp (by simpa using h) with rfl | h
      · exact Nat.le_refl _
      · exact Nat.le_of_succ_le (idx_ge ps (k + 1) i h)
theorem idx_mem : ∀ (ps : List (Rat × Bool)) (k j : Nat), (k + j ∈ idx k ps) ↔ ∃ q, ps[j]? = some (q, true)
  | [], k, j => by simp [idx]
  | (q, b) :: ps, k, 0 => by
    have : ¬ k ∈ idx (k + 1) ps := fun z => by have := idx_ge ps _ _ z; omega
    unfold idx
    cases b <;> simp [this]
  | (q, b) :: ps, k, j + 1 => by
    have := idx_mem ps (k + 1) j
    rw [show k + 1 + j = k + (j + 1) by omega] at this
    unfold idx
    cases b with
    | false => simpa using this
    | true => simpa using this
theorem idx_head : ∀ (ps : List (Rat × Bool)) (k j : Nat), (idx k ps).head? = some (k + j) ↔ (∃ q, ps[j]? = some (q, true)) ∧ (ps.take j).any (·.2) = false
  | [], k, j => by simp [idx]
  | (q, b) :: ps, k, 0 => by
    unfold idx
    cases b with
    | false =>
      have : ¬ (idx (k + 1) ps).head? = some k := fun z => by
        have := idx_ge ps _ _ (List.mem_of_mem_head? z)
        omega
      simpa using this
    | true => simp
  | (q, b) :: ps, k, j + 1 => by
    have := idx_head ps (k + 1) j
    rw [show k + 1 + j = k + (j + 1) by omega] at this
    unfold idx
    cases b with
    | false => simpa using this
    | true => simp
theorem idx_append : ∀ (as bs : List (Rat × Bool)) (k : Nat), idx k (as ++ bs) = idx k as ++ idx (k + as.length) bs
  | [], bs, k => rfl
  | (q, b) :: as, bs, k => by
    show (if b then k :: idx (k + 1) (as ++ bs) else idx (k + 1) (as ++ bs)) = (if b then k :: idx (k + 1) as else idx (k + 1) as) ++ _
    rw [idx_append as bs (k + 1), List.length_cons, show k + 1 + as.length = k + (as.length + 1) by omega]
    cases b <;> simp
theorem idx_get : ∀ (ps : List (Rat × Bool)) (k : Nat), (idx k ps).map (fun i => (ps.map (·.1))[i - k]?) = (sel ps).map some
  | [], _ => rfl
  | (q, b) :: ps, k => by
    have ih := idx_get ps (k + 1)
    have e : (idx (k + 1) ps).map (fun i => (((q, b) :: ps).map (·.1))[i - k]?) = (idx (k + 1) ps).map (fun i => (ps.map (·.1))[i - (k + 1)]?) := by
      apply List.map_congr_left
      intro i hi
      have := idx_ge ps _ _ hi
      rw [List.map_cons, show i - k = (i - (k + 1)) + 1 by omega]
      rfl
    unfold idx sel
    cases b with
    | false => simpa [sel] using e.trans ih
    | true => simpa [sel] using e.trans ih
theorem tog_sum : ∀ (ps : List (Rat × Bool)), ps.any (·.2) = true → (tog (sel ps).sum ps).sum = (ps.map (·.1)).sum := by
  have key : ∀ ps : List (Rat × Bool), ((ps.filter (!·.2)).map (·.1)).sum + (sel ps).sum = (ps.map (·.1)).sum := by
    intro ps
    induction ps with
    | nil => simp [sel]; try grind
    | cons x ps ih =>
      obtain ⟨q, b⟩ := x
      cases b <;> simp [sel] at ih ⊢ <;> grind
  have gen : ∀ (T : Rat) (ps : List (Rat × Bool)), ps.any (·.2) = true → (tog T ps).sum = T + ((ps.filter (!·.2)).map (·.1)).sum := by
    intro T ps
    induction ps with
    | nil => intro h; cases h
    | cons x ps ih =>
      intro h
      obtain ⟨q, b⟩ := x
      cases b with
      | true => simp [tog]
      | false =>
        have := ih (by simpa using h)
        simp [tog, this]
        grind
  intro ps h
  rw [gen _ _ h, ← key ps]
  grind
theorem sel_mem {ps : List (Rat × Bool)} {q : Rat} (h : q ∈ sel ps) : q ∈ ps.map (·.1) := by
  unfold sel at h
  obtain ⟨x, hx, rfl⟩ := List.mem_map.mp h
  exact List.mem_map.mpr ⟨x, (List.mem_filter.mp hx).1, rfl⟩
theorem sel_le {ps : List (Rat × Bool)} (h : ∀ q ∈ ps.map (·.1), (0 : Rat) ≤ q) : (sel ps).sum ≤ (ps.map (·.1)).sum := by
  induction ps with
  | nil => simp [sel]
  | cons x ps ih =>
    obtain ⟨q, b⟩ := x
    have h0 := h q (by simp)
    have := ih fun q hq => h q (List.mem_cons_of_mem _ hq)
    cases b <;> simp [sel] at this ⊢ <;> grind
theorem tog_mem {T : Rat} : ∀ {ps : List (Rat × Bool)} {q : Rat}, q ∈ tog T ps → q = T ∨ q ∈ ps.map (·.1)
  | [], _, h => by cases h
  | (r, false) :: ps, q, h => by
    rcases List.mem_cons.mp (show q ∈ r :: tog T ps from h) with rfl | h
    · exact .inr (by simp)
    · rcases tog_mem h with h | h
      · exact .inl h
      · exact .inr (List.mem_cons_of_mem _ h)
  | (r, true) :: ps, q, h => by
    rcases List.mem_cons.mp (show q ∈ T :: (ps.filter (!·.2)).map (·.1) from h) with rfl | h
    · exact .inl rfl
    · obtain ⟨x, hx, rfl⟩ := List.mem_map.mp h
      exact .inr (List.mem_cons_of_mem _ (List.mem_map.mpr ⟨x, (List.mem_filter.mp hx).1, rfl⟩))
theorem Sh.tog {N : Int} {ps : List (Rat × Bool)} (s : Sh N (ps.map (·.1))) (h : ps.any (·.2) = true) : Sh N (DL.tog (sel ps).sum ps) := by
  refine ⟨s.pos, fun z => ?_, fun q hq => ?_, by rw [tog_sum ps h]; exact s.sum⟩
  · have := tog_sum ps h
    rw [z, s.sum] at this
    simp at this
  · rcases tog_mem hq with rfl | hq
    · refine ⟨?_, ov_sum s.pos fun q hq => (s.all q (sel_mem hq)).2⟩
      obtain ⟨x, hx, hb⟩ := List.any_eq_true.mp h
      have hm : x.1 ∈ sel ps := List.mem_map.mpr ⟨x, List.mem_filter.mpr ⟨hx, hb⟩, rfl⟩
      have h1 := (s.all _ (sel_mem hm)).1
      have h2 := mem_le_sum (fun q hq => Rat.le_of_lt (s.all q (sel_mem hq)).1) _ hm
      grind
    · exact s.all q hq
/-! ### both -/
def prods (as bs : List Rat) : List Rat := as.flatMap fun a => bs.map fun b => a * b
theorem sum_mul (a : Rat) : ∀ bs : List Rat, (bs.map fun b => a * b).sum = a * bs.sum
  | [] => by simp
  | b :: bs => by
    rw [List.map_cons, List.sum_cons, List.sum_cons, sum_mul a bs]
    grind
theorem prods_sum (bs : List Rat) : ∀ as : List Rat, (prods as bs).sum = as.sum * bs.sum
  | [] => by simp [prods]
  | a :: as => by
    have := prods_sum bs as
    unfold prods at this ⊢
    rw [List.flatMap_cons, List.sum_append, this, sum_mul, List.sum_cons]
    grind
theorem Sh.prods {N M : Int} {as bs : List Rat} (s : Sh N as) (t : Sh M bs) : Sh (N * M) (DL.prods as bs) := by
  refine ⟨Int.mul_pos s.pos t.pos, fun z => ?_, fun q hq => ?_, by rw [prods_sum, s.sum, t.sum]; grind⟩
  · have := prods_sum bs as
    rw [z, s.sum, t.sum] at this
    simp at this
  · unfold DL.prods at hq
    obtain ⟨a, ha, hq⟩ := List.mem_flatMap.mp hq
    obtain ⟨b, hb, rfl⟩ := List.mem_map.mp hq
    exact ⟨Rat.mul_pos (s.all a ha).1 (t.all b hb).1, ov_mul s.pos t.pos (s.all a ha).2 (t.all b hb).2⟩

theorem const_tup2 {K : PySem.W.Frag} {z : Addr} {od : Option Addr} {i j : Int} {t u : Tok} {n : Nat} {sl : Array (Option Value)} (l : K.lookup z = some ⟨.type "tuple", od, .seq #[.int i t, .int j u] n, sl⟩) : ∀ H, DV K H (.tup [.int i, .int j]) (.ref z) := fun H =>
  ⟨z, [.int i, .int j], rfl, .inr ⟨_, _, _, l, rfl, rfl, (show 2 ≤ 16777216 by decide), .cons ⟨_, rfl⟩ (.cons ⟨_, rfl⟩ .nil)⟩, DVs.cons rfl (DVs.cons rfl DVs.nil)⟩
def nts (ts : List Nat) : D := .tup (ts.map fun (t : Nat) => D.int (t : Int))
theorem inD_nat (i : Nat) (ts : List Nat) : inD (.int (i : Int)) (ts.map fun (t : Nat) => D.int (t : Int)) = decide (i ∈ ts) := by
  induction ts with
  | nil => rfl
  | cons t ts ih =>
    unfold inD inV at ih ⊢
    simp only [List.map_cons, List.any_cons] at ih ⊢
    rw [ih]
    have : eqV (fl (.int (t : Int))) (fl (.int (i : Int))) = decide (i = t) := by
      show ((t : Int) == (i : Int)) = decide (i = t)
      by_cases h : i = t
      · subst h; simp
      · rw [decide_eq_false h]; simp; omega
    rw [this]
    simp
end DL
namespace DL
theorem fr_at {qs : List Rat} {i : Nat} {x : D} (h : (qs.map fr)[i]? = some x) : ∃ q, qs[i]? = some q ∧ x = fr q := by
  rw [List.getElem?_map] at h
  cases e : qs[i]? with
  | none => rw [e] at h; cases h
  | some q => rw [e] at h; exact ⟨q, rfl, (Option.some.inj h).symm⟩
theorem take_succ_sum {qs : List Rat} {i : Nat} {q : Rat} (h : qs[i]? = some q) : (qs.take (i + 1)).sum = (qs.take i).sum + q := by
  rw [List.take_succ, h, List.sum_append]
  simp only [Option.toList_some, List.sum_cons, List.sum_nil]
  grind

theorem idx_len : ∀ (ps : List (Rat × Bool)) (k : Nat), (idx k ps).length ≤ ps.length
  | [], _ => Nat.le_refl _
  | (q, b) :: ps, k => by
    have := idx_len ps (k + 1)
    unfold idx
    cases b <;> simp <;> omega
theorem idx_lt (ps : List (Rat × Bool)) (t : Nat) (h : t ∈ idx 0 ps) : t < ps.length := by
  obtain ⟨q, hq⟩ := (idx_mem ps 0 t).mp (by rw [Nat.zero_add]; exact h)
  cases Nat.lt_or_ge t ps.length with
  | inl h => exact h
  | inr h2 => rw [List.getElem?_eq_none h2] at hq; cases hq
theorem idx_asc : ∀ (ps : List (Rat × Bool)) (k : Nat), (idx k ps).Pairwise (· < ·)
  | [], _ => .nil
  | (q, b) :: ps, k => by
    have := idx_asc ps (k + 1)
    unfold idx
    cases b with
    | false => simpa using this
    | true => exact .cons (fun i hi => idx_ge ps _ _ hi) this
theorem idx_ne {ps : List (Rat × Bool)} (h : ps.any (·.2) = true) : idx 0 ps ≠ [] := fun z => by
  obtain ⟨x, hx, hb⟩ := List.any_eq_true.mp h
  obtain ⟨j, hj, rfl⟩ := List.mem_iff_getElem.mp hx
  have := (idx_mem ps 0 j).mpr ⟨ps[j].1, by rw [List.getElem?_eq_getElem hj, ← hb]⟩
  rw [z] at this
  cases this
theorem tog_len (T : Rat) : ∀ ps : List (Rat × Bool), (tog T ps).length ≤ ps.length
  | [] => Nat.le_refl _
  | (q, false) :: ps => by
    have := tog_len T ps
    show (q :: tog T ps).length ≤ _
    simp; omega
  | (q, true) :: ps => by
    have := List.length_filter_le (fun x : Rat × Bool => !x.2) ps
    show (T :: (ps.filter (!·.2)).map (·.1)).length ≤ _
    simp; omega
def pickD (qs : List Rat) : D → D
  | .int t => fr (qs[t.toNat]?.getD 0)
  | d => d
def mulD (a : Rat) : D → D
  | .tup [.int n, .int m] => fr (a * ((n : Rat) / (m : Rat)))
  | d => d
theorem mulD_fr (a q : Rat) : mulD a (fr q) = fr (a * q) := by
  show fr (a * ((q.num : Rat) / (((q.den : Nat) : Int) : Rat))) = fr (a * q)
  rw [num_div_den']
theorem sel_vals (ps : List (Rat × Bool)) : ((idx 0 ps).map fun (t : Nat) => D.int (t : Int)).map (pickD (ps.map (·.1))) = (sel ps).map fr := by
  have h := idx_get ps 0
  rw [List.map_map]
  have e : (idx 0 ps).map (fun (t : Nat) => fr ((ps.map (·.1))[t]?.getD 0)) = ((idx 0 ps).map fun i => (ps.map (·.1))[i - 0]?).map fun o => fr (o.getD 0) := by rw [List.map_map]; rfl
  have e2 : ((sel ps).map some).map (fun o => fr (o.getD 0)) = (sel ps).map fr := by rw [List.map_map]; rfl
  rw [← e2, ← h, ← e]
  rfl
theorem prods_len (as bs : List Rat) : (prods as bs).length = as.length * bs.length := by
  unfold prods
  induction as with
  | nil => simp
  | cons a as ih => rw [List.flatMap_cons, List.length_append, ih, List.length_map, List.length_cons, Nat.succ_mul]; omega

theorem trues {xs : List D} : (xs.map fun _ => D.bl true) = (xs.map fun _ => true).map D.bl := by rw [List.map_map]; rfl
theorem num_pos' {q : Rat} (h : 0 < q) : 0 < q.num := by
  have h1 := Rat.num_nonneg.mpr (Rat.le_of_lt h)
  rcases Int.lt_or_eq_of_le h1 with h2 | h2
  · exact h2
  · have := num_div_den' q
    rw [← h2, Rat.intCast_zero, Rat.div_def, Rat.zero_mul] at this
    rw [← this] at h
    exact absurd h (by decide +kernel)

theorem sameD.ext : ∀ {n : Nat} {S S' : Sto} {x y : D}, sameD S n x y → Ext S S' → sameD S' n x y
  | 0, _, _, _, _, h, _ => h.elim
  | n + 1, S, S', x, y, h, e => by
    have lst : (∃ xs ys, RdL S y xs ∧ RdL S x ys ∧ ys.length = xs.length ∧ xs.length < 1000000 ∧ ∀ (i : Nat) u v, ys[i]? = some u → xs[i]? = some v → sameD S n u v) →
        ∃ xs ys, RdL S' y xs ∧ RdL S' x ys ∧ ys.length = xs.length ∧ xs.length < 1000000 ∧ ∀ (i : Nat) u v, ys[i]? = some u → xs[i]? = some v → sameD S' n u v :=
      fun ⟨xs, ys, hx, hy, hl, hb, hq⟩ => ⟨xs, ys, e.rd hx, e.rd hy, hl, hb, fun i u v h1 h2 => (hq i u v h1 h2).ext e⟩
    cases y with
    | non => exact h
    | bl b => exact h
    | int b => exact h
    | str b => exact h
    | tup xs =>
      obtain ⟨ys, h1, hl, hb, hq⟩ := h
      exact ⟨ys, h1, hl, hb, fun i u v h1 h2 => (hq i u v h1 h2).ext e⟩
    | ty _ => exact lst h
    | ref _ => exact lst h
    | fro _ => exact lst h
    | exc _ _ => exact lst h
end DL
set_option Elab.async false
set_option linter.all false
set_option maxRecDepth 100000
set_option maxHeartbeats 4000000
namespace DL
open PySem PySem.Spec PyProof.Rows L2
section
variable {X : Cx} {y : DXw}
/-! ### list.pop(i), zip of lists, range with a step, is True -/
def dPopAt : RMt := fun o ds S R => match o, ds with
  | .ref a, [.int i] => ∃ xs k d, S a = some (.lst xs) ∧ -(2 ^ 63) ≤ i ∧ i < 2 ^ 63 ∧ seqIndex? i xs.length = some k ∧ xs[k]? = some d ∧ R d (sup S a (.lst (xs.eraseIdx k)))
  | _, _ => False
theorem DVs.eraseIdx {K : PySem.W.Frag} {H : Hp} : ∀ {ds : List D} {vs : List V} (k : Nat), DVs K H ds vs → DVs K H (ds.eraseIdx k) (vs.eraseIdx k)
  | [], vs, k, h => by cases (show vs = [] from h); exact rfl
  | d :: ds, vs, 0, h => by
    obtain ⟨v, ws, rfl, _, h2⟩ := h
    exact h2
  | d :: ds, vs, k + 1, h => by
    obtain ⟨v, ws, rfl, h1, h2⟩ := h
    exact ⟨v, _, rfl, h1, DVs.eraseIdx k h2⟩
theorem md_popAt : MtR X "list.pop" (lmt X.K dPopAt) := by
  intro pins s σ H v vs vv us Q I rv rs h
  obtain ⟨o, ds, S, R, dv, dvs, so, h, k⟩ := h
  refine mt_popAt pins s σ H v vs vv us Q I rv rs ?_
  unfold dPopAt at h
  split at h
  · rename_i a i
    obtain ⟨xs, j, d, e, h1, h2, h3, h4, h⟩ := h
    cases (show v = V.ref a from dv)
    obtain ⟨w, ws, rfl, dw, q⟩ := dvs
    cases (show ws = [] from q)
    cases (show w = V.int i from dw)
    obtain ⟨zs, e1, r⟩ := so a _ e
    obtain ⟨z, hz, dz⟩ := r.get h4
    have g := Go.setLst so e (r.eraseIdx j)
    exact ⟨a, zs, i, j, z, rfl, rfl, e1, h1, h2, by rw [← r.length]; exact h3, hz, k d _ z _ g (DV.wr e1 (.inl ⟨_, rfl⟩) _ _ dz) h⟩
  · exact h.elim
def dIsB : ROp
  | .bl a, .bl b, S, R => R (.bl (decide (a = b))) S
  | _, _, _, _ => False
def dNotB : ROp
  | .bl a, .bl b, S, R => R (.bl (!decide (a = b))) S
  | _, _, _, _ => False
theorem od_isB : OpR X (compareOp .Is) (lop X.K dIsB) := by
  intro pins s σ H v w vv ww Q I rv rw' h
  obtain ⟨x, z, S, R, dx, dy, so, h, k⟩ := h
  refine op_isBl pins s σ H v w vv ww Q I rv rw' ?_
  cases x <;> cases z <;> first | exact False.elim h | skip
  case bl.bl a b => exact ⟨a, b, dx, dy, k (.bl (decide (a = b))) S _ H (Go.refl so) rfl h⟩
theorem od_notB : OpR X (compareOp .IsNot) (lop X.K dNotB) := by
  intro pins s σ H v w vv ww Q I rv rw' h
  obtain ⟨x, z, S, R, dx, dy, so, h, k⟩ := h
  refine op_notBl pins s σ H v w vv ww Q I rv rw' ?_
  cases x <;> cases z <;> first | exact False.elim h | skip
  case bl.bl a b => exact ⟨a, b, dx, dy, k (.bl (!decide (a = b))) S _ H (Go.refl so) rfl h⟩
/-- range(i, j, c) of n items -/
def rgC (lo c : Int) (n : Nat) : List D := (List.range n).map fun (i : Nat) => D.int (lo + (i : Int) * c)
def rRng3 (ta : RA) : RI := fun ρ S R => ta ρ S fun ds S1 => match ds with
  | [.int i, .int j, .int c] => ∃ n : Nat, RgC i j c n ∧ R (rgC i c n) (fun _ => True) S1
  | _ => False
theorem jok_rangeC {K : PySem.W.Frag} {H1 : Hp} {S1 : Sto} {lo c : Int} {n : Nat} : JOk K H1 S1 (Itc lo c n) (rgC lo c n) (fun _ => True) := by
  intro i H S g _
  unfold rgC
  refine ⟨fun x hx => ?_, fun hn => ?_⟩
  · rw [List.getElem?_map] at hx
    by_cases hi : i < n
    · rw [List.getElem?_range hi] at hx
      cases (Option.some.inj hx)
      exact ⟨hi, fun v H' ⟨e1, e2⟩ => by subst e1 e2; exact ⟨Go.refl g.ok, rfl⟩⟩
    · rw [List.getElem?_eq_none (by simpa using hi)] at hx; cases hx
  · rw [List.getElem?_eq_none_iff] at hn
    have : n ≤ i := by simpa using hn
    exact this
theorem pdi_range3 {tg a b c : Expr} {ta : RA} {p pos : Pos} (hm : X.mg "range" = none) (ha : PDA X y [a, b, c] ta) (hg : Gl X "range" := by rfl) (hs : starEach [a, b, c] X.env = (false, eval a X.env) :: starEach [b, c] X.env := by rfl) (hpl : (backTo pos (starEach [b, c] X.env)).any (·.1) = false := by rfl) :
    PDI X y tg (.Call (.Name "range" p) [a, b, c] [] pos) (rRng3 ta) := by
  refine PDI.of (pi_range3 hg hm ha hs hpl) fun σ H R h => ?_
  obtain ⟨ρ, S, Rd, sr, so, h, k⟩ := h
  refine ⟨ρ, S, _, sr, so, h, fun ds S1 vs H1 g dvs hn h1 => ?_⟩
  split at h1
  · rename_i i j c
    obtain ⟨v, ws, rfl, dv, v2, ws2, rfl, dv2, v3, ws3, rfl, dv3, q⟩ := dvs
    cases (show ws3 = [] from q)
    cases (show v = V.int i from dv)
    cases (show v2 = V.int j from dv2)
    cases (show v3 = V.int c from dv3)
    obtain ⟨n, h2, h3⟩ := h1
    exact ⟨i, j, c, n, rfl, h2, k _ _ _ _ _ g jok_rangeC h3⟩
  · exact h1.elim
/-- zip of two lists: as they stand at each turn -/
def zpD (xs zs : List D) : List D := (xs.zip zs).map fun p => D.tup [p.1, p.2]
def rZip (ta : RA) : RI := fun ρ S R => ta ρ S fun ds S1 => match ds with
  | [d, e] => ∃ xs zs, RdL S1 d xs ∧ RdL S1 e zs ∧ R (zpD xs zs) (fun S' => RdL S' d xs ∧ RdL S' e zs) S1
  | _ => False
theorem jok_zip {K : PySem.W.Frag} {H1 : Hp} {S1 : Sto} {d e : D} {v w : V} {a b : Addr} {xs zs : List D} (dv : DV K H1 d v) (dw : DV K H1 e w) (ev : v = .ref a) (ew : w = .ref b) : JOk K H1 S1 (Itz K a b) (zpD xs zs) (fun S' => RdL S' d xs ∧ RdL S' e zs) := by
  intro i H S g hr
  obtain ⟨a', vs, e1, q1, r1⟩ := RdL.sq g.ok hr.1 (DV.go g _ _ dv)
  obtain ⟨b', ws, e2, q2, r2⟩ := RdL.sq g.ok hr.2 (DV.go g _ _ dw)
  rw [ev] at e1; cases e1
  rw [ew] at e2; cases e2
  unfold zpD
  refine ⟨fun x hx => ?_, fun hn => ⟨vs, ws, q1, q2, ?_⟩⟩
  · rw [List.getElem?_map] at hx
    cases ez : (xs.zip zs)[i]? with
    | none => rw [ez] at hx; cases hx
    | some p =>
      rw [ez] at hx
      cases (Option.some.inj hx)
      obtain ⟨p1, p2⟩ := p
      obtain ⟨hx1, hx2⟩ := List.getElem?_zip_eq_some.mp ez
      obtain ⟨u, hu, du⟩ := r1.get hx1
      obtain ⟨t, ht, dt⟩ := r2.get hx2
      refine ⟨⟨vs, ws, u, t, q1, q2, hu, ht⟩, fun v' H' ⟨T, x1, y1, ev', hT, eH, ha, hb⟩ => ?_⟩
      have f1 := ha vs q1
      have f2 := hb ws q2
      rw [hu] at f1
      rw [ht] at f2
      cases (Option.some.inj f1)
      cases (Option.some.inj f2)
      subst ev' eH
      have g2 := Go.new (K := K) (o := .tup [u, t]) g.ok hT
      exact ⟨g2, T, _, rfl, .inl upd_same, DVs.cons (DV.go g2 _ _ du) (DVs.cons (DV.go g2 _ _ dt) DVs.nil)⟩
  · rw [List.getElem?_eq_none_iff, List.length_map, List.length_zip] at hn
    rw [← r1.length, ← r2.length]
    omega
theorem pdi_zip {e e2 : Expr} {ta : RA} {p pos tpos : Pos} {elts : List Expr} {kk : Nat} (hm : X.mg "zip" = none) (ha : PDA X y [e, e2] ta) (hg : Gl X "zip" := by rfl)
    (hs : starEach [e, e2] X.env = (false, eval e X.env) :: starEach [e2] X.env := by rfl) (hpl : (backTo pos (starEach [e2] X.env)).any (·.1) = false := by rfl) :
    PDI X y (.Tuple elts kk tpos) (.Call (.Name "zip" p) [e, e2] [] pos) (rZip ta) := by
  refine PDI.of (pi_zip hg hm ha hs hpl) fun σ H R h => ?_
  obtain ⟨ρ, S, Rd, sr, so, h, k⟩ := h
  refine ⟨ρ, S, _, sr, so, h, fun ds S1 vs H1 g dvs hn h1 => ?_⟩
  split at h1
  · rename_i d1 d2
    obtain ⟨v, ws, rfl, dv, v2, ws2, rfl, dv2, q⟩ := dvs
    cases (show ws2 = [] from q)
    obtain ⟨xs, zs, hx, hz, h1⟩ := h1
    obtain ⟨a, us, rfl, q1, r1⟩ := hx.sq g.ok dv
    obtain ⟨b, ts, rfl, q2, r2⟩ := hz.sq g.ok dv2
    exact ⟨a, b, us, ts, rfl, q1, q2, k _ _ _ _ _ g (jok_zip dv dv2 rfl rfl) h1⟩
  · exact h1.elim

/-! ### sorted(set(list of ints)) -/
end
section
variable {P : Program} {w : World} {A : Around} {E : Value → Shared → Prop} {s : Shared}
theorem call_set_listI {l : Addr} {items : Array Value} (ns : List Int) {Q : Value → Shared → Prop} (hh : A.handled = none) (hl : s.heap.IsList l items) (hit : IntsAre items.toList ns) (hb : ns.length + 1 < scanBound)
    (h : ∀ (h' : Heap) (tk c : Nat), SetR w h' s.heap.objs.size (fun j => decide (j ∈ ns)) c → c ≤ ns.length → (∀ b o, s.heap.get? b = some o → h'.get? b = some o) → Q (.ref s.heap.objs.size) { s with heap := h', toks := tk }) :
    wpAny (model P w) A (call (.type "set") [.ref l]) Q E s := by
  have hisz : items.size = ns.length := by
    have q := IntsAre.length hit
    rw [Array.length_toList] at q
    exact q
  obtain ⟨c, tl, hmro⟩ := F.called_set.mro
  have hmade := F.called_set.made
  have hsub := F.called_set.sub
  refine wpAny_call (codeAny_of_tree ?_)
  show wpAny _ _ (callAny (.type "set") _) _ _ _
  refine wpAny_pure ⟨Code.quiet_builtin _ (by decide +kernel), codeAny_builtin F.entry_type_call ?_⟩
  rw [Around.under_plain (weight_type_call_type "set" [.ref l] []) rfl]
  have h1 := F.called_set.notType
  have h2 := F.called_set.canCreate
  have hct := F.typeCall_set_1 (.ref l)
  repeat (any_goals (first | assumption | wp_step))
  refine codeAny_mono (code_set_led1 (.ref l) (E := E) (Q₁ := fun obj s₁ => obj = .ref s.heap.objs.size ∧ s₁ = { s with heap := s.heap.push { cls := .type "set", dict := none, data := .set #[] 0 (.fresh 0 0 (!w.params.followText "set-order")) } }) ⟨rfl, rfl⟩) fun r s₁ hr => ?_
  cases r with
  | error e => exact hr
  | ok fl =>
    cases fl with
    | ret obj =>
      obtain ⟨rfl, rfl⟩ := hr
      obtain ⟨h0, eh0⟩ : ∃ h0, h0 = s.heap.push { cls := .type "set", dict := none, data := .set #[] 0 (.fresh 0 0 (!w.params.followText "set-order")) } := ⟨_, rfl⟩
      rw [← eh0]
      have hS : h0.get? s.heap.objs.size = some { cls := .type "set", dict := none, data := .set #[] 0 (.fresh 0 0 (!w.params.followText "set-order")) } := by rw [eh0]; exact Heap.get?_push_size _ rfl
      have hz0 : h0.objs.size = s.heap.objs.size + 1 := by rw [eh0]; exact Heap.size_push ..
      have keep0 : ∀ b o, s.heap.get? b = some o → h0.get? b = some o := fun b o e => by rw [eh0]; exact Heap.get?_push_of_some _ e
      have hT : Shared.TypeIs { s with heap := h0 } (.ref s.heap.objs.size) "set" := ⟨_, hS, rfl⟩
      have hli := F.called_set.init.lookup
      have hbi := F.called_set.init.bind (.ref s.heap.objs.size)
      repeat (any_goals (first | assumption | wp_step))
      refine codeAny_mono (codeAny_call_builtin (R := wants (fun r s₂ => r = .none ∧ ∃ h' tk c, s₂ = { s with heap := h', toks := tk } ∧ SetR w h' s.heap.objs.size (fun j => decide (j ∈ ns)) c ∧ c ≤ ns.length ∧
          (∀ b o, s.heap.get? b = some o → h'.get? b = some o)) E) F.called_set.init.plain F.entry_set_init (check_set_init_1 hT ?_)) fun r₂ s₂ hr₂ => ?_
      · obtain ⟨ol, hol, hcl, nl, hdl⟩ := hl
        obtain ⟨ocls, odict, odata, oslots⟩ := ol
        simp only at hcl hdl
        subst hcl; subst hdl
        have hol' := keep0 _ _ hol
        have hsls := F.sub_list_set
        have hslf := F.sub_list_frozenset
        have hne : (Value.type "list" == Value.type "dict") = false := by decide
        have hl1 : h0.IsList l items := ⟨_, hol', rfl, nl, rfl⟩
        unfold Builtin.«set.__init__» noKeywords Builtin.Frozenset.updateFrom
        generalize hPI : pyIter = PI
        wp_walk
        subst hPI
        refine wpAny_pyIter_list hl1 ?_
        refine wpAny_bind (wpAny_runValue ?_)
        have hlS : l < s.heap.objs.size := Heap.lt_size hol
        have hh3 : A.in1.in1.in1.handled = none := by simp [hh]
        have hneI : l ≠ h0.objs.size := by rw [hz0]; exact Nat.ne_of_lt (Nat.lt_succ_of_lt hlS)
        have hSf : s.heap.objs.size ∉ [h0.objs.size, l] := by
          rw [hz0]; simp only [List.mem_cons, List.mem_singleton, List.not_mem_nil, or_false, not_or]
          exact ⟨Nat.ne_of_lt (Nat.lt_succ_self _), Nat.ne_of_gt hlS⟩
        have hval : ∀ (i : Nat) (v : Value), items[i]? = some v → ∃ k t, ns[i]? = some k ∧ v = .int k t := fun i v hv => by
          have hi : i < ns.length := by rw [← hisz]; exact (Array.getElem?_eq_some_iff.mp hv).1
          obtain ⟨t, e⟩ := PyProof.Rows.IntsAre.int_at hit i v (by rw [Array.getElem?_toList]; exact hv)
          refine ⟨ns[i], t, List.getElem?_eq_getElem hi, ?_⟩
          rw [e, List.getD_eq_getElem?_getD, List.getElem?_eq_getElem hi] <;> rfl
        refine set_update_ints ((Walks.list hh3 _ l hneI items).toS) s.heap.objs.size hSf ns hisz hb hval (items.size - 0) 0 _ (by omega) (Nat.zero_le _)
          ⟨⟨_, Heap.get?_push_size _ rfl, rfl, rfl⟩, (hl1.push _)⟩ ⟨0, Nat.le_refl 0, setR_new_at (Heap.get?_push_of_some _ hS)⟩ ?_
        intro s' c' hm hc' hS'
        obtain ⟨h', g2, d', tk', os'⟩ := s'
        have eg : g2 = s.gens := hm.gens
        have ed : d' = s.drawn := hm.drawn
        have eo : os' = s.os := hm.os
        subst eg; subst ed; subst eo
        refine wpAny_pure ?_
        show wpAny _ _ (ret Value.none) _ _ _
        rw [hisz] at hc'
        refine wpAny_pure ⟨rfl, h', tk', c', rfl, hS', hc', fun b o e => ?_⟩
        have hb0 : b < s.heap.objs.size := Heap.lt_size e
        exact hm.heap b o (by rw [hz0]; simp only [List.mem_cons, List.mem_singleton, List.not_mem_nil, or_false, not_or]; exact ⟨Nat.ne_of_lt hb0, Nat.ne_of_lt (Nat.lt_succ_of_lt hb0)⟩) (Heap.get?_push_of_some _ (keep0 b o e))
      · cases r₂ with
        | error e => exact hr₂
        | ok fl₂ =>
          cases fl₂ with
          | ret r =>
            obtain ⟨rfl, h', tk, c', rfl, hS', hc', hk'⟩ := hr₂
            repeat (any_goals (first | assumption | wp_step))
            exact h _ _ _ hS' hc' hk'
          | _ => exact hr₂.elim
    | _ => exact hr.elim
end
section
variable {X : Cx} {y : DXw}
def rSetOfI (K : PySem.W.Frag) (w : World) : List V → Hp → VK → Prop := fun xs H Q => ∃ (l : Addr) (ns : List Int), xs = [V.ref l] ∧ SqL K H l (ns.map V.int) ∧ ns.length < 64 ∧
  ∀ (a : Addr) (c : Nat), H a = none → c ≤ ns.length → Q (.ref a) (upd H a (SetO w a (fun j => decide (j ∈ ns)) c))
theorem cr_setOfI (hc : X.calm = true) : CallR X (.type "set") (rSetOfI X.K X.w) := by
  intro pins s σ H xs us Q I r h
  obtain ⟨l, ns, rfl, hl, hf, q⟩ := h
  rw [Vals.ref1 r]
  obtain ⟨its, rv, pl, hz⟩ := I.list hl
  have hn : H s.heap.objs.size = none := I.hok.fresh (Nat.le_refl _)
  refine call_set_listI (P := X.prog) (w := X.w) ns (I.ok.hd hc) pl.isList (by simpa using ints_of_vals rv) (by unfold scanBound; omega) fun h' tk c R hcn k => ?_
  exact ⟨.ref s.heap.objs.size, upd H s.heap.objs.size (SetO X.w s.heap.objs.size (fun j => decide (j ∈ ns)) c), I.laid (t' := tk) k (Nat.le_refl _) (setO_new R), rfl, q _ c hn hcn⟩
def rSortSet (te : RE) : RE := fun ρ S Q => te ρ S fun d S1 => ∃ ns : List Int, RdL S1 d (ns.map D.int) ∧ ns.length < 64 ∧
  ∀ (ms : List Int) p, ms.Pairwise (· < ·) → (∀ k, k ∈ ms ↔ k ∈ ns) → S1 p = none → Q (.ref p) (sup S1 p (.lst (ms.map D.int)))
theorem pd_sortedSet {e : Expr} {te : RE} {p p2 pos pos2 : Pos} (hc : X.calm = true) (hm : X.mg "sorted" = none) (hm2 : X.mg "set" = none) (he : PD X y e te) (hg : Gl X "sorted" := by rfl) (hg2 : Gl X "set" := by rfl)
    (h1 : starEach [.Call (.Name "set" p2) [e] [] pos2] X.env = (false, eval (.Call (.Name "set" p2) [e] [] pos2) X.env) :: starEach [] X.env := by rfl) (h2 : starEach [e] X.env = (false, eval e X.env) :: starEach [] X.env := by rfl) :
    PD X y (.Call (.Name "sorted" p) [.Call (.Name "set" p2) [e] [] pos2] [] pos) (rSortSet te) := by
  refine PD.of (pe_callB (cr_sortedSet hc) hg hm (by decide +kernel) (pa_cons (pe_callTy (cr_setOfI hc) hg2 hm2 (by decide +kernel) (pa_cons he pa_nil (hs := h2)) (he := h2)) pa_nil (hs := h1)) (he := h1)) fun σ H Q h => ?_
  obtain ⟨ρ, S, R, sr, so, h, k⟩ := h
  refine ⟨ρ, S, _, sr, so, h, fun d S1 v H1 g1 dv hq => ?_⟩
  obtain ⟨ns, hx, hl, hQ⟩ := hq
  obtain ⟨a, vs, rfl, q, r⟩ := hx.sq g1.ok dv
  have ev := r.ints
  subst ev
  refine ⟨a, ns, rfl, q, hl, fun b c hb hcn => ?_⟩
  have g2 := Go.new (K := X.K) (o := SetO X.w b (fun j => decide (j ∈ ns)) c) g1.ok hb
  refine ⟨b, _, c, rfl, upd_same, by omega, fun ms p3 pw hm hlen hp => ?_⟩
  have g3 := Go.newLst g2.ok hp (DVs.of_ints (ns := ms))
  exact k (.ref p3) _ _ _ ((g1.trans g2).trans g3) rfl (hQ ms p3 pw (fun z => (hm z).trans (by simp)) (g2.ok.free hp))
end
end DL
namespace DL
open PySem PySem.Spec PyProof.Rows L2
def frP (q : Rat) : PyData := .tuple [.int q.num, .int (q.den : Int)]
theorem pyrs_frs {S : Sto} : ∀ qs : List Rat, PyRs S (qs.map fr) (qs.map frP)
  | [] => .nil
  | q :: qs => .cons (pyr_fr q) (pyrs_frs qs)
theorem lay_frs : ∀ qs : List Rat, PyData.canLayAll0 (qs.map frP) = true
  | [] => rfl
  | q :: qs => by
    show (PyData.canLay0 (frP q) && PyData.canLayAll0 (qs.map frP)) = true
    rw [lay_frs qs]
    rfl
theorem dep_frs : ∀ qs : List Rat, PyData.depthAll (qs.map frP) ≤ 3
  | [] => by simp [PyData.depthAll]
  | q :: qs => by
    have := dep_frs qs
    have h : PyData.depth (frP q) ≤ 3 := by simp [frP, PyData.depth, PyData.depthAll]
    simp only [List.map_cons, PyData.depthAll]
    omega
theorem shaped_frs (qs : List Rat) : SeqAt.shaped (.list (qs.map frP)) = true := by
  have h1 := lay_frs qs
  have h2 := dep_frs qs
  unfold SeqAt.shaped
  rw [show PyData.canLay0 (.list (qs.map frP)) = PyData.canLayAll0 (qs.map frP) from by simp [PyData.canLay0], h1, Bool.true_and]
  apply decide_eq_true
  simp only [PyData.depth]
  omega
end DL
set_option Elab.async false
set_option linter.all false
set_option maxRecDepth 100000
set_option maxHeartbeats 4000000
namespace DL
open PySem PySem.Spec PyProof.Rows L2

/-! ### held exceptions -/
theorem xo_ok {P : Program} {w : World} {H : Hp} {h : Heap} {a C dx : Addr} {oe : Obj} {vs : Array Value} (e : h.get? a = some oe) (z : Zc (.ref C) (some dx) oe) (d : oe.data = .fields vs) : ObjOk P w H h a (XO a C dx) :=
  ⟨⟨oe, vs, e, z, d⟩, ⟨oe, e⟩, fun _ _ ⟨o, v, q, r⟩ k => ⟨o, v, k o q, r⟩⟩
theorem xo_at {P : Program} {w : World} {H : Hp} {h : Heap} {a C dx : Addr} (hok : HOk P w H h) (he : H a = some (XO a C dx)) : ∃ oe vs, h.get? a = some oe ∧ Zc (.ref C) (some dx) oe ∧ oe.data = .fields vs := by
  have x : ObjOk P w H h a (.ext fun h => ∃ oe vs, h.get? a = some oe ∧ Zc (.ref C) (some dx) oe ∧ oe.data = .fields vs) := hok a _ he
  exact x.1
section
variable {X : Cx} {pins : List (Addr × Obj)} {σ : L2.St} {H : Hp} {s : Shared}
/-- an exception object that lies beside what is tracked is tracked from now on -/
theorem inv_track {a C dx : Addr} {oe : Obj} {vs : Array Value} (I : Inv X pins σ H s) (h0 : X.s_0.heap.get? a = none) (hn : H a = none) (he : s.heap.get? a = some oe) (hz : Zc (.ref C) (some dx) oe) (hd : oe.data = .fields vs)
    (nL : a ≠ X.env.locals) (nP : ∀ p ∈ X.pn ++ pins, p.1 ≠ a) : Inv X pins σ (upd H a (XO a C dx)) s := by
  refine ⟨I.ok, I.os, I.bare, ⟨I.base.keep, I.base.slot, fun b o e n hx => ?_, I.base.there, fun b xs e => ?_, fun b o u e => ?_, fun b ps e => ?_⟩, I.loc, I.cell, ?_, fun x c e => ?_, fun p hp => ?_, fun b u e => ?_, I.len⟩
  · rw [upd_ne (fun z => by rw [z, h0] at e; cases e)]
    exact I.base.free b o e n hx
  · have q := I.base.tups b xs e
    rw [upd_ne (ne_of_none q hn)]
    exact q
  · have q := I.base.frzs b o u e
    rw [upd_ne (ne_of_none q hn)]
    exact q
  · obtain ⟨m, q⟩ := I.base.tbls b ps e
    exact ⟨m, by rw [upd_ne (ne_of_none q hn)]; exact q⟩
  · rw [upd_ne nL.symm]
    exact I.free
  · have nc : c ≠ a := fun z => by
      obtain ⟨v, o, ho, hd'⟩ := I.cell x c e
      rw [z, he] at ho
      cases ho
      rw [hd] at hd'
      cases hd'
    rw [upd_ne nc]
    exact I.freeC x c e
  · obtain ⟨e, n, ne, nf, d⟩ := I.pin p hp
    exact ⟨e, by rw [upd_ne (nP p hp)]; exact n, ne, nf, d⟩
  · by_cases hb : b = a
    · subst hb
      rw [upd_same] at e
      cases e
      exact xo_ok he hz hd
    · rw [upd_ne hb] at e
      exact (I.hok b u e).stay (fun c v _ q => q) (fun c q => by rw [upd_ne (ne_of_none q hn)]; exact q) fun c xs q => by rw [upd_ne (ne_of_none q hn)]; exact q
theorem inv_suiteT (I : Inv X pins σ H s) (a : Addr) : Inv (X.suite a (X.pn ++ pins)) [] σ H s :=
  ⟨I.ok.suite _ _, I.os, I.bare, I.base, I.loc, I.cell, I.free, I.freeC, fun p hp => I.pin p (by rw [List.append_nil] at hp; exact hp), I.hok, I.len⟩
theorem inv_unsuiteT {a : Addr} {pn' : List (Addr × Obj)} (I : Inv (X.suite a (X.pn ++ pins)) pn' σ H s) (ok : X.Ok) : Inv X pins σ H s :=
  ⟨ok, I.os, I.bare, I.base, I.loc, I.cell, I.free, I.freeC, fun p hp => I.pin p (List.mem_append_left _ hp), I.hok, I.len⟩
end

/-- what the clause 'except x as n' wishes of an exception of the body, when the exception is held from then on -/
def wAsT (K : PySem.W.Frag) (c : Value) (i : Nat) (ts : TS) (Wout : WX) (D : Ends) : WX := fun cls d σ H =>
  ∃ b, PySem.W.exmOne K cls c = some b ∧ (b = true → ∃ C dx, cls = .ref C ∧ d = some dx ∧ ∀ a, H a = none → ts { nx := fun σ' H' => D.nx (σ'.set i none) H', rt := D.rt, bk := fun σ' H' => D.bk (σ'.set i none) H', ct := fun σ' H' => D.ct (σ'.set i none) H' } (σ.set i (some (.ref a))) (upd H a (XO a C dx))) ∧
    (b = false → Wout cls d σ H)
section
variable {X : Cx} {pins : List (Addr × Obj)} {σ : L2.St} {H : Hp} {s : Shared}
variable {x n : Str} {c : Value} {i : Nat} {body suite : List Stmt} {b₀ : Stmt} {np pos pos' : Pos} {tb : WX → TS} {ts : TS} {Wout : WX}
theorem ps_try_asT (hs : X.stack = X.env :: X.outer) (hf : X.env.frame = some X.env.locals) (hex : X.ex = []) (hN : X.N.Nodup) (hi : X.N[i]? = some n) (hln : X.env.kindOf n = some .local) (hc : Names X x c) (tk : Takes X Wout)
    (hb : ∀ (W : WX) (pn : List (Addr × Obj)) (xe : Value → Shared → Prop), Takes (X.tr pn xe) W → PassesOwn (model X.prog X.w) X.A X.env xe → PSs (X.tr pn xe) body (tb W))
    (hsu : ∀ (a : Addr) (pn : List (Addr × Obj)), PSs (X.suite a pn) (b₀ :: suite) ts) :
    PS X (.Try body [.ExceptHandler (some (.Name x np)) (some n) (b₀ :: suite) pos'] [] [] pos) (fun D σ H => tb (wAsT X.K c i ts Wout D) D σ H) := by
  refine ⟨fun pins s σ H D I h => ?_⟩
  have ok := I.ok
  have hfr : X.A.frames = some (X.env :: X.outer) := by rw [ok.frames, hs]
  have hloc : Loc X.env.scope n := .inl hln
  refine wpAny_Try_except ?_
  refine wpAny_mono ((hb (wAsT X.K c i ts Wout D) (X.pn ++ pins) (fun e s₁ => wpAny (model X.prog X.w) X.A (noteFrame e X.env) (fun _ s₂ => wpAny (model X.prog X.w) X.A (setFlight e none) (fun _ s₃ =>
    wpAny (model X.prog X.w) X.A (handleBy e X.env [.ExceptHandler (some (.Name x np)) (some n) (b₀ :: suite) pos']) (SP X pins D) X.xe s₃) X.xe s₂) X.xe s₁) (fun u s' xx => ?_) PassesOwn.looking).run [] s σ H D (I.toTry _) h) (fun f s1 hsp => ?_) (fun e s1 he => he)
  · -- the catch
    obtain ⟨a, B, sI, pins', σ', H', cls, d, rfl, J', nb, up, sky, na, os, ag, b, hb1, hyes, hno⟩ := xx
    have J : Inv X pins σ' H' sI := J'.ofTry ok
    have sky' : Sky B (X.env :: X.outer) a (Zc cls d) X.env.locals s'.heap := by rw [← hs]; exact sky
    show wpAny (model X.prog X.w) X.A (noteFrame (.ref a) X.env) _ _ _
    refine Sky.land Zc.steady hfr hf sky' fun h3 fl3 up3 => ?_
    have J3 : Inv X pins σ' H' { s' with heap := h3 } := J.landed nb fl3.1 (up.trans up3) os ag
    obtain ⟨oe3, vs3, he3, hz3, hd3⟩ := fl3.there
    have notFr : ∀ {h : Heap} {o : Obj} {vs : Array Value}, h.FunFrames B (X.env :: X.outer) → h.get? a = some o → o.data = .fields vs → a ∉ frs (X.env :: X.outer) := fun {h o vs} ff e dd hm => by
      obtain ⟨_, o', e', hnf⟩ := ff.mem hm
      rw [e] at e'; cases e'
      exact hnf _ dd
    have nfr := notFr fl3.2.2.1 he3 hd3
    have nL : a ≠ X.env.locals := fun z => nfr (List.mem_filterMap.mpr ⟨X.env, List.mem_cons_self, by rw [hf, z]⟩)
    have nF : a ∉ X.fs := fun hm => by
      obtain ⟨e, he, q⟩ := List.mem_filterMap.mp hm
      exact nfr (List.mem_filterMap.mpr ⟨e, List.mem_cons_of_mem _ he, q⟩)
    have nI : sI.heap.get? a = none := by
      cases e : sI.heap.get? a with
      | none => rfl
      | some o =>
        have q := nb a o e (by rw [hs]; exact nfr)
        rw [fl3.2.1] at q
        cases q
    have n0 : X.s_0.heap.get? a = none := by
      cases e : X.s_0.heap.get? a with
      | none => rfl
      | some o =>
        obtain ⟨o', q⟩ := J.base.there a o e (by rw [hex]; exact fun z => nomatch z)
        rw [nI] at q
        cases q
    have nP : ∀ p ∈ X.pn ++ pins, p.1 ≠ a := fun p hp z => by
      have q := (J.pin p hp).1
      rw [z, nI] at q
      cases q
    have S3 := J3.suite he3 hd3 na nL nF
    refine wpAny_handleBy_cons (codeAny_handlers_test ?_) (by intro q; cases q)
    have LT : PySem.W.Looks (model X.prog X.w) h3 (typeOf (.ref a)) cls := fun A Q E s k q => wpAny_typeOf_ref (k _ _ he3) (by rw [hz3.1]; exact q)
    have LM := PySem.W.exm_one (M := model X.prog X.w) (J3.kIn) LT hb1
    have test : ∀ {Q : Value → Shared → Prop} {E : Value → Shared → Prop}, Q c { s' with heap := h3 } → wpAny (model X.prog X.w) (X.A.mark (some (.ref a))) (eval (.Name x np) X.env) Q E { s' with heap := h3 } := fun {Q E} q => by
      obtain ⟨hg, hdbg, hm | ⟨hm, hv, hnn⟩⟩ := hc
      · exact ld_glob (X := X.suite a ((a, oe3) :: (X.pn ++ pins))) S3 hg hm q hdbg
      · exact ld_blt (X := X.suite a ((a, oe3) :: (X.pn ++ pins))) S3 hg hm hv q hnn hdbg
    refine test (LM.here ?_)
    cases b with
    | true =>
      refine codeAny_handlers_suite_as ?_
      refine HandSPX.lands_againZ fl3 fun h4 fl4 up4 => ?_
      have J4 : Inv X pins σ' H' { s' with heap := h4 } := J.landed nb fl4.1 ((up.trans up3).trans up4) os ag
      obtain ⟨oe4, vs4, he4, hz4, hd4⟩ := fl4.there
      obtain ⟨C, dx, rfl, rfl, hts⟩ := hyes rfl
      have S4 := inv_suiteT (inv_track J4 n0 na he4 hz4 hd4 nL nP) a
      refine store_ok (X := X.suite a (X.pn ++ pins)) (v := .ref a) S4 hN hi hloc rfl (fun s5 S5 => ?_) (.inr hln)
      refine wpAny_mono ((hsu a (X.pn ++ pins)).run [] s5 _ _ _ S5 (hts a na)) (fun f s6 hsp => ?_) (fun _ _ z => False.elim z)
      have end_ : ∀ {σ6 : L2.St} {H6 : Hp} {Q : Shared → Prop}, Inv (X.suite a (X.pn ++ pins)) [] σ6 H6 s6 → (∀ s7, Inv X pins (σ6.set i none) H6 s7 → Q s7) →
          wpAny (model X.prog X.w) X.A (do bindName X.env n .none; unbindBehindTheSuite X.env n pos') (fun _ s7 => Q s7) X.xe s6 := fun {σ6 H6 Q} S6 hq => gone_ok (inv_unsuiteT S6 ok) hN hi hln hq
      cases f with
      | next =>
        obtain ⟨σ6, H6, S6, q6⟩ := hsp
        exact end_ S6 fun s7 J7 => ⟨_, _, J7, q6⟩
      | brk =>
        obtain ⟨σ6, H6, S6, q6⟩ := hsp
        exact end_ S6 fun s7 J7 => ⟨_, _, J7, q6⟩
      | cont =>
        obtain ⟨σ6, H6, S6, q6⟩ := hsp
        exact end_ S6 fun s7 J7 => ⟨_, _, J7, q6⟩
      | ret u =>
        obtain ⟨v6, σ6, H6, S6, r6, q6⟩ := hsp
        exact end_ S6 fun s7 J7 => ⟨_, _, _, J7, r6, q6⟩
    | false =>
      show wpAny _ X.A (handleBy (.ref a) X.env []) _ _ _
      refine wpAny_handleBy_nil ?_
      obtain ⟨k1, k2, k3, oe, vs, T, oT, ts', he, hz, hd, h1, hr⟩ := id fl3
      unfold PySem.passOn
      refine wpAny_bind (wpAny_field he hd h1 ?_)
      rw [if_neg (show ¬ ((Value.ref T == Value.none) = true) from by simp)]
      have fin : wpAny (model X.prog X.w) X.A (setFlight (.ref a) X.env.frame) (fun _ s4 => wpAny (model X.prog X.w) X.A (throw (.ref a) : Sem Flow) (SP X pins D) X.xe s4) X.xe { s' with heap := h3 } := by
        rw [hf]
        refine HandSPX.setFlight_upZ fl3 fun h4 hh4 up4 => wpAny_throw (tk _ _ ?_)
        exact ⟨a, B, sI, pins, σ', H', cls, d, rfl, J, nb, (up.trans up3).trans up4, .inr (.inr (by rw [hs]; exact hh4)), na, os, ag, hno rfl⟩
      first
        | exact wpAny_bind (wpAny_pure (wpAny_bind fin))
        | exact wpAny_bind fin
  · cases f with
    | next =>
      obtain ⟨σ', H', J', q⟩ := hsp
      exact wpAny_execs_nil ⟨σ', H', J'.ofTry ok, q⟩
    | brk =>
      obtain ⟨σ', H', J', q⟩ := hsp
      exact ⟨σ', H', J'.ofTry ok, q⟩
    | cont =>
      obtain ⟨σ', H', J', q⟩ := hsp
      exact ⟨σ', H', J'.ofTry ok, q⟩
    | ret u =>
      obtain ⟨v, σ', H', J', r, q⟩ := hsp
      exact ⟨v, σ', H', J'.ofTry ok, r, q⟩
end

/-! ### try, over plain values -/
theorem dv_exc {K : PySem.W.Frag} {H : Hp} {C a dx : Addr} {w : V} {d : D} (h1 : H a = some (XO a C dx)) (h2 : H dx = some (.xd [(("value" : Str), w)])) (h3 : DV K H d w) : DV K H (.exc C d) (.ref a) := ⟨a, dx, w, rfl, h1, h2, h3⟩
theorem SRv.gone {K : PySem.W.Frag} {σ : L2.St} {H : Hp} {ρ : List (Option D)} (r : SRv K σ H ρ) (i : Nat) : SRv K (σ.set i none) H (ρ.set i none) := by
  refine ⟨by rw [List.length_set, List.length_set]; exact r.1, fun j e h => ?_⟩
  by_cases hj : i = j
  · subst hj
    have hl : i < ρ.length := by
      have := (List.getElem?_eq_some_iff.mp h).1
      rwa [List.length_set] at this
    rw [List.getElem?_set_self hl] at h
    cases h
  · rw [List.getElem?_set_ne hj] at h
    obtain ⟨u, e1, q1⟩ := r.2 j e h
    exact ⟨u, by rw [List.getElem?_set_ne hj]; exact e1, q1⟩
def goneE (i : Nat) (E : DEnds) : DEnds := { nx := fun ρ' S' => E.nx (ρ'.set i none) S', rt := E.rt, bk := fun ρ' S' => E.bk (ρ'.set i none) S', ct := fun ρ' S' => E.ct (ρ'.set i none) S' }
def dAs (K : PySem.W.Frag) (c : Value) (i : Nat) (ts : RS) (yo : DWX) (E : DEnds) : DWX := fun C d ρ S => ∃ b, PySem.W.exmOne K (.ref C) c = some b ∧ IFB b (ts (goneE i E) (ρ.set i (some (.exc C d))) S) (yo C d ρ S)
def rTry (K : PySem.W.Frag) (c : Value) (i : Nat) (yo : DWX) (tb : WX → DWX → RS) (ts : RS) : RS := fun E ρ S => ∀ W, tb W (dAs K c i ts yo E) E ρ S
section
variable {X : Cx} {y : DXw} {x n : Str} {c : Value} {i : Nat} {body suite : List Stmt} {b₀ : Stmt} {np pos pos' : Pos} {tb : WX → DWX → RS} {ts : RS}
theorem pd_try (i : Nat) (hs : X.stack = X.env :: X.outer) (hf : X.env.frame = some X.env.locals) (hex : X.ex = []) (hN : X.N.Nodup) (hi : X.N[i]? = some n) (hln : X.env.kindOf n = some .local) (hc : Names X x c) (tk : Takes X y.W)
    (hb : ∀ (W : WX) (d : DWX) (pn : List (Addr × Obj)) (xe : Value → Shared → Prop), Takes (X.tr pn xe) W → PDSs (X.tr pn xe) ⟨W, d⟩ body (tb W d))
    (hsu : ∀ (a : Addr) (pn : List (Addr × Obj)), PDSs (X.suite a pn) y0 (b₀ :: suite) ts) :
    PDS X y (.Try body [.ExceptHandler (some (.Name x np)) (some n) (b₀ :: suite) pos'] [] [] pos) (rTry X.K c i y.d tb ts) := by
  refine PDS.of (ps_try_asT (tb := fun W D σ H => ∃ d, lS X.K ⟨W, d⟩ (tb W d) D σ H) (ts := lS X.K y0 ts) hs hf hex hN hi hln hc tk (fun W pn xe tk' _ => ⟨fun pins s σ H D I ⟨d, q⟩ => (hb W d pn xe tk').run pins s σ H D I q⟩) hsu) fun D σ H h => ?_
  obtain ⟨ρ, S, E, sr, so, h, eo⟩ := h
  refine ⟨dAs X.K c i ts y.d E, ρ, S, E, sr, ⟨so.so, fun C d ρ' S' dx w σ' H' g sr' e dv hd => ?_⟩, h _, eo⟩
  obtain ⟨b, hb1, hi1⟩ := hd
  obtain ⟨h1, h2⟩ := hi1.of
  refine ⟨b, hb1, fun z => ⟨C, dx, rfl, rfl, fun a ha => ?_⟩, fun z => so.xo C d ρ' S' dx w σ' H' g sr' e dv (h2 z)⟩
  have gN := Go.new (K := X.K) (o := XO a C dx) g.ok ha
  refine ⟨ρ'.set i (some (.exc C d)), S', goneE i E, (sr'.go gN).set (dv_exc upd_same (by rw [upd_ne (ne_of_none e ha)]; exact e) (DV.go gN _ _ dv)) i, sx0 gN.ok, h1 z, ?_⟩
  have gA := g.trans gN
  exact ⟨fun ρ2 S2 σ2 H2 g2 sr2 q => eo.nx _ _ _ _ (gA.trans g2) (sr2.gone i) q, fun d2 S2 v2 H2 g2 dv2 q => eo.rt _ _ _ _ (gA.trans g2) dv2 q, fun ρ2 S2 σ2 H2 g2 sr2 q => eo.bk _ _ _ _ (gA.trans g2) (sr2.gone i) q, fun ρ2 S2 σ2 H2 g2 sr2 q => eo.ct _ _ _ _ (gA.trans g2) (sr2.gone i) q⟩
end
end DL
set_option Elab.async false
set_option linter.all false
set_option maxRecDepth 100000
set_option maxHeartbeats 4000000
namespace PySem
namespace HandSPX
open PySem.W PySem.Calls PyProof.Rows
section
variable {M : Model} {A : Around} {E : Value → Shared → Prop} {h : Heap} {g : Array GenState} {d : Drawn} {t : Nat} {os : OsState}
variable {nm q : Str} {C N : Addr} {bs bm bmB : List Value} {hdct : Bool} {sn : List Str} {sub : List Value} {ab : Bool} {col : Option Bool} {dd : Option Addr} {k0 k1 k2 k3 k5 : Option Value} {B newId initId : String}
theorem check_new_kw (F : ExcBaseFacts B newId initId bmB) (hT : ∀ X : String, bm.contains (.type X) = bmB.contains (.type X)) {rest : List Value} {kn : Str} {kv : Value} {Q : Unit → Shared → Prop}
    (hC : h.get? C = some (excClassObj nm q C N bs bm hdct sn sub ab col dd k0 k1 k2 k3 k5 newId)) (hq : Q () ⟨h, g, d, t, os⟩) : wpAny M A (checkBuiltinCall newId ⟨.ref C :: rest, [(kn, kv)]⟩) Q E ⟨h, g, d, t, os⟩ := by
  have hcont : (Value.ref C :: bm).contains (.type B) = true := by rw [List.contains_cons, hT, F.hasB, Bool.or_true]
  have hstar := F.noStar
  simp only [checkBuiltinCall, F.newKind, F.newSplit, F.newRow]
  repeat (first | refine wpAny_loadPart_at hC ?_ | (refine wpAny_isSubtype_exc hC ?_; rw [hcont]) | refine wpAny_staticBase_exc hC ?_ | refine wpAny_madeBy_exc hC ?_ | simp only [bne_self_eq_false, Bool.false_eq_true, if_false] | wp_step)
  exact hq
end
section
variable {prog : Program} {w : World} {A : Around} {E : Value → Shared → Prop} {R : Result → Shared → Prop} {h : Heap} {g : Array GenState} {d : Drawn} {t : Nat} {os : OsState}
variable {nm q : Str} {C N : Addr} {bs bm bmB : List Value} {hdct : Bool} {sn : List Str} {sub : List Value} {ab : Bool} {col : Option Bool} {dd : Option Addr} {k0 k1 k2 k3 k5 : Option Value} {B newId initId : String} {kn : Str} {kv : Value}
theorem new_kw (F : ExcBaseFacts B newId initId bmB) (hT : ∀ X : String, bm.contains (.type X) = bmB.contains (.type X)) {rest : List Value}
    (hC : h.get? C = some (excClassObj nm q C N bs bm hdct sn sub ab col dd k0 k1 k2 k3 k5 newId))
    (hq : R (.ok (.ret (.ref (h.objs.size + 1)))) ⟨(h.push { cls := .type "tuple", data := .seq rest.toArray }).push
      { cls := .ref C, data := .fields #[.ref h.objs.size, .none, .none, .none, .bool false, .none] }, g, d, t, os⟩) (hrest : rest.length ≤ sizeLine) :
    codeAny (model prog w) A (.builtin newId ⟨.ref C :: rest, [(kn, kv)]⟩) R ⟨h, g, d, t, os⟩ := by
  have hends := F.ends
  have hcB : (Value.ref C :: bm).contains (.type B) = true := by rw [List.contains_cons, hT, F.hasB, Bool.or_true]
  have hcA : (Value.ref C :: bm).contains (.type "AttributeError") = false := by rw [List.contains_cons, hT, F.noAttr]; rfl
  have hcN : (Value.ref C :: bm).contains (.type "NameError") = false := by rw [List.contains_cons, hT, F.noName]; rfl
  refine codeAny_builtinAt F.entry ?_
  unfold Builtin.«BaseException.__new__»
  refine wpAt_bind ?_
  show wpAt _ _ _ (stack >>= _) _ _ _
  refine wpAt_bind (wpAt_stack fun p below => wpAt_of_wpAny ?_)
  wp_walk
  refine wpAt_of_wpAny ?_
  rw [F.owner]
  repeat (first | with_reducible refine wpAny_madeHere_exc F.canon hC ?_ | with_reducible refine wpAny_loadPart_at hC ?_ | (with_reducible refine wpAny_isSubtype_exc hC ?_; first | rw [hcB] | rw [hcA] | rw [hcN]) | wp_step)
  show R _ _
  rw [Heap.size_push]
  exact hq
theorem type_call_kw (F : ExcBaseFacts B newId initId bmB) (hT : ∀ X : String, bm.contains (.type X) = bmB.contains (.type X)) {rest : List Value} {fI : Addr} {Q : Fin → Shared → Prop}
    (hC : h.get? C = some (excClassObj nm q C N bs bm hdct sn sub ab col dd k0 k1 k2 k3 k5 newId))
    (hi : W.Looks (model prog w) h (typeLookup (.ref C) "__init__") (some (.ref fI))) (hb : ∀ self, W.Looks (model prog w) h (bindSpecial (.ref fI) self) (.ref fI, [self])) (hrest : rest.length ≤ sizeLine)
    (hq : codeAny (model prog w) A (.call (.ref fI) ⟨.ref (h.objs.size + 1) :: rest, [(kn, kv)]⟩)
      (fun r s' => match r with | .ok (.ret v) => v = .none ∧ Q (.done (.ret (.ref (h.objs.size + 1)))) s' | .ok _ => False | .error e => E e s')
      ⟨(h.push (W.kdv_tup rest)).push (excO C h.objs.size), g, d, t, os⟩) :
    wpAny (model prog w) A (Builtin.«type.__call__» ⟨.ref C :: rest, [(kn, kv)]⟩) Q E ⟨h, g, d, t, os⟩ := by
  repeat (first | with_reducible refine wpAny_loadPart_at hC ?_ | with_reducible refine wpAny_madeBy_exc hC ?_ | wp_step)
  refine codeAny_call_builtin_code (Code.quiet_builtin _ F.quiet) (check_new_kw F hT hC ?_)
  refine new_kw F hT hC ?_ hrest
  show wpAny _ _ _ _ _ _
  have k : ∀ b o, h.get? b = some o → ((h.push (W.kdv_tup rest)).push (excO C h.objs.size)).get? b = some o := fun b o e => Heap.get?_push_of_some _ (Heap.get?_push_of_some _ e)
  have hC₁ := k _ _ hC
  have hget : ((h.push (W.kdv_tup rest)).push (excO C h.objs.size)).get? (h.objs.size + 1) = some (excO C h.objs.size) := by heap_get
  have hcC : (Value.ref C :: bm).contains (.ref C) = true := by simp
  have i1 := hi.keeps k
  have b1 := (hb (.ref (h.objs.size + 1))).keeps k
  unfold isInstance
  repeat (first | with_reducible refine wpAny_loadPart_at hget ?_ | (with_reducible refine wpAny_isSubtype_exc hC₁ ?_; rw [hcC]) | wp_step)
  show wpAny _ _ (typeLookup (.ref C) _) _ _ _
  refine i1.at ?_
  refine wpAny_holding (wpAny_bind (b1.at ?_))
  refine wpAny_bind (wpAny_call (codeAny_mono hq fun r s' z => ?_))
  rcases r with e | (v | _ | _ | _) <;> first | exact z | exact z.elim | skip
  obtain ⟨rfl, z⟩ := z
  first
    | exact wpAny_pure (wpAny_pure z)
    | (wp_walk; exact z)
theorem check_type_call_kw {M : Model} {rest : List Value} {Q : Unit → Shared → Prop} (hC : h.get? C = some (excClassObj nm q C N bs bm hdct sn sub ab col dd k0 k1 k2 k3 k5 newId))
    (hq : Q () ⟨h, g, d, t, os⟩) : wpAny M A (checkBuiltinCall "type.__call__" ⟨.ref C :: rest, [(kn, kv)]⟩) Q E ⟨h, g, d, t, os⟩ := by
  have f3 := tc_sub
  have hT : (⟨h, g, d, t, os⟩ : Shared).TypeIs (.ref C) "type" := ⟨_, hC, rfl⟩
  simp only [checkBuiltinCall, tc_kind, tc_split]
  repeat (any_goals (first | assumption | with_reducible refine wpAny_loadPart_at hC ?_ | with_reducible refine wpAny_onRaise ?_ | with_reducible refine wpAny_map ?_ | wp_step))
theorem call_own_kw (F : ExcBaseFacts B newId initId bmB) (hT : ∀ X : String, bm.contains (.type X) = bmB.contains (.type X)) {rest : List Value} {fI : Addr}
    (hC : h.get? C = some (excClassObj nm q C N bs bm hdct sn sub ab col dd k0 k1 k2 k3 k5 newId))
    (hi : W.Looks (model prog w) h (typeLookup (.ref C) "__init__") (some (.ref fI))) (hb : ∀ self, W.Looks (model prog w) h (bindSpecial (.ref fI) self) (.ref fI, [self])) (hrest : rest.length ≤ sizeLine)
    (hq : codeAny (model prog w) (A.under (.builtin "type.__call__" ⟨.ref C :: rest, [(kn, kv)]⟩)) (.call (.ref fI) ⟨.ref (h.objs.size + 1) :: rest, [(kn, kv)]⟩) (W.InitBack (h.objs.size + 1) R)
      ⟨(h.push (W.kdv_tup rest)).push (excO C h.objs.size), g, d, t, os⟩) :
    codeAny (model prog w) A (.call (.ref C) ⟨rest, [(kn, kv)]⟩) R ⟨h, g, d, t, os⟩ := by
  have f1 := tc_lookup
  have f2 := tc_bind (.ref C)
  have hTy : (⟨h, g, d, t, os⟩ : Shared).TypeIs (.ref C) "type" := ⟨_, hC, rfl⟩
  refine codeAny_of_tree ?_
  show wpAny _ _ (callAny (.ref C) _) _ _ _
  repeat (any_goals (first | assumption | with_reducible refine wpAny_loadPart_at hC ?_ | wp_step))
  refine ⟨rfl, ?_⟩
  refine codeAny_call_builtin_at (Code.quiet_builtin _ (by decide +kernel)) entry_typeCall (check_type_call_kw hC (type_call_kw F hT hC hi hb hrest ?_))
  refine codeAny_mono hq fun r s' z => ?_
  rcases r with e | (v | _ | _ | _) <;> exact z
end
end HandSPX
end PySem
set_option Elab.async false
set_option linter.all false
set_option maxRecDepth 100000
set_option maxHeartbeats 4000000
namespace DL
open PySem PySem.Spec PyProof.Rows L2
/-! ### an own class over TossError: made, raised -/
/-- the __init__ that stores its one argument as value -/
def spI (K : PySem.W.Frag) : Sp := fun vs H Q _ => ∃ a C v, vs = [.ref a, v] ∧ OexC K C ∧ PySem.W.findIn K (.ref C) "value" = some none ∧ H a = some (exo a C none) ∧ ∀ dx, H dx = none → dx ≠ a → Q .non (upd (upd H dx (exd dx [(("value" : Str), v)])) a (exo a C (some dx)))
/-- what the written part says of such a class -/
structure Own (K : PySem.W.Frag) (C fI : Addr) : Prop where
  ox : OexC K C
  ii : PySem.W.findIn K (.ref C) "__init__" = some (some (.ref fI))
  nv : PySem.W.findIn K (.ref C) "value" = some none
def rRaise (C : Addr) (yo : DWX) (te : RE) : RS := fun E ρ S => te ρ S fun d S1 => yo C d ρ S1
theorem made_eq {H : Hp} {a C dx : Addr} {v : V} (ha : H a = none) (hd : dx ≠ a) : upd (L2.del (upd (upd H dx (exd dx [(("value" : Str), v)])) a (exo a C (some dx))) a) dx (.xd [(("value" : Str), v)]) = upd H dx (.xd [(("value" : Str), v)]) := by
  funext b
  by_cases h1 : b = dx
  · rw [h1, upd_same, upd_same]
  · rw [upd_ne h1, upd_ne h1]
    by_cases h2 : b = a
    · rw [h2, L2.del_same, ha]
    · rw [L2.del_ne h2, upd_ne h2, upd_ne h1]
section
variable {X : Cx} {y : DXw} {x : Str} {C fI : Addr} {k : Nat} {fd : FuncData} {e : Expr} {te : RE} {p pos pos2 : Pos}
theorem passes_false (tk : Takes X y.W) : Passes (L2.CX X.prog X.w) X (fun _ _ _ => False) := fun pins σ H s e s' I c => tk e s' (XE.of_call I (fun _ _ _ (h : False) => h.elim) c)
theorem pd_raise (hc : X.calm = true) (tk : Takes X y.W) (O : Own X.K C fI) (tI : PySem.W.typeIn X.K (.ref fI) = some (.type "function")) (F1 : FnOk X.prog X.w X.K X.mg X.base (L2.CX X.prog X.w) k fI fd ["self", "value"] (spI X.K)) (hr : Room (k + 1) X.A)
    (hb : Binds X.K fd ["self", "value"] []) (hm : X.mg x = some (.ref C)) (he : PD X y e te) (hg : Gl X x := by rfl) (hdb : (x == ("__debug__" : Str)) = false := by decide) (hs : starEach [e] X.env = (false, eval e X.env) :: starEach [] X.env := by rfl) :
    PDS X y (.Raise (some (.Call (.Name x p) [e] [] pos)) none pos2) (rRaise C y.d te) := by
  refine PDS.of (ps_raise hc tk (pmk_oex O.ox O.ii tI F1 hr hb .nil (passes_false tk) hg hm (pa_cons he pa_nil (hs := hs)) hdb (he := hs))) fun D σ H h => ?_
  obtain ⟨ρ, S, E, sr, so, h, eo⟩ := h
  refine ⟨ρ, S, _, sr, so, h, fun d S1 v H1 g1 dv h1 => ?_⟩
  refine ⟨by show 1 ≤ 1000; decide, fun a ha => ⟨a, C, v, rfl, O.ox, O.nv, upd_same, fun dx hdx ne => ⟨rfl, dx, _, upd_same, by rw [upd_ne ne]; exact upd_same, ?_, ?_⟩⟩⟩
  · rw [upd_ne ne] at hdx
    exact hdx
  · rw [upd_ne ne] at hdx
    have eH : upd (upd (upd H1 a (exo a C none)) dx (exd dx [(("value" : Str), v)])) a (exo a C (some dx)) = upd (upd H1 dx (exd dx [(("value" : Str), v)])) a (exo a C (some dx)) := by
      funext b
      by_cases h1 : b = a
      · rw [h1, upd_same, upd_same]
      · rw [upd_ne h1, upd_ne h1]
        by_cases h2 : b = dx
        · rw [h2, upd_same, upd_same]
        · rw [upd_ne h2, upd_ne h2, upd_ne h1]
    rw [eH, made_eq ha ne]
    have g2 := Go.new (K := X.K) (o := .xd [(("value" : Str), v)]) g1.ok hdx
    exact so.xo C d ρ S1 dx v σ _ (g1.trans g2) ((sr.go g1).go g2) upd_same (DV.go g2 _ _ dv) h1
def oneV (f : V → Prop) : List V → Prop
  | [v] => f v
  | _ => False
theorem pmk_oexK {CX : CXT} {kn : Str} {kpos : Pos} {g : List Value → List Value → List Value} {gD : List D → List D → List D} {te : TE} {sp : Sp} (T : OexC X.K C) (iC : PySem.W.findIn X.K (.ref C) "__init__" = some (some (.ref fI))) (tI : PySem.W.typeIn X.K (.ref fI) = some (.type "function"))
    (F1 : FnOk X.prog X.w X.K X.mg X.base CX k fI fd ["self", "value"] sp) (hr : Room (k + 1) X.A) (hb : KBD X.K fd ["self", "value"] [kn] g gD) (hx : Passes CX X (fun _ _ _ => False)) (hg : Gl X x) (hm : X.mg x = some (.ref C)) (he : PE X e te)
    (hall : (backToKw pos (keywordEach [⟨some kn, e, kpos⟩] X.env)).all (·.1.isSome) = true := by rfl) (hks : (backToKw pos (keywordEach [⟨some kn, e, kpos⟩] X.env)).filterMap (·.1) = [kn] := by rfl)
    (hpl : ((backTo pos (starEach [] X.env)).any (·.1) || (backToKw pos (keywordEach [⟨some kn, e, kpos⟩] X.env)).any (·.1.isNone)) = false := by rfl)
    (hdb : (x == ("__debug__" : Str)) = false := by decide) (hgk : ∀ a b : Value, g [a] [b] = [a, b] := by intro _ _; rfl) :
    PMk X (.Call (.Name x p) [] [⟨some kn, e, kpos⟩] pos) (fun σ H Q => te σ H fun v H1 => ∀ a, H1 a = none → sp [.ref a, v] (upd H1 a (exo a C none))
  (fun v H2 => v = .non ∧ ∃ (d : Addr) (fs : List (Str × V)), H2 a = some (exo a C (some d)) ∧ H2 d = some (exd d fs) ∧ H1 d = none ∧ Q (.ref C) (some d) (upd (L2.del H2 a) d (.xd fs))) (fun _ _ _ => False)) := by
  intro pins s σ H Q I h
  obtain ⟨nm, q, N, bs, bm, sn, sub, ab, col, dd, k0, k1, k2, k3, k5, hC, hbm⟩ := T.cls
  refine wpAny_Call_Name_kw (ld_glob I hg hm ?_ hdb)
  refine PySem.W.callWith_KW0 (h₀ := X.base) I.ok.mod.kin T.kC hall ?_ hpl
  have hkr := (pk_cons (nm := some kn) (kpos := kpos) he pk_nil).run pos pins s σ H (fun vs H1 => oneV (fun v => ∀ a, H1 a = none → sp [.ref a, v] (upd H1 a (exo a C none))
    (fun v H2 => v = .non ∧ ∃ (d : Addr) (fs : List (Str × V)), H2 a = some (exo a C (some d)) ∧ H2 d = some (exd d fs) ∧ H1 d = none ∧ Q (.ref C) (some d) (upd (L2.del H2 a) d (.xd fs))) (fun _ _ _ => False)) vs) I h
  refine thn hkr fun ws s1 ⟨vs, H1, I1, r1, q1⟩ => ⟨I1.kIn, ?_⟩
  rw [hks]
  have hv : ∃ v, vs = [v] := by
    cases vs with
    | nil => exact False.elim q1
    | cons v r =>
      cases r with
      | nil => exact ⟨v, rfl⟩
      | cons _ _ => exact False.elim q1
  obtain ⟨v, rfl⟩ := hv
  replace q1 : ∀ a, H1 a = none → _ := q1
  cases r1 with
  | @cons _ u _ ur ru rr =>
  cases rr
  show wpAny _ _ (call (.ref C) [] [(kn, u)]) _ _ _
  obtain ⟨hp, gg, dr, tk, os⟩ := s1
  have hsz : hp.objs.size ≤ hp.objs.size + 1 := Nat.le_succ _
  have hn : H1 (hp.objs.size + 1) = none := I1.hok.fresh hsz
  have hq := q1 (hp.objs.size + 1) hn
  have kk : ∀ b o, hp.get? b = some o → ((hp.push (PySem.W.kdv_tup [])).push (PySem.HandSPX.excO C hp.objs.size)).get? b = some o := fun b o e => Heap.get?_push_of_some _ (Heap.get?_push_of_some _ e)
  have hget : ((hp.push (PySem.W.kdv_tup [])).push (PySem.HandSPX.excO C hp.objs.size)).get? (hp.objs.size + 1) = some (PySem.HandSPX.excO C hp.objs.size) := by heap_get
  have I2 : Inv X pins σ (upd H1 (hp.objs.size + 1) (exo (hp.objs.size + 1) C none)) ⟨(hp.push (PySem.W.kdv_tup [])).push (PySem.HandSPX.excO C hp.objs.size), gg, dr, tk, os⟩ :=
    I1.laid (t' := tk) (a := hp.objs.size + 1) (o := exo (hp.objs.size + 1) C none) (h' := (hp.push (PySem.W.kdv_tup [])).push (PySem.HandSPX.excO C hp.objs.size)) kk hsz (exo_ok hget)
  have r2 : Vals [V.ref (hp.objs.size + 1), v] [Value.ref (hp.objs.size + 1), u] := .cons rfl (.cons ru .nil)
  have hbt := hb.to ⟨(hp.push (PySem.W.kdv_tup [])).push (PySem.HandSPX.excO C hp.objs.size), gg, dr, tk, os⟩ [Value.ref (hp.objs.size + 1)] [u] I2.kIn (by rw [hgk]; rfl)
  rw [hgk] at hbt
  refine wpAny_call (PySem.HandSPX.call_own_kw F.excBase_ValueError (fun Y => PySem.HandSPX.refsVE_contains Y bm hbm) (I1.kIn _ _ hC) (PySem.W.looks_findIn I1.kIn iC) (fun self => PySem.W.bind_fn I1.kIn self tI) (Nat.zero_le _)
    (codeAny_mono (F1.run _ X.stack _ _ ⟨[Value.ref (hp.objs.size + 1)], [(kn, u)]⟩ [Value.ref (hp.objs.size + 1), u] _ _ (fun _ _ _ => False) (hr.make C [] [(kn, u)]) (I2.env0.make C [] [(kn, u)]) hbt r2 hq) fun r s' hq' => ?_))
  cases r with
  | error er => exact hx pins σ _ _ er s' I2 hq'
  | ok fl =>
    cases fl with
    | ret u =>
      obtain ⟨v, H2, os2, bare2, un2, hok2, rv, ev, d, fs, ea, ed, hd1, q2⟩ := hq'
      subst ev
      obtain ⟨h2, g2, d2, t2, os'⟩ := s'
      exact ⟨rv, mk_end (raises_own T.exC T.tyC) I1 hsz kk un2 hok2 os2 bare2 ea ed hd1 q2⟩
    | next => exact False.elim hq'
    | brk => exact False.elim hq'
    | cont => exact False.elim hq'
end
end DL
namespace DL
open PySem PySem.Spec PyProof.Rows L2
section
variable {X : Cx} {y : DXw} {x : Str} {C fI : Addr} {k : Nat} {fd : FuncData} {e : Expr} {te : RE} {p pos pos2 : Pos}
theorem pd_raiseK {kn : Str} {kpos : Pos} {g : List Value → List Value → List Value} {gD : List D → List D → List D} (hc : X.calm = true) (tk : Takes X y.W) (O : Own X.K C fI) (tI : PySem.W.typeIn X.K (.ref fI) = some (.type "function")) (F1 : FnOk X.prog X.w X.K X.mg X.base (L2.CX X.prog X.w) k fI fd ["self", "value"] (spI X.K)) (hr : Room (k + 1) X.A)
    (hb : KBD X.K fd ["self", "value"] [kn] g gD) (hm : X.mg x = some (.ref C)) (he : PD X y e te) (hg : Gl X x := by rfl) (hdb : (x == ("__debug__" : Str)) = false := by decide)
    (hall : (backToKw pos (keywordEach [⟨some kn, e, kpos⟩] X.env)).all (·.1.isSome) = true := by rfl) (hks : (backToKw pos (keywordEach [⟨some kn, e, kpos⟩] X.env)).filterMap (·.1) = [kn] := by rfl)
    (hpl : ((backTo pos (starEach [] X.env)).any (·.1) || (backToKw pos (keywordEach [⟨some kn, e, kpos⟩] X.env)).any (·.1.isNone)) = false := by rfl)
    (hgk : ∀ a b : Value, g [a] [b] = [a, b] := by intro _ _; rfl) :
    PDS X y (.Raise (some (.Call (.Name x p) [] [⟨some kn, e, kpos⟩] pos)) none pos2) (rRaise C y.d te) := by
  refine PDS.of (ps_raise hc tk (pmk_oexK O.ox O.ii tI F1 hr hb (passes_false tk) hg hm he hall hks hpl hdb hgk)) fun D σ H h => ?_
  obtain ⟨ρ, S, E, sr, so, h, eo⟩ := h
  refine ⟨ρ, S, _, sr, so, h, fun d S1 v H1 g1 dv h1 => ?_⟩
  refine fun a ha => ⟨a, C, v, rfl, O.ox, O.nv, upd_same, fun dx hdx ne => ⟨rfl, dx, _, upd_same, by rw [upd_ne ne]; exact upd_same, ?_, ?_⟩⟩
  · rw [upd_ne ne] at hdx
    exact hdx
  · rw [upd_ne ne] at hdx
    have eH : upd (upd (upd H1 a (exo a C none)) dx (exd dx [(("value" : Str), v)])) a (exo a C (some dx)) = upd (upd H1 dx (exd dx [(("value" : Str), v)])) a (exo a C (some dx)) := by
      funext b
      by_cases h1 : b = a
      · rw [h1, upd_same, upd_same]
      · rw [upd_ne h1, upd_ne h1]
        by_cases h2 : b = dx
        · rw [h2, upd_same, upd_same]
        · rw [upd_ne h2, upd_ne h2, upd_ne h1]
    rw [eH, made_eq ha ne]
    have g2 := Go.new (K := X.K) (o := .xd [(("value" : Str), v)]) g1.ok hdx
    exact so.xo C d ρ S1 dx v σ _ (g1.trans g2) ((sr.go g1).go g2) upd_same (DV.go g2 _ _ dv) h1

end
end DL
namespace PySem.W
open PySem PySem.Spec PySem.Calls PyProof.Rows
section
variable {prog : Program} {w : World} {A : Around} {E : Value → Shared → Prop} {s : Shared} {K : Frag} {x D : Addr} {ox : Obj} {od : Option Obj}
theorem findObj_dataD {C : Addr} {name : Str} {a g : Value} (hc : (clsIn K C).isSome = true) (ha : findIn K (.ref C) name = some (some a)) (hg : specialIn K a "__get__" = some (some g)) (ht : takesIn K a = some true) : findObj K C od name = some (.bind g a) := by
  obtain ⟨cd, hc⟩ := Option.isSome_iff_exists.mp hc
  unfold findObj
  rw [hc, Option.bind_some, ha, Option.bind_some]
  simp [hg, ht]
theorem kin_classD {Q : Option Value → Shared → Prop} (hga : findIn K (.ref D) "__getattribute__" = some (some (.builtin "BaseException.__getattribute__"))) (hgt : findIn K (.ref D) "__getattr__" = some none) (hsub : subIn K (.ref D) (.type "BaseException") = some true)
    (hdct : hasDictIn K D = true) (ha : findIn K (.ref D) "__class__" = some (some (.builtin "object.__class__")))
    (hn : specialIn K (.builtin "object.__class__") "__get__" = some (some (.builtin "getset_descriptor.__get__"))) (htk : takesIn K (.builtin "object.__class__") = some true) (hm : mroIn K D (.type "object") = some true)
    (X : K.In s.heap) (I : InstAt s.heap x ox D od) (h : Q (some (.ref D)) { s with toks := s.toks + 1 }) : wpAny (model prog w) A (getAttr? (.ref x) "__class__") Q E s := by
  have hf : findObj K D od "__class__" = some (.bind (.builtin "getset_descriptor.__get__") (.builtin "object.__class__")) := findObj_dataD (by obtain ⟨cd, hc, _⟩ := any_some hdct; rw [hc]; rfl) ha hn htk
  obtain ⟨hp, g, d, t, os⟩ := s
  have L0 := I.type (M := model prog w)
  have L1 := looks_findIn (M := model prog w) X hga
  have L2 := looks_findIn (M := model prog w) X hgt
  have L3 := looks_find (M := model prog w) X I hf
  have sub : Looks (model prog w) hp (isInstance (.ref x) (.type "BaseException")) true := L0.andThen (looks_subIn X hsub)
  have hx0 : (false && onTheHeap (Value.builtin "BaseException.__getattribute__")) = false := rfl
  have hx2 : (Value.builtin "BaseException.__getattribute__" == Value.builtin "object.__getattribute__") = false := by decide +kernel
  have hx1 : (onTheHeap (Value.ref D) && Value.builtin "BaseException.__getattribute__" == Value.builtin "object.__getattribute__") = false := by rw [hx2]; rfl
  unfold getAttr? getAttrBy? getAttrBy
  refine wpAny_bind (wpAny_mkText (wpAny_bind (wpAny_attempt (wpAny_holding (wpAny_bind (L0.at (wpAny_bind (L1.at ?_))))))))
  show wpAny _ _ (if (onTheHeap (Value.ref D) && Value.builtin "BaseException.__getattribute__" == Value.builtin "object.__getattribute__") = true then _ else _) _ _ _
  rw [hx1, if_neg Bool.false_ne_true]
  unfold getAttrByItsOwn hookBefore
  refine wpAny_bind ?_
  rw [if_pos (show onTheHeap (Value.ref D) = true from rfl)]
  refine L2.at ?_
  refine wpAny_bind (wpAny_attempt (wpAny_holding ?_))
  unfold callGetattribute
  rw [hx0, if_neg Bool.false_ne_true]
  unfold boundAndCalled
  rw [PySem.F.excAttr_ValueError.ga.bind (.ref x)]
  refine wpAny_bind (wpAny_pure ?_)
  show wpAny _ _ (call (.builtin "BaseException.__getattribute__") [.ref x, .str "__class__" t]) _ _ _
  refine wpAny_call (codeAny_call_builtin PySem.F.excAttr_ValueError.ga.plain PySem.F.entry_bexc_ga ?_)
  refine @check_slot (model prog w) _ _ ⟨hp, g, d, t + 1, os⟩ "BaseException.__getattribute__" "BaseException" "__getattribute__" (.ref x) [.str "__class__" t] [] _ (by decide +kernel) (by decide +kernel) sub (PySem.F.args_bexc_ga (.ref x) (.str "__class__" t)) ?_
  unfold Builtin.«object.__getattribute__»
  refine wpAny_bind (wpAny_of_eq (a := ((Value.ref x : Value), [Value.str "__class__" t])) (by first | rfl | (simp only [slotArgs]; rfl)) ?_)
  refine wpAny_bind (wpAny_pure (wpAny_bind (L0.at (wpAny_bind (L3.at ?_)))))
  show wpAny _ _ (holding [Value.builtin "object.__class__"] (call (.builtin "getset_descriptor.__get__") [.builtin "object.__class__", .ref x, .ref D]) >>= ret) _ _ _
  refine wpAny_bind (wpAny_holding (wpAny_call (class_get (s := ⟨hp, g, d, t + 1, os⟩) (ox := ox) (od := od) X I hm ?_)))
  refine wpAny_pure ?_
  show wpAny _ _ (handedOut (.ref D)) _ _ _
  rw [handedOut_of (v := .ref D) rfl]
  first
    | exact wpAny_pure (wpAny_pure h)
    | exact wpAny_pure h
    | exact wpAny_pure (wpAny_bind (wpAny_pure (wpAny_pure h)))
theorem kitx_excD (C : L2.ExcC K D) : KitX K (.ref x) (.ref D) (fun h => InstAt h x ox D od) where
  ty := fun _ _ _ I => I.type
  it := fun _ _ X _ => by
    obtain ⟨cdD, hcD, _⟩ := any_some C.hd
    unfold clsIn at hcD
    split at hcD
    · rename_i c' d' cd' sl' ho
      intro A' Q' E' s' k q
      unfold isType loadHead
      exact wpAny_bind (wpAny_loadPart (k _ _ (X _ _ ho)) (wpAny_pure q))
    · cases hcD
  ne := fun h tp dd its n sl X htp => by
    obtain ⟨cdD, hcD, _⟩ := any_some C.hd
    refine Bool.eq_false_iff.mpr fun q => ?_
    have e : D = tp := Value.ref.inj (beq_iff_eq.mp q)
    subst e
    unfold clsIn at hcD
    split at hcD
    · rename_i c' d' cd' sl' ho
      have z := (X _ _ ho).symm.trans htp
      cases z
    · cases hcD
  ca := fun X I k => kin_classD C.hg C.hk C.hs C.hd C.ha C.hn C.ht C.hm X I k
end
end PySem.W
namespace DL
open PySem PySem.Spec PyProof.Rows L2
/-- what a held exception's class says, for isinstance and its value -/
structure Exn (K : PySem.W.Frag) (C : Addr) : Prop where
  ec : ExcC K C
  nv : PySem.W.findIn K (.ref C) "value" = some none
theorem exc_inst {P : Program} {w : World} {H : Hp} {h : Heap} {a C dx : Addr} {wv : V} (hok : HOk P w H h) (ha : H a = some (XO a C dx)) (hdx : H dx = some (.xd [(("value" : Str), wv)])) :
    ∃ oe od u, PySem.W.InstAt h a oe C (some od) ∧ PySem.W.lookIn "value" od = some (some u) ∧ RelV wv u := by
  obtain ⟨oe, vs, ho, hz, hd⟩ := xo_at hok ha
  have hx : ObjOk P w H h dx (.xd [(("value" : Str), wv)]) := hok dx _ hdx
  obtain ⟨mA, hns, hr⟩ := hx
  obtain ⟨od, hod, hl⟩ := lookIn_ns hns
  obtain ⟨u, hu, ru⟩ := RelO.some_of (v := wv) (o := mA "value") (by rw [show some wv = List.lookup ("value" : Str) [(("value" : Str), wv)] by rfl]; exact hr "value")
  exact ⟨oe, od, u, ⟨ho, hz.1, by unfold PySem.W.notCls; rw [hd] <;> rfl, by rw [hz.2]; exact hod⟩, by rw [hl, hu], ru⟩
section
variable {X : Cx} {y : DXw} {x : Str} {e : Expr} {te : RE} {p pos pos2 : Pos}
/-! ### a held exception's value -/
def rVal (K : PySem.W.Frag) (te : RE) : RE := fun ρ S Q => te ρ S fun d S1 => match d with
  | .exc C w => Exn K C ∧ Q w S1
  | _ => False
theorem pd_value (he : PD X y e te) (hb : attributeBase e "value" X.env (eval e X.env) = eval e X.env := by rfl) : PD X y (.Attribute e "value" pos) (rVal X.K te) := by
  refine ⟨fun pins s σ H Q I h => ?_⟩
  obtain ⟨ρ, S, R, sr, so, h, k⟩ := h
  refine attr_of hb (thn (he.run pins s σ H (fun v H1 => ∃ d S1, Go X.K H S H1 S1 ∧ DV X.K H1 d v ∧ (match d with | .exc C w => Exn X.K C ∧ R w S1 | _ => False)) I ⟨ρ, S, _, sr, so, h, fun d S1 v H1 g dv q => ⟨d, S1, g, dv, q⟩⟩) fun u s1 hh => ?_)
  obtain ⟨v, H1, I1, rx, d, S1, g1, dv, q⟩ := hh
  cases d with
  | exc C w =>
    obtain ⟨T, q⟩ := q
    obtain ⟨a, dx, wv, rfl, ha, hdx, dw⟩ := dv
    obtain rfl : u = Value.ref a := rx
    obtain ⟨oe, od, u, J, hl, ru⟩ := exc_inst I1.hok ha hdx
    exact HandSPX.exc_get I1.kIn J T.ec.hg T.ec.hk T.ec.hs (PySem.W.findObj_own T.ec.hd T.nv rfl hl) (handed_of ru) ⟨wv, H1, I1.tok _, ru, k _ S1 _ H1 g1 dw q⟩
  | _ => exact False.elim q
/-! ### isinstance of a held exception -/
def kitX (K : PySem.W.Frag) (C : Addr) (c : D) (k : Bool → Prop) : Prop := match c with
  | .ref D => ∃ b, PySem.W.kitOne K (.ref C) (.ref D) = some b ∧ k b
  | .ty n => ∃ b, PySem.W.kitOne K (.ref C) (.type n) = some b ∧ k b
  | _ => False
def dIsX (K : PySem.W.Frag) : RCall := fun ds S Q => match ds with
  | [.exc C _, c] => Exn K C ∧ kitX K C c fun b => Q (.bl b) S
  | _ => False
theorem call_isX {a C dx : Addr} {cv : Value} {wv : V} {pins : List (Addr × Obj)} {s : Shared} {σ : L2.St} {H : Hp} {Q : Value → Shared → Prop} {b : Bool} (I : Inv X pins σ H s) (ha : H a = some (XO a C dx)) (hdx : H dx = some (.xd [(("value" : Str), wv)])) (T : Exn X.K C)
    (e : PySem.W.kitOne X.K (.ref C) cv = some b) (h : ∀ tk, Q (.bool b) { s with toks := tk }) : wpAny (model X.prog X.w) X.A (call (.builtin "isinstance") [.ref a, cv]) Q X.xe s := by
  obtain ⟨oe, od, u, J, _⟩ := exc_inst I.hok ha hdx
  exact PySem.W.kia_one (PySem.W.kitx_excD T.ec) I.kIn J e (fun z => nomatch z) h
theorem cd_isX : CallR X (.builtin "isinstance") (lcl X.K (dIsX X.K)) := by
  intro pins s σ H vs us Q I rv h
  obtain ⟨ds, S, R, dv, so, h, k⟩ := h
  unfold dIsX at h
  split at h
  · rename_i C w c
    obtain ⟨v, v2, rfl, r1, r2⟩ := dvs2 dv
    obtain ⟨a, dx, wv, rfl, ha, hdx, dw⟩ := r1
    obtain ⟨u, u', rfl, ru, ru'⟩ := vals2 rv
    obtain rfl : u = Value.ref a := ru
    obtain ⟨T, h⟩ := h
    unfold kitX at h
    split at h
    · rename_i D
      cases (show v2 = V.ref D from r2)
      obtain rfl : u' = Value.ref D := ru'
      obtain ⟨b, e, q⟩ := h
      exact call_isX I ha hdx T e fun tk => ⟨.bl b, H, I.kept (t' := tk) fun _ _ z => z, rfl, k (.bl b) S _ H (Go.refl so) rfl q⟩
    · rename_i n
      cases (show v2 = V.ty n from r2)
      obtain rfl : u' = Value.type n := ru'
      obtain ⟨b, e, q⟩ := h
      exact call_isX I ha hdx T e fun tk => ⟨.bl b, H, I.kept (t' := tk) fun _ _ z => z, rfl, k (.bl b) S _ H (Go.refl so) rfl q⟩
    · exact h.elim
  · exact h.elim
theorem pd_tyN {n : String} (hm : X.mg x = none) (hv : bootBuiltins x = some (.type n)) (hg : Gl X x := by rfl) (hn : x ≠ "__name__" := by decide) (hd : (x == ("__debug__" : Str)) = false := by decide) : PD X y (.Name x pos) (rC (.ty n)) :=
  pd_c (pe_bltn (v := .ty n) hg hm hv rfl hn hd) fun _ => rfl
end
end DL
set_option Elab.async false
set_option linter.all false
set_option maxRecDepth 100000
set_option maxHeartbeats 4000000
namespace DL
open PySem PySem.Spec PyProof.Rows L2
section
variable {X : Cx} {y : DXw} {x : Str} {e o i : Expr} {te to ti : RE} {p pos pos2 tpos : Pos}
/-! ### op= -/
def rAugI (i : Nat) (f : Int → Int → Int) (te : RE) : RS := fun E ρ S => match ρ[i]? with
  | some (some (.int a)) => te ρ S fun d S1 => match d with
    | .int b => E.nx (ρ.set i (some (.int (f a b)))) S1
    | _ => False
  | _ => False
theorem pd_aug (i : Nat) {op : Operator} {f : Int → Int → Int} (hN : X.N.Nodup) (ho : PIp X op (ipI f)) (he : PD X y e te) (hi : X.N[i]? = some x := by rfl) (hx : Loc X.env.scope x := by first | exact Or.inl rfl | exact Or.inr rfl)
    (hf : X.fn x = true ∨ X.env.scope.names.lookup x = some .local := by first | exact .inl rfl | exact .inr rfl) : PDS X y (.AugAssign (.Name x p) op e pos) (rAugI i f te) := PDS.of (ps_aug hN hi hx he ho hf) fun D σ H h => by
  obtain ⟨ρ, S, E, sr, so, h, eo⟩ := h
  unfold rAugI at h
  split at h
  · rename_i a ea
    obtain ⟨v, e1, q⟩ := sr.2 i _ ea
    cases (show v = V.int a from q)
    refine ⟨.int a, e1, ρ, S, _, sr, so, h, fun d S1 w H1 g dv hd => ?_⟩
    cases d with
    | int b =>
      cases (show w = V.int b from dv)
      exact ⟨a, b, rfl, rfl, eo.nx _ S1 _ H1 g ((sr.go g).set (show DV X.K H1 (.int (f a b)) (.int (f a b)) from rfl) i) hd⟩
    | _ => exact False.elim hd
  · exact h.elim
theorem get_list : PGet X (fun x k H Q => ∃ p xs i v, x = .ref p ∧ k = .int i ∧ 0 ≤ i ∧ SqL X.K H p xs ∧ atI xs i = some v ∧ Q v H) := by
  intro pins s σ H x k v u Q I rx ry h
  obtain ⟨p, xs, i, z, rfl, rfl, h0, hq, he, q⟩ := h
  cases rx
  obtain ⟨t, rfl⟩ := ry
  obtain ⟨its, r, pl, hz⟩ := I.list hq
  obtain ⟨j, h1, h2, h3, h4, h5⟩ := atI_get he
  obtain ⟨w, ew, rw'⟩ := r.get h2
  have hl := r.length
  have hn := line63
  have fin : EP X pins σ Q w s := ⟨z, H, I, rw', q⟩
  have hj : i.toNat = j := by
    rw [seqIndex_of h0 h5] at h1
    exact Option.some.inj h1
  exact wpAny_getItem_list pl.isList h0 (by omega) (by rw [hj]; simpa using ew) fin
def rAugS (f : Int → Int → Int) (to ti te : RE) : RS := fun E ρ S => to ρ S fun o S1 => ti ρ S1 fun i S2 => match o, i with
  | .ref a, .int k => ∃ xs v, 0 ≤ k ∧ S2 a = some (.lst xs) ∧ atI xs k = some (.int v) ∧ te ρ S2 fun d S3 => match d with
    | .int b => ∃ xs3 j, S3 a = some (.lst xs3) ∧ ixN xs3.length k = some j ∧ E.nx ρ (sup S3 a (.lst (xs3.set j (.int (f v b)))))
    | _ => False
  | _, _ => False
theorem pd_augS {op : Operator} {f : Int → Int → Int} (hop : PIp X op (ipI f)) (ho : PD X y o to) (hi : PD X y i ti) (he : PD X y e te)
    (ha : ∀ ov iv new, augStore i ov iv new = (do holding [new, ov, iv] (setItem ov iv new); release [new, ov, iv] []; pure .next) := by intros; rfl) : PDS X y (.AugAssign (.Subscript o i tpos) op e pos) (rAugS f to ti te) :=
  PDS.of (ps_augS (tset := lset X.K dSet) ho hi get_list he hop sd_list ha) fun D σ H h => by
    obtain ⟨ρ, S, E, sr, so, h, eo⟩ := h
    refine ⟨ρ, S, _, sr, so, h, fun d1 S1 v1 H1 g1 dv1 q1 => ⟨ρ, S1, _, sr.go g1, so.go g1, q1, fun d2 S2 v2 H2 g2 dv2 q2 => ?_⟩⟩
    split at q2
    · rename_i a k
      cases (show v1 = V.ref a from dv1)
      cases (show v2 = V.int k from dv2)
      obtain ⟨xs, v, h0, e1, e2, q2⟩ := q2
      obtain ⟨vs, e3, r3⟩ := g2.ok a _ e1
      obtain ⟨vv, e4, r4⟩ := atI_dv r3 e2
      cases (show vv = V.int v from r4)
      have g12 := g1.trans g2
      refine ⟨a, vs, k, .int v, rfl, rfl, h0, SqL.of e3, e4, ρ, S2, _, sr.go g12, so.go g12, q2, fun d3 S3 v3 H3 g3 dv3 q3 => ?_⟩
      cases d3 with
      | int b =>
        cases (show v3 = V.int b from dv3)
        obtain ⟨xs3, j, e5, e6, q⟩ := q3
        refine ⟨v, b, rfl, rfl, .ref a, .int k, .int (f v b), S3, fun S' => E.nx ρ S', rfl, rfl, rfl, g3.ok, ⟨xs3, j, e5, e6, q⟩, fun S4 H4 g4 q4 => ?_⟩
        have gA := (g12.trans g3).trans g4
        exact eo.nx ρ S4 σ H4 gA (sr.go gA) q4
      | _ => exact False.elim q3
    · exact q2.elim
end
end DL
set_option Elab.async false
set_option linter.all false
set_option maxRecDepth 100000
set_option maxHeartbeats 4000000
namespace DL
open PySem PySem.Spec PyProof.Rows L2
/-! ### what the written part says of own exception classes -/
/-- C is a class whose bases are told by bm -/
def ClsO (K : PySem.W.Frag) (C : Addr) (bm : List Value) : Prop := ∃ nm qn N bs sn sub ab col dd k0 k1 k2 k3 k5, K.lookup C = some (excClassObj nm qn C N bs bm true sn sub ab col dd k0 k1 k2 k3 k5 "ValueError.__new__")
abbrev veT : List Value := [.type "ValueError", .type "Exception", .type "BaseException", .type "object"]
/-- a class that can be raised -/
structure ClsX (K : PySem.W.Frag) (C fI : Addr) : Prop where
  ii : PySem.W.findIn K (.ref C) "__init__" = some (some (.ref fI))
  sa : PySem.W.findIn K (.ref C) "__setattr__" = some (some (.builtin "object.__setattr__"))
  nv : PySem.W.findIn K (.ref C) "value" = some none
  hg : PySem.W.findIn K (.ref C) "__getattribute__" = some (some (.builtin "BaseException.__getattribute__"))
  hk : PySem.W.findIn K (.ref C) "__getattr__" = some none
  ha : PySem.W.findIn K (.ref C) "__class__" = some (some (.builtin "object.__class__"))
  kp : PySem.W.keepIn K (.ref C) = true
section
variable {K : PySem.W.Frag} {C D T fI : Addr} {bm bm' : List Value}
theorem ClsO.cls (h : ClsO K C bm) : ∃ cd, PySem.W.clsIn K C = some cd ∧ cd.mro = .ref C :: bm ∧ cd.hasDict = true := by
  obtain ⟨nm, qn, N, bs, sn, sub, ab, col, dd, k0, k1, k2, k3, k5, e⟩ := h
  exact ⟨{ name := nm, bases := bs, mro := .ref C :: bm, ns := N, qualname := qn, hasDict := true, slotNames := sn, subclasses := sub, abstract := ab, collection := col, hasDel := false }, by unfold PySem.W.clsIn; rw [e] <;> rfl, rfl, rfl⟩
theorem ClsO.ty (h : ClsO K C bm) : PySem.W.typeIn K (.ref C) = some (.type "type") := by
  obtain ⟨nm, qn, N, bs, sn, sub, ab, col, dd, k0, k1, k2, k3, k5, e⟩ := h
  show (K.lookup C).map (·.cls) = _
  rw [e]
  rfl
theorem ClsO.sub (h : ClsO K C bm) (v : Value) : PySem.W.subIn K (.ref C) v = some ((Value.ref C :: bm).contains v) := by
  obtain ⟨cd, e, m, _⟩ := h.cls
  show ((PySem.W.clsIn K C).bind fun cd => if cd.mro.isEmpty then none else some (cd.mro.contains v)) = _
  rw [e, Option.bind_some, m]
  rfl
theorem ClsO.dict (h : ClsO K C bm) : PySem.W.hasDictIn K C = true := by
  obtain ⟨cd, e, _, d⟩ := h.cls
  unfold PySem.W.hasDictIn
  rw [e]
  exact d
theorem ve_in (Y : String) (h : HandSPX.refsVE bm = true) : (Value.ref C :: bm).contains (.type Y) = HandSPX.veTail.contains (.type Y) := by
  rw [List.contains_cons, HandSPX.refsVE_contains Y bm h]
  rfl
theorem bm_T : HandSPX.refsVE (.ref T :: veT) = true := rfl
theorem bm_0 : HandSPX.refsVE veT = true := rfl
theorem own_of (h : ClsO K C bm) (hb : HandSPX.refsVE bm = true) (x : ClsX K C fI) : Own K C fI where
  ox := ⟨by
    obtain ⟨nm, qn, N, bs, sn, sub, ab, col, dd, k0, k1, k2, k3, k5, e⟩ := h
    exact ⟨nm, qn, N, bs, bm, sn, sub, ab, col, dd, k0, k1, k2, k3, k5, e, hb⟩, x.sa, by rw [h.sub, ve_in _ hb]; decide +kernel, h.ty, x.kp⟩
  ii := x.ii
  nv := x.nv
theorem exn_of (h : ClsO K C bm) (hb : HandSPX.refsVE bm = true) (x : ClsX K C fI) : Exn K C where
  ec := ⟨x.hg, x.hk, by rw [h.sub, ve_in _ hb]; decide +kernel, h.dict, x.ha, by kernel_rfl, by kernel_rfl, by
    obtain ⟨cd, e, m, _⟩ := h.cls
    unfold PySem.W.mroIn
    rw [e, Option.bind_some, m]
    show some ((Value.ref C :: bm).contains (.type "object")) = some true
    rw [ve_in _ hb]
    decide +kernel⟩
  nv := x.nv
theorem kit_ref (hc : ClsO K C bm) (hd : ClsO K D bm') (h : D ≠ C) : PySem.W.kitOne K (.ref C) (.ref D) = some (bm.contains (.ref D)) := by
  show (if (Value.ref C == Value.ref D) = true then some true else if ((PySem.W.clsIn K D).isSome && PySem.W.typeIn K (.ref D) == some (.type "type")) = true then PySem.W.subIn K (.ref C) (.ref D) else none) = _
  have h1 : (Value.ref C == Value.ref D) = false := Bool.eq_false_iff.mpr fun q => h (Value.ref.inj (beq_iff_eq.mp q)).symm
  have h2 : (Value.ref D == Value.ref C) = false := Bool.eq_false_iff.mpr fun q => h (Value.ref.inj (beq_iff_eq.mp q))
  rw [h1, if_neg Bool.false_ne_true]
  obtain ⟨cd, e, _⟩ := hd.cls
  rw [hd.ty, e, if_pos (by rfl), hc.sub, List.contains_cons, h2, Bool.false_or]
theorem kit_self : PySem.W.kitOne K (.ref C) (.ref C) = some true := by
  unfold PySem.W.kitOne
  rw [if_pos (beq_self_eq_true _)]
theorem kit_other (hc : ClsO K C (.ref T :: veT)) (hd : ClsO K D bm') (h : D ≠ C) (h2 : D ≠ T) : PySem.W.kitOne K (.ref C) (.ref D) = some false := by
  rw [kit_ref hc hd h, List.contains_cons]
  have h3 : (Value.ref D == Value.ref T) = false := Bool.eq_false_iff.mpr fun q => h2 (Value.ref.inj (beq_iff_eq.mp q))
  rw [h3]
  rfl
theorem kit_base (hc : ClsO K C (.ref T :: veT)) (hd : ClsO K T bm') : PySem.W.kitOne K (.ref C) (.ref T) = some true := by
  by_cases h : T = C
  · subst h; exact kit_self
  · rw [kit_ref hc hd h, List.contains_cons, beq_self_eq_true]; rfl
theorem kit_ve (hc : ClsO K C bm) (hb : HandSPX.refsVE bm = true) : PySem.W.kitOne K (.ref C) (.type "ValueError") = some true := by
  show (if (Value.ref C == Value.type "ValueError") = true then some true else if PySem.W.kitMeta "ValueError" = true then PySem.W.subIn K (.ref C) (.type "ValueError") else none) = _
  have h1 : (Value.ref C == Value.type "ValueError") = false := rfl
  rw [h1, if_neg Bool.false_ne_true, if_pos (by decide +kernel), hc.sub, ve_in _ hb]
  decide +kernel
theorem exm_base (hc : ClsO K C (.ref T :: veT)) (hd : ClsO K T veT) : PySem.W.exmOne K (.ref C) (.ref T) = some true :=
  PySem.W.exm_ref (by rw [hd.sub, ve_in _ bm_0]; decide +kernel) hd.dict hd.ty (by
    rw [hc.sub, List.contains_cons, List.contains_cons, beq_self_eq_true, Bool.true_or, Bool.or_true])
theorem init_ve : PySem.W.findCls K (.type "ValueError") (.type "type") "__init__" = some (.val (.builtin "ValueError.__init__")) := by kernel_rfl
end
end DL
namespace DL
open PySem
/-- a def within a class */ -/
def inCls (st : Stmt) (i : Nat) : Stmt := match st with
  | .ClassDef (body := b) .. => b.getD i (.Pass ⟨0, 0, 0, 0⟩)
  | s => s
end DL
set_option Elab.async false
set_option linter.all false
set_option maxRecDepth 100000
set_option maxHeartbeats 4000000
namespace K57
open PySem PySem.Spec PyProof.Rows L2 DL
local macro_rules | `(tactic| walk_at "w") => `(tactic| conv => whnf)
local macro_rules | `(tactic| walk_at "g") => `(tactic| ((conv => whnf); repeat' (first | (refine IFB.t ?_ ?_; rfl; conv => whnf) | (refine IFB.f ?_ ?_; rfl; conv => whnf))))
def topS (i : Nat) : Stmt := PySem.Challenge.pw_wholeplays_k57_errors_of_games_and_sourc.main.body.getD i (.Pass ⟨0, 0, 0, 0⟩)
abbrev s_law_take : Stmt := topS 31
theorem sc_law_take : FnScope ["pot", "many", "cell", "mixed", "drawn_now"] ["pot", "many"] (defScope s_law_take) := ⟨rfl, rfl, rfl, by decide +kernel, rfl, by decide +kernel, by decide +kernel⟩
abbrev s_law_same : Stmt := topS 32
theorem sc_law_same : FnScope ["got", "due", "k"] ["got", "due"] (defScope s_law_same) := ⟨rfl, rfl, rfl, by decide +kernel, rfl, by decide +kernel, by decide +kernel⟩
abbrev s_law_raised : Stmt := topS 33
theorem sc_law_raised : FnScope ["which", "given"] ["which", "given"] (defScope s_law_raised) := ⟨rfl, rfl, rfl, by decide +kernel, rfl, by decide +kernel, by decide +kernel⟩
abbrev s_law_raised_named : Stmt := topS 34
theorem sc_law_raised_named : FnScope ["which", "given"] ["which", "given"] (defScope s_law_raised_named) := ⟨rfl, rfl, rfl, by decide +kernel, rfl, by decide +kernel, by decide +kernel⟩
abbrev s_law_kinds : Stmt := topS 35
theorem sc_law_kinds : FnScope ["e", "found"] ["e"] (defScope s_law_kinds) := ⟨rfl, rfl, rfl, by decide +kernel, rfl, by decide +kernel, by decide +kernel⟩
abbrev s_law_given : Stmt := topS 36
theorem sc_law_given : FnScope ["pot", "far", "some"] ["pot"] (defScope s_law_given) := ⟨rfl, rfl, rfl, by decide +kernel, rfl, by decide +kernel, by decide +kernel⟩
abbrev s_law_caught : Stmt := topS 37
theorem sc_law_caught : FnScope ["which", "given", "named", "caught", "e"] ["which", "given", "named"] (defScope s_law_caught) := ⟨rfl, rfl, rfl, by decide +kernel, rfl, by decide +kernel, by decide +kernel⟩
abbrev s_law_right : Stmt := topS 38
theorem sc_law_right : FnScope ["caught", "which", "given", "k"] ["caught", "which", "given"] (defScope s_law_right) := ⟨rfl, rfl, rfl, by decide +kernel, rfl, by decide +kernel, by decide +kernel⟩
abbrev s_law : Stmt := topS 39
theorem sc_law : FnScope ["script", "pot", "turn", "which", "given", "other", "named", "first", "second"] ["script"] (defScope s_law) := ⟨rfl, rfl, rfl, by decide +kernel, rfl, by decide +kernel, by decide +kernel⟩
abbrev s_init : Stmt := inCls (topS 1) 0
theorem sc_init : FnScope ["self", "value"] ["self", "value"] (defScope s_init) := ⟨rfl, rfl, rfl, by decide +kernel, rfl, by decide +kernel, by decide +kernel⟩
structure Txt (K : PySem.W.Frag) (mg : Str → Option Value) where
  a_law_take : Addr
  fd_law_take : FuncData
  m_law_take : mg "_law_take" = some (.ref a_law_take)
  F_law_take : Fun K "_law_take" "_law_take" s_law_take a_law_take fd_law_take
  d_law_take : Binds K fd_law_take ["pot", "many"] []
  a_law_same : Addr
  fd_law_same : FuncData
  m_law_same : mg "_law_same" = some (.ref a_law_same)
  F_law_same : Fun K "_law_same" "_law_same" s_law_same a_law_same fd_law_same
  d_law_same : Binds K fd_law_same ["got", "due"] []
  a_law_raised : Addr
  fd_law_raised : FuncData
  m_law_raised : mg "_law_raised" = some (.ref a_law_raised)
  F_law_raised : Fun K "_law_raised" "_law_raised" s_law_raised a_law_raised fd_law_raised
  d_law_raised : Binds K fd_law_raised ["which", "given"] []
  a_law_raised_named : Addr
  fd_law_raised_named : FuncData
  m_law_raised_named : mg "_law_raised_named" = some (.ref a_law_raised_named)
  F_law_raised_named : Fun K "_law_raised_named" "_law_raised_named" s_law_raised_named a_law_raised_named fd_law_raised_named
  d_law_raised_named : Binds K fd_law_raised_named ["which", "given"] []
  a_law_kinds : Addr
  fd_law_kinds : FuncData
  m_law_kinds : mg "_law_kinds" = some (.ref a_law_kinds)
  F_law_kinds : Fun K "_law_kinds" "_law_kinds" s_law_kinds a_law_kinds fd_law_kinds
  d_law_kinds : Binds K fd_law_kinds ["e"] []
  a_law_given : Addr
  fd_law_given : FuncData
  m_law_given : mg "_law_given" = some (.ref a_law_given)
  F_law_given : Fun K "_law_given" "_law_given" s_law_given a_law_given fd_law_given
  d_law_given : Binds K fd_law_given ["pot"] []
  a_law_caught : Addr
  fd_law_caught : FuncData
  m_law_caught : mg "_law_caught" = some (.ref a_law_caught)
  F_law_caught : Fun K "_law_caught" "_law_caught" s_law_caught a_law_caught fd_law_caught
  d_law_caught : Binds K fd_law_caught ["which", "given", "named"] []
  a_law_right : Addr
  fd_law_right : FuncData
  m_law_right : mg "_law_right" = some (.ref a_law_right)
  F_law_right : Fun K "_law_right" "_law_right" s_law_right a_law_right fd_law_right
  d_law_right : Binds K fd_law_right ["caught", "which", "given"] []
  a_law : Addr
  fd_law : FuncData
  m_law : mg "law" = some (.ref a_law)
  F_law : Fun K "law" "law" s_law a_law fd_law
  d_law : Binds K fd_law ["script"] []
  b_ValueError : mg "ValueError" = none
  b_all : mg "all" = none
  b_bool : mg "bool" = none
  b_int : mg "int" = none
  b_isinstance : mg "isinstance" = none
  b_len : mg "len" = none
  b_list : mg "list" = none
  b_max : mg "max" = none
  b_min : mg "min" = none
  b_range : mg "range" = none
  b_str : mg "str" = none
  b_tuple : mg "tuple" = none
  C_InvalidDice : Addr
  m_InvalidDice : mg "InvalidDice" = some (.ref C_InvalidDice)
  C_InvalidFigures : Addr
  m_InvalidFigures : mg "InvalidFigures" = some (.ref C_InvalidFigures)
  C_InvalidGame : Addr
  m_InvalidGame : mg "InvalidGame" = some (.ref C_InvalidGame)
  C_InvalidLeaves : Addr
  m_InvalidLeaves : mg "InvalidLeaves" = some (.ref C_InvalidLeaves)
  C_InvalidLot : Addr
  m_InvalidLot : mg "InvalidLot" = some (.ref C_InvalidLot)
  C_InvalidMachine : Addr
  m_InvalidMachine : mg "InvalidMachine" = some (.ref C_InvalidMachine)
  C_InvalidName : Addr
  m_InvalidName : mg "InvalidName" = some (.ref C_InvalidName)
  C_InvalidNumber : Addr
  m_InvalidNumber : mg "InvalidNumber" = some (.ref C_InvalidNumber)
  C_InvalidPair : Addr
  m_InvalidPair : mg "InvalidPair" = some (.ref C_InvalidPair)
  C_InvalidPays : Addr
  m_InvalidPays : mg "InvalidPays" = some (.ref C_InvalidPays)
  C_InvalidPrizes : Addr
  m_InvalidPrizes : mg "InvalidPrizes" = some (.ref C_InvalidPrizes)
  C_InvalidReader : Addr
  m_InvalidReader : mg "InvalidReader" = some (.ref C_InvalidReader)
  C_InvalidRow : Addr
  m_InvalidRow : mg "InvalidRow" = some (.ref C_InvalidRow)
  C_InvalidRule : Addr
  m_InvalidRule : mg "InvalidRule" = some (.ref C_InvalidRule)
  C_InvalidShares : Addr
  m_InvalidShares : mg "InvalidShares" = some (.ref C_InvalidShares)
  C_InvalidSource : Addr
  m_InvalidSource : mg "InvalidSource" = some (.ref C_InvalidSource)
  C_InvalidTable : Addr
  m_InvalidTable : mg "InvalidTable" = some (.ref C_InvalidTable)
  C_InvalidThing : Addr
  m_InvalidThing : mg "InvalidThing" = some (.ref C_InvalidThing)
  C_InvalidWord : Addr
  m_InvalidWord : mg "InvalidWord" = some (.ref C_InvalidWord)
  C_NeverEnds : Addr
  m_NeverEnds : mg "NeverEnds" = some (.ref C_NeverEnds)
  C_NoTable : Addr
  m_NoTable : mg "NoTable" = some (.ref C_NoTable)
  C_NotDrawn : Addr
  m_NotDrawn : mg "NotDrawn" = some (.ref C_NotDrawn)
  C_NotEnding : Addr
  m_NotEnding : mg "NotEnding" = some (.ref C_NotEnding)
  C_NotSolo : Addr
  m_NotSolo : mg "NotSolo" = some (.ref C_NotSolo)
  C_NothingToUndo : Addr
  m_NothingToUndo : mg "NothingToUndo" = some (.ref C_NothingToUndo)
  C_TossError : Addr
  m_TossError : mg "TossError" = some (.ref C_TossError)
  C_UnknownName : Addr
  m_UnknownName : mg "UnknownName" = some (.ref C_UnknownName)
  C_Unorderly : Addr
  m_Unorderly : mg "Unorderly" = some (.ref C_Unorderly)
  C_Unreadable : Addr
  m_Unreadable : mg "Unreadable" = some (.ref C_Unreadable)
  o_InvalidDice : ClsO K C_InvalidDice (.ref C_TossError :: veT)
  o_InvalidFigures : ClsO K C_InvalidFigures (.ref C_TossError :: veT)
  o_InvalidGame : ClsO K C_InvalidGame (.ref C_TossError :: veT)
  o_InvalidLeaves : ClsO K C_InvalidLeaves (.ref C_TossError :: veT)
  o_InvalidLot : ClsO K C_InvalidLot (.ref C_TossError :: veT)
  o_InvalidMachine : ClsO K C_InvalidMachine (.ref C_TossError :: veT)
  o_InvalidName : ClsO K C_InvalidName (.ref C_TossError :: veT)
  o_InvalidNumber : ClsO K C_InvalidNumber (.ref C_TossError :: veT)
  o_InvalidPair : ClsO K C_InvalidPair (.ref C_TossError :: veT)
  o_InvalidPays : ClsO K C_InvalidPays (.ref C_TossError :: veT)
  o_InvalidPrizes : ClsO K C_InvalidPrizes (.ref C_TossError :: veT)
  o_InvalidReader : ClsO K C_InvalidReader (.ref C_TossError :: veT)
  o_InvalidRow : ClsO K C_InvalidRow (.ref C_TossError :: veT)
  o_InvalidRule : ClsO K C_InvalidRule (.ref C_TossError :: veT)
  o_InvalidShares : ClsO K C_InvalidShares (.ref C_TossError :: veT)
  o_InvalidSource : ClsO K C_InvalidSource (.ref C_TossError :: veT)
  o_InvalidTable : ClsO K C_InvalidTable (.ref C_TossError :: veT)
  o_InvalidThing : ClsO K C_InvalidThing (.ref C_TossError :: veT)
  o_InvalidWord : ClsO K C_InvalidWord (.ref C_TossError :: veT)
  o_NeverEnds : ClsO K C_NeverEnds (.ref C_TossError :: veT)
  o_NoTable : ClsO K C_NoTable (.ref C_TossError :: veT)
  o_NotDrawn : ClsO K C_NotDrawn (.ref C_TossError :: veT)
  o_NotEnding : ClsO K C_NotEnding (.ref C_TossError :: veT)
  o_NotSolo : ClsO K C_NotSolo (.ref C_TossError :: veT)
  o_NothingToUndo : ClsO K C_NothingToUndo (.ref C_TossError :: veT)
  o_TossError : ClsO K C_TossError veT
  o_UnknownName : ClsO K C_UnknownName (.ref C_TossError :: veT)
  o_Unorderly : ClsO K C_Unorderly (.ref C_TossError :: veT)
  o_Unreadable : ClsO K C_Unreadable (.ref C_TossError :: veT)
  nd : [C_InvalidDice, C_InvalidFigures, C_InvalidGame, C_InvalidLeaves, C_InvalidLot, C_InvalidMachine, C_InvalidName, C_InvalidNumber, C_InvalidPair, C_InvalidPays, C_InvalidPrizes, C_InvalidReader, C_InvalidRow, C_InvalidRule, C_InvalidShares, C_InvalidSource, C_InvalidTable, C_InvalidThing, C_InvalidWord, C_NeverEnds, C_NoTable, C_NotDrawn, C_NotEnding, C_NotSolo, C_NothingToUndo, C_TossError, C_UnknownName, C_Unorderly, C_Unreadable].Nodup
  a_init : Addr
  fd_init : FuncData
  F_init : Fun K "__init__" "TossError.__init__" s_init a_init fd_init
  d_init : Binds K fd_init ["self", "value"] []
  t_init : PySem.W.typeIn K (.ref a_init) = some (.type "function")
  x_InvalidGame : ClsX K C_InvalidGame a_init
  x_InvalidLot : ClsX K C_InvalidLot a_init
  x_InvalidPays : ClsX K C_InvalidPays a_init
  x_InvalidPrizes : ClsX K C_InvalidPrizes a_init
  x_InvalidRule : ClsX K C_InvalidRule a_init
  x_InvalidSource : ClsX K C_InvalidSource a_init
  x_InvalidWord : ClsX K C_InvalidWord a_init
  x_NotEnding : ClsX K C_NotEnding a_init
  x_NotSolo : ClsX K C_NotSolo a_init
theorem ok_init {P : Program} {w : World} {K : PySem.W.Frag} {mg : Str → Option Value} {base : Heap} (T : Txt K mg) : FnOk P w K mg base (L2.CX P w) 1 T.a_init T.fd_init ["self", "value"] (spI K) := by
  refine T.F_init.okX sc_init (fun vs H Q E h => ?_) (fun cdv A outer s H vs Q E hr h => ⟨_, pss_cons (ps_expr (pe_veinit rfl T.b_ValueError init_ve (pa_cons (pe_var (i := 0) rfl (.inl rfl) (by decide) (by decide)) (pa_cons (pe_var (i := 1) rfl (.inl rfl) (by decide) (by decide)) pa_nil)))) (pss_one (ps_ost (pe_var (i := 0) rfl (.inl rfl) (by decide) (by decide)) (pe_var (i := 1) rfl (.inl rfl) (by decide) (by decide)))), ?_⟩)
  · obtain ⟨_, _, _, rfl, _⟩ := h
    rfl
  · obtain ⟨a, C, v, rfl, O, nv, e, q⟩ := h
    exact ⟨_, rfl, _, rfl, a, C, [v], rfl, by show 1 ≤ 1000; decide, O, e, _, rfl, _, rfl, a, C, rfl, O, nv, .inl ⟨e, q⟩⟩
theorem kb_init {K : PySem.W.Frag} {mg : Str → Option Value} (T : Txt K mg) : KBD K T.fd_init ["self", "value"] ["value"] (gk 1 1 [0, 1]) (gk 1 1 [0, 1]) := KBD.of 1 1 [0, 1] T.F_init (by decide) fun _ _ _ _ _ _ us ws h1 h2 => match us, ws, h1, h2 with | [_], [_], _, _ => rfl
end K57
set_option Elab.async false
set_option linter.all false
set_option maxRecDepth 100000
set_option maxHeartbeats 4000000
namespace K57
open PySem PySem.Spec PyProof.Rows L2 DL
local macro_rules | `(tactic| walk_at "w") => `(tactic| conv => whnf)
local macro_rules | `(tactic| walk_at "g") => `(tactic| ((conv => whnf); repeat' (first | (refine IFB.t ?_ ?_; rfl; conv => whnf) | (refine IFB.f ?_ ?_; rfl; conv => whnf))))

def PotD (S : Sto) (a : Addr) : Prop := ∃ (p0 p1 : Int) (p2 : Nat) (xs : List Int), S a = some (.lst (.int p0 :: .int p1 :: .int (p2 : Int) :: xs.map D.int)) ∧ 0 ≤ p0 ∧ 0 ≤ p1 ∧ p1 < 2147483647 ∧ 3 ≤ p2 ∧ p2 ≤ 3 + xs.length ∧ xs.length ≤ 63
def ExB (a : Addr) (S S' : Sto) : Prop := ∀ b, b ≠ a → ∀ c, S b = some c → S' b = some c
theorem ExB.refl (a : Addr) (S : Sto) : ExB a S S := fun _ _ _ h => h
theorem ExB.trans {a : Addr} {S S1 S2 : Sto} (x : ExB a S S1) (y : ExB a S1 S2) : ExB a S S2 := fun b h c e => y b h c (x b h c e)
theorem ExB.of {a : Addr} {S S' : Sto} (h : ∀ b, b ≠ a → S' b = S b) : ExB a S S' := fun b hb c e => by rw [h b hb]; exact e
theorem ExB.ext {a : Addr} {S S' : Sto} (x : Ext S S') : ExB a S S' := fun b _ c e => x b c e
theorem PotD.ext {S S' : Sto} {a : Addr} (h : PotD S a) (x : Ext S S') : PotD S' a := by
  obtain ⟨p0, p1, p2, xs, e, r⟩ := h
  exact ⟨p0, p1, p2, xs, x _ _ e, r⟩
theorem PotD.ne {S : Sto} {a p : Addr} (h : PotD S a) (hp : S p = none) : p ≠ a := fun z => by
  obtain ⟨p0, p1, p2, xs, e, r⟩ := h
  rw [z, e] at hp
  cases hp
theorem ixN_lt {n j : Nat} (h : j < n) : ixN n (j : Int) = some j := by
  unfold ixN
  first
  | (rw [if_pos (by omega)]; simp; try omega)
  | (simp; try omega)
def sp_law_take : DSp := fun ds S Q _ => ∃ (a : Addr) (u : Int), ds = [.ref a, .int u] ∧ PotD S a ∧ 0 < u ∧ u < 2 ^ 64 ∧ ∀ (f : Int) S', 0 ≤ f → f < u → PotD S' a → (∀ b, b ≠ a → S' b = S b) → Q (.int f) S'
theorem ok_law_take {P : Program} {w : World} {K : PySem.W.Frag} {mg : Str → Option Value} {base : Heap} (T : Txt K mg) : FnOk P w K mg base (L2.CX P w) 1 T.a_law_take T.fd_law_take ["pot", "many"] (toSp K sp_law_take) := by
  refine fnD T.F_law_take sc_law_take (fun ds S Q E h => ?_) (fun cdv A outer s H E RX hr => ⟨_, (pds_cons (pd_ifS (PDW.pt (pdw_and (pdt_cmp (od_eq hr.units) (pd_ix (pd_var 0) pd_int) pd_int) (pdw_and1 (pdt_cmp od_lt (pd_ix (pd_var 0) pd_int) (pd_blt cd_len T.b_len (by decide +kernel) (pda_cons (pd_var 0) pda_nil)))))) (pds_cons (pd_set 2 sc_law_take.nd (pd_ix (pd_var 0) (pd_ix (pd_var 0) pd_int)))
    (pds_cons (pd_augS ip_add (pd_var 0) pd_int pd_int)
    (pds_one (pd_ifS (pdt_cmp od_ge (pd_var 2) (pd_bin od_pow pd_int pd_int)) (pds_one (pd_asg (pd_bin od_sub (pd_var 2) (pd_bin od_pow pd_int pd_int)) (pdg_sub sd_list (pd_var 0) pd_int))) (pds_cons (pd_set 3 sc_law_take.nd (pd_bin od_mod (pd_bltTy cd_int T.b_int (by decide +kernel) (pda_cons (pd_var 2) pda_nil)) pd_int))
    (pds_cons (pd_set 3 sc_law_take.nd (pd_bin od_mod (pd_bltTy cd_int T.b_int (by decide +kernel) (pda_cons (pd_bin od_add (pd_bin od_add (pd_bin od_mul (pd_var 3) (pd_var 3)) (pd_bin od_mul pd_int (pd_var 3))) (pd_bin od_mul pd_int (pd_ix (pd_var 0) pd_int))) pda_nil)) pd_int))
    (pds_one (pd_asg (pd_bin od_mod (pd_bltTy cd_int T.b_int (by decide +kernel) (pda_cons (pd_bin od_add (pd_ix (pd_var 0) pd_int) (pd_var 3)) pda_nil)) pd_int) (pdg_sub sd_list (pd_var 0) pd_int))))))))) pds_nil)
    (pds_cons (pd_ifS (pdt_cmp od_gt (pd_ix (pd_var 0) pd_int) pd_int) (pds_cons (pd_set 4 sc_law_take.nd (pd_bin od_mod (pd_bltTy cd_int T.b_int (by decide +kernel) (pda_cons (pd_ix (pd_var 0) pd_int) pda_nil)) (pd_var 1)))
    (pds_cons (pd_asg (pd_bin od_fdiv (pd_ix (pd_var 0) pd_int) (pd_var 1)) (pdg_sub sd_list (pd_var 0) pd_int))
    (pds_one (pd_ret (pd_var 4))))) pds_nil)
    (pds_cons (pd_asg (pd_bin od_mod (pd_bltTy cd_int T.b_int (by decide +kernel) (pda_cons (pd_bin od_add (pd_bin od_add (pd_bin od_mul (pd_ix (pd_var 0) pd_int) pd_int) (pd_bin od_mul pd_int (pd_ix (pd_var 0) pd_int))) pd_int) pda_nil)) pd_int) (pdg_sub sd_list (pd_var 0) pd_int))
    (pds_cons (pd_asg (pd_bin od_mod (pd_bltTy cd_int T.b_int (by decide +kernel) (pda_cons (pd_bin od_add (pd_bin od_mul (pd_ix (pd_var 0) pd_int) (pd_ix (pd_var 0) pd_int)) pd_int) pda_nil)) pd_int) (pdg_sub sd_list (pd_var 0) pd_int))
    (pds_one (pd_ret (pd_bin od_mod (pd_bltTy cd_int T.b_int (by decide +kernel) (pda_cons (pd_bin od_fdiv (pd_ix (pd_var 0) pd_int) pd_int) pda_nil)) (pd_var 1)))))))), fun ds S Q h => ?_⟩)
  · obtain ⟨_, _, rfl, _⟩ := h
    rfl
  · obtain ⟨a, u, rfl, ⟨p0, p1, p2, xs, e, h0, h1, h2, h3, h4, h5⟩, u0, u1, h⟩ := h
    walk_at "w"
    refine ⟨_, _, .inl ⟨a, rfl, e⟩, atI_nat (j := 0) rfl, ?_⟩
    walk_at "w"
    refine IFB.p (fun c1 => ?_) (fun c1 => ?_)
    · walk_at "w"
      refine ⟨_, _, .inl ⟨a, rfl, e⟩, atI_nat (j := 2) rfl, ?_⟩
      walk_at "w"
      refine ⟨_, .inl ⟨a, rfl, e⟩, ?_⟩
      walk_at "w"
      refine IFB.p (fun c2 => ?_) (fun c2 => ?_)
      · have c3 : p2 < 3 + xs.length := by simp at c2; omega
        obtain ⟨cell, hcell⟩ : ∃ cell : Int, (D.int p0 :: D.int p1 :: D.int (p2 : Int) :: xs.map D.int)[p2]? = some (.int cell) := by
          obtain ⟨k, rfl⟩ : ∃ k, p2 = k + 3 := ⟨p2 - 3, by omega⟩
          have hk : k < xs.length := by omega
          exact ⟨xs[k], by simp [hk]⟩
        walk_at "w"
        refine ⟨_, _, .inl ⟨a, rfl, e⟩, atI_nat (j := 2) rfl, ?_⟩
        walk_at "w"
        refine ⟨_, _, .inl ⟨a, rfl, e⟩, atI_nat hcell, ?_⟩
        walk_at "w"
        refine ⟨_, _, by decide, e, atI_nat (j := 2) rfl, ?_⟩
        walk_at "w"
        refine ⟨_, 2, e, ixN_lt (by simp), ?_⟩
        have e1 : DL.sup S a (.lst (List.set (.int p0 :: .int p1 :: .int (p2 : Int) :: xs.map D.int) 2 (.int ((p2 : Int) + 1)))) a = some (.lst (.int p0 :: .int p1 :: .int ((p2 + 1 : Nat) : Int) :: xs.map D.int)) := sup_same
        have fr1 : ∀ b, b ≠ a → DL.sup S a (.lst (List.set (.int p0 :: .int p1 :: .int (p2 : Int) :: xs.map D.int) 2 (.int ((p2 : Int) + 1)))) b = S b := fun b hb => sup_ne hb
        generalize DL.sup S a _ = S1 at *
        walk_at "w"
        refine ⟨by decide, ?_⟩
        walk_at "w"
        refine IFB.p (fun c4 => ?_) (fun c4 => ?_)
        · walk_at "w"
          refine ⟨by decide, ?_⟩
          walk_at "w"
          refine ⟨_, 0, e1, ixN_lt (by simp), ?_⟩
          have e3 : DL.sup S1 a (.lst (List.set (.int p0 :: .int p1 :: .int ((p2 + 1 : Nat) : Int) :: xs.map D.int) 0 (.int (cell - 10 ^ (18 : Int).toNat)))) a = some (.lst (.int (cell - 10 ^ (18 : Int).toNat) :: .int p1 :: .int ((p2 + 1 : Nat) : Int) :: xs.map D.int)) := sup_same
          have fr2 : ∀ b, b ≠ a → DL.sup S1 a (.lst (List.set (.int p0 :: .int p1 :: .int ((p2 + 1 : Nat) : Int) :: xs.map D.int) 0 (.int (cell - 10 ^ (18 : Int).toNat)))) b = S b := fun b hb => by rw [sup_ne hb]; exact fr1 b hb
          generalize DL.sup S1 a _ = S0 at *
          clear e e1 fr1
          have h0 : 0 ≤ cell - 10 ^ (18 : Int).toNat := Int.sub_nonneg.mpr c4
          generalize cell - 10 ^ (18 : Int).toNat = p0 at *
          have h3 : 3 ≤ p2 + 1 := by omega
          have h4 : p2 + 1 ≤ 3 + xs.length := by omega
          generalize p2 + 1 = p2 at *
          have e := e3
          have fr := fr2
          walk_at "w"
          refine ⟨_, _, .inl ⟨a, rfl, e⟩, atI_nat (j := 0) rfl, ?_⟩
          walk_at "w"
          refine IFB.p (fun c => ?_) (fun c => ?_)
          · walk_at "w"
            refine ⟨_, _, .inl ⟨a, rfl, e⟩, atI_nat (j := 0) rfl, ?_⟩
            walk_at "w"
            refine ⟨u0, ?_⟩
            walk_at "w"
            refine ⟨_, _, .inl ⟨a, rfl, e⟩, atI_nat (j := 0) rfl, ?_⟩
            walk_at "w"
            refine ⟨div_s u0 (by omega), ?_⟩
            walk_at "w"
            refine ⟨_, 0, e, ixN_lt (by simp), ?_⟩
            walk_at "w"
            exact h _ _ (Int.emod_nonneg _ (by omega)) (Int.emod_lt_of_pos _ u0) ⟨p0 / u, p1, p2, xs, by rw [sup_same]; rfl, Int.ediv_nonneg h0 (by omega), h1, h2, h3, h4, h5⟩ (fun b hb => by rw [sup_ne hb]; exact fr b hb)
          · walk_at "w"
            refine ⟨_, _, .inl ⟨a, rfl, e⟩, atI_nat (j := 1) rfl, ?_⟩
            walk_at "w"
            refine ⟨small_r (by decide) (by decide), ?_⟩
            walk_at "w"
            refine ⟨_, _, .inl ⟨a, rfl, e⟩, atI_nat (j := 2) rfl, ?_⟩
            walk_at "w"
            refine ⟨small_l (by decide) (by decide), ?_⟩
            walk_at "w"
            refine ⟨by decide, ?_⟩
            walk_at "w"
            refine ⟨_, 1, e, ixN_lt (by simp), ?_⟩
            generalize hq1 : (p1 * _ + _ * (p2 : Int) + _) % _ = q1
            have q10 : 0 ≤ q1 := by rw [← hq1]; exact Int.emod_nonneg _ (by decide)
            have q11 : q1 < 2147483647 := by rw [← hq1]; exact Int.emod_lt_of_pos _ (by decide)
            have e2 : DL.sup S0 a (.lst (List.set (.int p0 :: .int p1 :: .int (p2 : Int) :: xs.map D.int) 1 (.int q1))) a = some (.lst (.int p0 :: .int q1 :: .int (p2 : Int) :: xs.map D.int)) := sup_same
            walk_at "w"
            refine ⟨_, _, .inl ⟨a, rfl, e2⟩, atI_nat (j := 1) rfl, ?_⟩
            walk_at "w"
            refine ⟨_, _, .inl ⟨a, rfl, e2⟩, atI_nat (j := 1) rfl, ?_⟩
            walk_at "w"
            refine ⟨small_l (by omega) (by omega), ?_⟩
            walk_at "w"
            refine ⟨by decide, ?_⟩
            walk_at "w"
            refine ⟨_, 1, e2, ixN_lt (by simp), ?_⟩
            generalize hq2 : (q1 * q1 + _) % _ = q2
            have q20 : 0 ≤ q2 := by rw [← hq2]; exact Int.emod_nonneg _ (by decide)
            have q21 : q2 < 2147483629 := by rw [← hq2]; exact Int.emod_lt_of_pos _ (by decide)
            walk_at "w"
            refine ⟨_, _, .inl ⟨a, rfl, sup_same⟩, atI_nat (j := 1) rfl, ?_⟩
            walk_at "w"
            refine ⟨div_s (by decide) (by decide), ?_⟩
            walk_at "w"
            refine ⟨u0, ?_⟩
            walk_at "w"
            exact h _ _ (Int.emod_nonneg _ (by omega)) (Int.emod_lt_of_pos _ u0) ⟨p0, q2, p2, xs, by rw [sup_same]; rfl, h0, q20, by omega, h3, h4, h5⟩ (fun b hb => by rw [sup_ne hb, sup_ne hb]; exact fr b hb)
        · walk_at "w"
          refine ⟨by decide, ?_⟩
          walk_at "w"
          generalize hm : cell % _ = mx
          have m0 : 0 ≤ mx := by rw [← hm]; exact Int.emod_nonneg _ (by decide)
          have m1 : mx < 2147483647 := by rw [← hm]; exact Int.emod_lt_of_pos _ (by decide)
          refine ⟨small_l (by omega) (by omega), ?_⟩
          walk_at "w"
          refine ⟨small_l (by decide) (by decide), ?_⟩
          walk_at "w"
          refine ⟨_, _, .inl ⟨a, rfl, e1⟩, atI_nat (j := 2) rfl, ?_⟩
          walk_at "w"
          refine ⟨small_l (by decide) (by decide), ?_⟩
          walk_at "w"
          refine ⟨by decide, ?_⟩
          walk_at "w"
          refine ⟨_, _, .inl ⟨a, rfl, e1⟩, atI_nat (j := 1) rfl, ?_⟩
          walk_at "w"
          refine ⟨by decide, ?_⟩
          walk_at "w"
          refine ⟨_, 1, e1, ixN_lt (by simp), ?_⟩
          generalize hr : (p1 + _) % _ = r1
          have r0 : 0 ≤ r1 := by rw [← hr]; exact Int.emod_nonneg _ (by decide)
          have r2 : r1 < 2147483647 := by rw [← hr]; exact Int.lt_of_lt_of_le (Int.emod_lt_of_pos _ (by decide)) (by decide)
          have e3 : DL.sup S1 a (.lst (List.set (.int p0 :: .int p1 :: .int ((p2 + 1 : Nat) : Int) :: xs.map D.int) 1 (.int r1))) a = some (.lst (.int p0 :: .int r1 :: .int ((p2 + 1 : Nat) : Int) :: xs.map D.int)) := sup_same
          have fr2 : ∀ b, b ≠ a → DL.sup S1 a (.lst (List.set (.int p0 :: .int p1 :: .int ((p2 + 1 : Nat) : Int) :: xs.map D.int) 1 (.int r1))) b = S b := fun b hb => by rw [sup_ne hb]; exact fr1 b hb
          generalize DL.sup S1 a _ = S0 at *
          clear e e1 fr1 hr
          generalize r1 = p1 at *
          have h1 := r0
          have h2 := r2
          have h3 : 3 ≤ p2 + 1 := by omega
          have h4 : p2 + 1 ≤ 3 + xs.length := by omega
          generalize p2 + 1 = p2 at *
          have e := e3
          have fr := fr2
          walk_at "w"
          refine ⟨_, _, .inl ⟨a, rfl, e⟩, atI_nat (j := 0) rfl, ?_⟩
          walk_at "w"
          refine IFB.p (fun c => ?_) (fun c => ?_)
          · walk_at "w"
            refine ⟨_, _, .inl ⟨a, rfl, e⟩, atI_nat (j := 0) rfl, ?_⟩
            walk_at "w"
            refine ⟨u0, ?_⟩
            walk_at "w"
            refine ⟨_, _, .inl ⟨a, rfl, e⟩, atI_nat (j := 0) rfl, ?_⟩
            walk_at "w"
            refine ⟨div_s u0 (by omega), ?_⟩
            walk_at "w"
            refine ⟨_, 0, e, ixN_lt (by simp), ?_⟩
            walk_at "w"
            exact h _ _ (Int.emod_nonneg _ (by omega)) (Int.emod_lt_of_pos _ u0) ⟨p0 / u, p1, p2, xs, by rw [sup_same]; rfl, Int.ediv_nonneg h0 (by omega), h1, h2, h3, h4, h5⟩ (fun b hb => by rw [sup_ne hb]; exact fr b hb)
          · walk_at "w"
            refine ⟨_, _, .inl ⟨a, rfl, e⟩, atI_nat (j := 1) rfl, ?_⟩
            walk_at "w"
            refine ⟨small_r (by decide) (by decide), ?_⟩
            walk_at "w"
            refine ⟨_, _, .inl ⟨a, rfl, e⟩, atI_nat (j := 2) rfl, ?_⟩
            walk_at "w"
            refine ⟨small_l (by decide) (by decide), ?_⟩
            walk_at "w"
            refine ⟨by decide, ?_⟩
            walk_at "w"
            refine ⟨_, 1, e, ixN_lt (by simp), ?_⟩
            generalize hq1 : (p1 * _ + _ * (p2 : Int) + _) % _ = q1
            have q10 : 0 ≤ q1 := by rw [← hq1]; exact Int.emod_nonneg _ (by decide)
            have q11 : q1 < 2147483647 := by rw [← hq1]; exact Int.emod_lt_of_pos _ (by decide)
            have e2 : DL.sup S0 a (.lst (List.set (.int p0 :: .int p1 :: .int (p2 : Int) :: xs.map D.int) 1 (.int q1))) a = some (.lst (.int p0 :: .int q1 :: .int (p2 : Int) :: xs.map D.int)) := sup_same
            walk_at "w"
            refine ⟨_, _, .inl ⟨a, rfl, e2⟩, atI_nat (j := 1) rfl, ?_⟩
            walk_at "w"
            refine ⟨_, _, .inl ⟨a, rfl, e2⟩, atI_nat (j := 1) rfl, ?_⟩
            walk_at "w"
            refine ⟨small_l (by omega) (by omega), ?_⟩
            walk_at "w"
            refine ⟨by decide, ?_⟩
            walk_at "w"
            refine ⟨_, 1, e2, ixN_lt (by simp), ?_⟩
            generalize hq2 : (q1 * q1 + _) % _ = q2
            have q20 : 0 ≤ q2 := by rw [← hq2]; exact Int.emod_nonneg _ (by decide)
            have q21 : q2 < 2147483629 := by rw [← hq2]; exact Int.emod_lt_of_pos _ (by decide)
            walk_at "w"
            refine ⟨_, _, .inl ⟨a, rfl, sup_same⟩, atI_nat (j := 1) rfl, ?_⟩
            walk_at "w"
            refine ⟨div_s (by decide) (by decide), ?_⟩
            walk_at "w"
            refine ⟨u0, ?_⟩
            walk_at "w"
            exact h _ _ (Int.emod_nonneg _ (by omega)) (Int.emod_lt_of_pos _ u0) ⟨p0, q2, p2, xs, by rw [sup_same]; rfl, h0, q20, by omega, h3, h4, h5⟩ (fun b hb => by rw [sup_ne hb, sup_ne hb]; exact fr b hb)
      · obtain ⟨S0, hS⟩ : ∃ S0, S0 = S := ⟨_, rfl⟩
        have fr : ∀ b, b ≠ a → S0 b = S b := fun b _ => by rw [hS]
        rw [← hS] at e ⊢
        walk_at "w"
        refine ⟨_, _, .inl ⟨a, rfl, e⟩, atI_nat (j := 0) rfl, ?_⟩
        walk_at "w"
        refine IFB.p (fun c => ?_) (fun c => ?_)
        · walk_at "w"
          refine ⟨_, _, .inl ⟨a, rfl, e⟩, atI_nat (j := 0) rfl, ?_⟩
          walk_at "w"
          refine ⟨u0, ?_⟩
          walk_at "w"
          refine ⟨_, _, .inl ⟨a, rfl, e⟩, atI_nat (j := 0) rfl, ?_⟩
          walk_at "w"
          refine ⟨div_s u0 (by omega), ?_⟩
          walk_at "w"
          refine ⟨_, 0, e, ixN_lt (by simp), ?_⟩
          walk_at "w"
          exact h _ _ (Int.emod_nonneg _ (by omega)) (Int.emod_lt_of_pos _ u0) ⟨p0 / u, p1, p2, xs, by rw [sup_same]; rfl, Int.ediv_nonneg h0 (by omega), h1, h2, h3, h4, h5⟩ (fun b hb => by rw [sup_ne hb]; exact fr b hb)
        · walk_at "w"
          refine ⟨_, _, .inl ⟨a, rfl, e⟩, atI_nat (j := 1) rfl, ?_⟩
          walk_at "w"
          refine ⟨small_r (by decide) (by decide), ?_⟩
          walk_at "w"
          refine ⟨_, _, .inl ⟨a, rfl, e⟩, atI_nat (j := 2) rfl, ?_⟩
          walk_at "w"
          refine ⟨small_l (by decide) (by decide), ?_⟩
          walk_at "w"
          refine ⟨by decide, ?_⟩
          walk_at "w"
          refine ⟨_, 1, e, ixN_lt (by simp), ?_⟩
          generalize hq1 : (p1 * _ + _ * (p2 : Int) + _) % _ = q1
          have q10 : 0 ≤ q1 := by rw [← hq1]; exact Int.emod_nonneg _ (by decide)
          have q11 : q1 < 2147483647 := by rw [← hq1]; exact Int.emod_lt_of_pos _ (by decide)
          have e2 : DL.sup S0 a (.lst (List.set (.int p0 :: .int p1 :: .int (p2 : Int) :: xs.map D.int) 1 (.int q1))) a = some (.lst (.int p0 :: .int q1 :: .int (p2 : Int) :: xs.map D.int)) := sup_same
          walk_at "w"
          refine ⟨_, _, .inl ⟨a, rfl, e2⟩, atI_nat (j := 1) rfl, ?_⟩
          walk_at "w"
          refine ⟨_, _, .inl ⟨a, rfl, e2⟩, atI_nat (j := 1) rfl, ?_⟩
          walk_at "w"
          refine ⟨small_l (by omega) (by omega), ?_⟩
          walk_at "w"
          refine ⟨by decide, ?_⟩
          walk_at "w"
          refine ⟨_, 1, e2, ixN_lt (by simp), ?_⟩
          generalize hq2 : (q1 * q1 + _) % _ = q2
          have q20 : 0 ≤ q2 := by rw [← hq2]; exact Int.emod_nonneg _ (by decide)
          have q21 : q2 < 2147483629 := by rw [← hq2]; exact Int.emod_lt_of_pos _ (by decide)
          walk_at "w"
          refine ⟨_, _, .inl ⟨a, rfl, sup_same⟩, atI_nat (j := 1) rfl, ?_⟩
          walk_at "w"
          refine ⟨div_s (by decide) (by decide), ?_⟩
          walk_at "w"
          refine ⟨u0, ?_⟩
          walk_at "w"
          exact h _ _ (Int.emod_nonneg _ (by omega)) (Int.emod_lt_of_pos _ u0) ⟨p0, q2, p2, xs, by rw [sup_same]; rfl, h0, q20, by omega, h3, h4, h5⟩ (fun b hb => by rw [sup_ne hb, sup_ne hb]; exact fr b hb)
    · walk_at "w"
      obtain ⟨S0, hS⟩ : ∃ S0, S0 = S := ⟨_, rfl⟩
      have fr : ∀ b, b ≠ a → S0 b = S b := fun b _ => by rw [hS]
      rw [← hS] at e ⊢
      refine IFB.f rfl ?_
      walk_at "w"
      refine ⟨_, _, .inl ⟨a, rfl, e⟩, atI_nat (j := 0) rfl, ?_⟩
      walk_at "w"
      refine IFB.p (fun c => ?_) (fun c => ?_)
      · walk_at "w"
        refine ⟨_, _, .inl ⟨a, rfl, e⟩, atI_nat (j := 0) rfl, ?_⟩
        walk_at "w"
        refine ⟨u0, ?_⟩
        walk_at "w"
        refine ⟨_, _, .inl ⟨a, rfl, e⟩, atI_nat (j := 0) rfl, ?_⟩
        walk_at "w"
        refine ⟨div_s u0 (by omega), ?_⟩
        walk_at "w"
        refine ⟨_, 0, e, ixN_lt (by simp), ?_⟩
        walk_at "w"
        exact h _ _ (Int.emod_nonneg _ (by omega)) (Int.emod_lt_of_pos _ u0) ⟨p0 / u, p1, p2, xs, by rw [sup_same]; rfl, Int.ediv_nonneg h0 (by omega), h1, h2, h3, h4, h5⟩ (fun b hb => by rw [sup_ne hb]; exact fr b hb)
      · walk_at "w"
        refine ⟨_, _, .inl ⟨a, rfl, e⟩, atI_nat (j := 1) rfl, ?_⟩
        walk_at "w"
        refine ⟨small_r (by decide) (by decide), ?_⟩
        walk_at "w"
        refine ⟨_, _, .inl ⟨a, rfl, e⟩, atI_nat (j := 2) rfl, ?_⟩
        walk_at "w"
        refine ⟨small_l (by decide) (by decide), ?_⟩
        walk_at "w"
        refine ⟨by decide, ?_⟩
        walk_at "w"
        refine ⟨_, 1, e, ixN_lt (by simp), ?_⟩
        generalize hq1 : (p1 * _ + _ * (p2 : Int) + _) % _ = q1
        have q10 : 0 ≤ q1 := by rw [← hq1]; exact Int.emod_nonneg _ (by decide)
        have q11 : q1 < 2147483647 := by rw [← hq1]; exact Int.emod_lt_of_pos _ (by decide)
        have e2 : DL.sup S0 a (.lst (List.set (.int p0 :: .int p1 :: .int (p2 : Int) :: xs.map D.int) 1 (.int q1))) a = some (.lst (.int p0 :: .int q1 :: .int (p2 : Int) :: xs.map D.int)) := sup_same
        walk_at "w"
        refine ⟨_, _, .inl ⟨a, rfl, e2⟩, atI_nat (j := 1) rfl, ?_⟩
        walk_at "w"
        refine ⟨_, _, .inl ⟨a, rfl, e2⟩, atI_nat (j := 1) rfl, ?_⟩
        walk_at "w"
        refine ⟨small_l (by omega) (by omega), ?_⟩
        walk_at "w"
        refine ⟨by decide, ?_⟩
        walk_at "w"
        refine ⟨_, 1, e2, ixN_lt (by simp), ?_⟩
        generalize hq2 : (q1 * q1 + _) % _ = q2
        have q20 : 0 ≤ q2 := by rw [← hq2]; exact Int.emod_nonneg _ (by decide)
        have q21 : q2 < 2147483629 := by rw [← hq2]; exact Int.emod_lt_of_pos _ (by decide)
        walk_at "w"
        refine ⟨_, _, .inl ⟨a, rfl, sup_same⟩, atI_nat (j := 1) rfl, ?_⟩
        walk_at "w"
        refine ⟨div_s (by decide) (by decide), ?_⟩
        walk_at "w"
        refine ⟨u0, ?_⟩
        walk_at "w"
        exact h _ _ (Int.emod_nonneg _ (by omega)) (Int.emod_lt_of_pos _ u0) ⟨p0, q2, p2, xs, by rw [sup_same]; rfl, h0, q20, by omega, h3, h4, h5⟩ (fun b hb => by rw [sup_ne hb, sup_ne hb]; exact fr b hb)
end K57
set_option Elab.async false
set_option linter.all false
set_option maxRecDepth 100000
set_option maxHeartbeats 4000000
namespace K57
open PySem PySem.Spec PyProof.Rows L2 DL
local macro_rules | `(tactic| walk_at "w") => `(tactic| conv => whnf)
local macro_rules | `(tactic| walk_at "g") => `(tactic| ((conv => whnf); repeat' (first | (refine IFB.t ?_ ?_; rfl; conv => whnf) | (refine IFB.f ?_ ?_; rfl; conv => whnf))))

theorem sameD_ext {S S' : Sto} (x : Ext S S') : ∀ (n : Nat) (y d : D), sameD S n y d → sameD S' n y d
  | 0, _, _, h => h
  | n + 1, y, .non, h => h
  | n + 1, y, .bl _, h => h
  | n + 1, y, .int _, h => h
  | n + 1, y, .str _, h => h
  | n + 1, y, .tup xs, h => by
    obtain ⟨ys, e, hl, hb, hq⟩ := h
    exact ⟨ys, e, hl, hb, fun i a b e1 e2 => sameD_ext x n _ _ (hq i a b e1 e2)⟩
  | n + 1, y, .ref a, h => by
    obtain ⟨xs, ys, hx, hy, hl, hb, hq⟩ := h
    exact ⟨xs, ys, x.rd hx, x.rd hy, hl, hb, fun i a b e1 e2 => sameD_ext x n _ _ (hq i a b e1 e2)⟩
  | n + 1, y, .fro a, h => by
    obtain ⟨xs, ys, hx, hy, hl, hb, hq⟩ := h
    exact ⟨xs, ys, x.rd hx, x.rd hy, hl, hb, fun i a b e1 e2 => sameD_ext x n _ _ (hq i a b e1 e2)⟩
  | n + 1, y, .ty a, h => by
    obtain ⟨xs, ys, hx, hy, hl, hb, hq⟩ := h
    exact ⟨xs, ys, x.rd hx, x.rd hy, hl, hb, fun i a b e1 e2 => sameD_ext x n _ _ (hq i a b e1 e2)⟩
  | n + 1, y, .exc a b, h => by
    obtain ⟨xs, ys, hx, hy, hl, hb, hq⟩ := h
    exact ⟨xs, ys, x.rd hx, x.rd hy, hl, hb, fun i a b e1 e2 => sameD_ext x n _ _ (hq i a b e1 e2)⟩
theorem rec_law_same {P : Program} {w : World} {K : PySem.W.Frag} {mg : Str → Option Value} {base : Heap} (T : Txt K mg) (n : Nat) : FnOk P w K mg base (L2.CX P w) n T.a_law_same T.fd_law_same ["got", "due"] (toSp K (sp_same n)) := by
  induction n with
  | zero => exact fnok0.imp fun vs H Q E ⟨_, _, _, _, _, _, ⟨_, _, _, h, _⟩, _⟩ => h.elim
  | succ n ih =>
    refine fnE (k := n) (sp := sp_same (n + 1)) T.F_law_same sc_law_same (fun ds S Q E h => ?_) (fun cdv A outer s H E RX hr => ⟨_, (pds_cons (pd_ifS (pdt_cmp od_is (pd_var 1) pd_non) (pds_one (pd_ret (pd_cmp od_is (pd_var 0) pd_non))) pds_nil)
      (pds_cons (pd_ifS (pdt_tru (pd_isi2 .bool .str (pd_var 1) T.b_isinstance T.b_bool T.b_str)) (pds_one (pd_ret (pd_and (pd_cmp (od_eq hr.units) (pd_isi1 .bool (pd_var 0) T.b_isinstance T.b_bool) (pd_isi1 .bool (pd_var 1) T.b_isinstance T.b_bool)) (pd_and (pd_isi2 .bool .str (pd_var 0) T.b_isinstance T.b_bool T.b_str) (pd_one (pd_cmp (od_eq hr.units) (pd_var 0) (pd_var 1))))))) pds_nil)
      (pds_cons (pd_ifS (pdt_tru (pd_isi1 .int (pd_var 1) T.b_isinstance T.b_int)) (pds_one (pd_ret (pd_and (pd_isi1 .int (pd_var 0) T.b_isinstance T.b_int) (pd_and (pd_not (pd_isi1 .bool (pd_var 0) T.b_isinstance T.b_bool)) (pd_one (pd_cmp (od_eq hr.units) (pd_var 0) (pd_var 1))))))) pds_nil)
      (pds_cons (pd_ifS (PDW.pt (pdw_or (pdt_cmp (od_ne hr.units) (pd_isi1 .lst (pd_var 1) T.b_isinstance T.b_list) (pd_isi1 .lst (pd_var 0) T.b_isinstance T.b_list)) (pdw_or1 (pdt_cmp (od_ne hr.units) (pd_isi1 .tup (pd_var 1) T.b_isinstance T.b_tuple) (pd_isi1 .tup (pd_var 0) T.b_isinstance T.b_tuple))))) (pds_one (pd_ret pd_bl)) pds_nil)
      (pds_one (pd_ret (pd_and (pd_cmp (od_eq hr.units) (pd_blt cd_len T.b_len (by decide +kernel) (pda_cons (pd_var 0) pda_nil)) (pd_blt cd_len T.b_len (by decide +kernel) (pda_cons (pd_var 1) pda_nil))) (pd_one (pd_blt (cd_all rfl) T.b_all (by decide +kernel) (pda_cons (pd_lc (own := [("k", 2)]) (p := .n 2) rfl sc_law_same.nd (pdi_range1 T.b_range (pda_cons (pd_blt cd_len T.b_len (by decide +kernel) (pda_cons (pd_var 1) pda_nil)) pda_nil)) (blkOk_by (N := ["got", "due", "k"]) (sc := defScope s_law_same) (own := [("k", 2)]) (by decide +kernel)) (fun _ _ _ _ _ => (pg_name (i := 2) sc_law_same.nd rfl (by first | exact Or.inl rfl | exact Or.inr rfl))) (fun _ _ _ _ _ => pdts_nil) (fun _ _ _ _ _ => (pd_call takes0 ih hr T.m_law_same T.F_law_same.kp T.d_law_same (pda_cons (pd_ix (pd_var 0) (pd_var 2)) (pda_cons (pd_ix (pd_var 1) (pd_var 2)) pda_nil))))) pda_nil)))))))))), fun ds S Q h => ?_⟩)
    · obtain ⟨_, _, rfl, _⟩ := h
      rfl
    · skip
      obtain ⟨told, due, rfl, hs, h⟩ := h
      cases due with
      | non => cases (show told = .non from hs); walk_at "g"; exact ⟨S, Ext.refl _, h⟩
      | bl b => cases (show told = .bl b from hs); walk_at "g"; rw [decide_eq_true rfl]; exact ⟨S, Ext.refl _, h⟩
      | str b => cases (show told = .str b from hs); walk_at "g"; rw [decide_eq_true rfl]; exact ⟨S, Ext.refl _, h⟩
      | int b => cases (show told = .int b from hs); walk_at "g"; rw [decide_eq_true rfl]; exact ⟨S, Ext.refl _, h⟩
      | tup xs =>
        obtain ⟨ys, rfl, hl, hb, hq⟩ := (show ∃ ys, told = .tup ys ∧ ys.length = xs.length ∧ xs.length < 1000000 ∧ ∀ (i : Nat) y x, ys[i]? = some y → xs[i]? = some x → sameD S n y x from hs)
        walk_at "g"
        
        refine IFB.t (by simp [hl]) ?_
        walk_at "w"
        skip
        walk_at "w"
        refine ⟨⟨by omega, by omega⟩, ?_⟩
        walk_at "w"
        refine lc_rgm (fun _ => D.bl true) ?_ ?_
        · rintro i acc S2 hi w2
          walk_at "w"
          rw [show (0 : Int) + (i : Int) = (i : Int) from Int.zero_add _]
          refine IFB.t rfl ?_
          have hi' : i < xs.length := by omega
          have ex2 := w2.2.2
          walk_at "w"
          refine ⟨ys[i]'(by omega), atI_nat (List.getElem?_eq_getElem (show i < ys.length by omega)), ?_⟩
          walk_at "w"
          refine ⟨xs[i], atI_nat (List.getElem?_eq_getElem hi'), ?_⟩
          walk_at "w"
          refine ⟨_, _, rfl, sameD_ext ex2 _ _ _ (hq i _ _ (List.getElem?_eq_getElem _) (List.getElem?_eq_getElem _)), ?_⟩
          walk_at "w"
          exact lc_leaf hi w2 (by show _ ≤ 16777216; omega) rfl (Ext.refl _)
        · rintro S2 v ex hv
          walk_at "w"
          refine ⟨(List.range (xs.length : Int).toNat).map fun _ => true, .inl ⟨_, rfl, by rw [sup_same, List.map_map]; rfl⟩, ?_⟩
          rw [show ((List.range (xs.length : Int).toNat).map fun _ => true).all id = true by simp]
          exact ⟨S, ex.trans (Ext.new hv _), h⟩
      | fro xs =>
        obtain ⟨xs', ys, hx, hy, hl, hb, hq⟩ := (show ∃ xs' ys, RdL S (.fro xs) xs' ∧ RdL S told ys ∧ ys.length = xs'.length ∧ xs'.length < 1000000 ∧ ∀ (i : Nat) y x, ys[i]? = some y → xs'[i]? = some x → sameD S n y x from hs)
        rcases hx with ⟨_, hx, _⟩ | hx
        · cases hx
        · cases hx
          rcases hy with ⟨b, rfl, ey⟩ | rfl
          · walk_at "g"
            repeat (refine .inl ⟨ys, ey, ?_⟩; walk_at "g")
            refine ⟨ys, .inl ⟨b, rfl, ey⟩, ?_⟩
            walk_at "g"
            refine ⟨xs, .inr rfl, ?_⟩
            walk_at "g"
            refine IFB.t (by simp [hl]) ?_
            walk_at "w"
            refine ⟨xs, .inr rfl, ?_⟩
            walk_at "w"
            refine ⟨⟨by omega, by omega⟩, ?_⟩
            walk_at "w"
            refine lc_rgm (fun _ => D.bl true) ?_ ?_
            · rintro i acc S2 hi w2
              walk_at "w"
              rw [show (0 : Int) + (i : Int) = (i : Int) from Int.zero_add _]
              refine IFB.t rfl ?_
              have hi' : i < xs.length := by omega
              have ex2 := w2.2.2
              walk_at "w"
              refine ⟨ys, ys[i]'(by omega), .inl ⟨b, rfl, ex2 _ _ ey⟩, atI_nat (List.getElem?_eq_getElem (show i < ys.length by omega)), ?_⟩
              walk_at "w"
              refine ⟨xs, xs[i], .inr rfl, atI_nat (List.getElem?_eq_getElem hi'), ?_⟩
              walk_at "w"
              refine ⟨_, _, rfl, sameD_ext ex2 _ _ _ (hq i _ _ (List.getElem?_eq_getElem _) (List.getElem?_eq_getElem _)), ?_⟩
              walk_at "w"
              exact lc_leaf hi w2 (by show _ ≤ 16777216; omega) rfl (Ext.refl _)
            · rintro S2 v ex hv
              walk_at "w"
              refine ⟨(List.range (xs.length : Int).toNat).map fun _ => true, .inl ⟨_, rfl, by rw [sup_same, List.map_map]; rfl⟩, ?_⟩
              rw [show ((List.range (xs.length : Int).toNat).map fun _ => true).all id = true by simp]
              exact ⟨S, ex.trans (Ext.new hv _), h⟩
          · walk_at "g"
            refine ⟨ys, .inr rfl, ?_⟩
            walk_at "g"
            refine ⟨xs, .inr rfl, ?_⟩
            walk_at "g"
            refine IFB.t (by simp [hl]) ?_
            walk_at "w"
            refine ⟨xs, .inr rfl, ?_⟩
            walk_at "w"
            refine ⟨⟨by omega, by omega⟩, ?_⟩
            walk_at "w"
            refine lc_rgm (fun _ => D.bl true) ?_ ?_
            · rintro i acc S2 hi w2
              walk_at "w"
              rw [show (0 : Int) + (i : Int) = (i : Int) from Int.zero_add _]
              refine IFB.t rfl ?_
              have hi' : i < xs.length := by omega
              have ex2 := w2.2.2
              walk_at "w"
              refine ⟨ys, ys[i]'(by omega), .inr rfl, atI_nat (List.getElem?_eq_getElem (show i < ys.length by omega)), ?_⟩
              walk_at "w"
              refine ⟨xs, xs[i], .inr rfl, atI_nat (List.getElem?_eq_getElem hi'), ?_⟩
              walk_at "w"
              refine ⟨_, _, rfl, sameD_ext ex2 _ _ _ (hq i _ _ (List.getElem?_eq_getElem _) (List.getElem?_eq_getElem _)), ?_⟩
              walk_at "w"
              exact lc_leaf hi w2 (by show _ ≤ 16777216; omega) rfl (Ext.refl _)
            · rintro S2 v ex hv
              walk_at "w"
              refine ⟨(List.range (xs.length : Int).toNat).map fun _ => true, .inl ⟨_, rfl, by rw [sup_same, List.map_map]; rfl⟩, ?_⟩
              rw [show ((List.range (xs.length : Int).toNat).map fun _ => true).all id = true by simp]
              exact ⟨S, ex.trans (Ext.new hv _), h⟩
      | ref a =>
        obtain ⟨xs, ys, hx, hy, hl, hb, hq⟩ := (show ∃ xs ys, RdL S (.ref a) xs ∧ RdL S told ys ∧ ys.length = xs.length ∧ xs.length < 1000000 ∧ ∀ (i : Nat) y x, ys[i]? = some y → xs[i]? = some x → sameD S n y x from hs)
        rcases hx with ⟨_, e, ex⟩ | hx
        · cases e
          rcases hy with ⟨b, rfl, ey⟩ | rfl
          · walk_at "g"
            repeat (first | (refine .inl ⟨xs, ex, ?_⟩; walk_at "g") | (refine .inl ⟨ys, ey, ?_⟩; walk_at "g"))
            refine ⟨ys, .inl ⟨b, rfl, ey⟩, ?_⟩
            walk_at "g"
            refine ⟨xs, .inl ⟨_, rfl, ex⟩, ?_⟩
            walk_at "g"
            refine IFB.t (by simp [hl]) ?_
            walk_at "w"
            refine ⟨xs, .inl ⟨_, rfl, ex⟩, ?_⟩
            walk_at "w"
            refine ⟨⟨by omega, by omega⟩, ?_⟩
            walk_at "w"
            refine lc_rgm (fun _ => D.bl true) ?_ ?_
            · rintro i acc S2 hi w2
              walk_at "w"
              rw [show (0 : Int) + (i : Int) = (i : Int) from Int.zero_add _]
              refine IFB.t rfl ?_
              have hi' : i < xs.length := by omega
              have ex2 := w2.2.2
              walk_at "w"
              refine ⟨ys, ys[i]'(by omega), .inl ⟨b, rfl, ex2 _ _ ey⟩, atI_nat (List.getElem?_eq_getElem (show i < ys.length by omega)), ?_⟩
              walk_at "w"
              refine ⟨xs, xs[i], .inl ⟨_, rfl, ex2 _ _ ex⟩, atI_nat (List.getElem?_eq_getElem hi'), ?_⟩
              walk_at "w"
              refine ⟨_, _, rfl, sameD_ext ex2 _ _ _ (hq i _ _ (List.getElem?_eq_getElem _) (List.getElem?_eq_getElem _)), ?_⟩
              walk_at "w"
              exact lc_leaf hi w2 (by show _ ≤ 16777216; omega) rfl (Ext.refl _)
            · rintro S2 v ex hv
              walk_at "w"
              refine ⟨(List.range (xs.length : Int).toNat).map fun _ => true, .inl ⟨_, rfl, by rw [sup_same, List.map_map]; rfl⟩, ?_⟩
              rw [show ((List.range (xs.length : Int).toNat).map fun _ => true).all id = true by simp]
              exact ⟨S, ex.trans (Ext.new hv _), h⟩
          · walk_at "g"
            repeat (refine .inl ⟨xs, ex, ?_⟩; walk_at "g")
            refine ⟨ys, .inr rfl, ?_⟩
            walk_at "g"
            refine ⟨xs, .inl ⟨_, rfl, ex⟩, ?_⟩
            walk_at "g"
            refine IFB.t (by simp [hl]) ?_
            walk_at "w"
            refine ⟨xs, .inl ⟨_, rfl, ex⟩, ?_⟩
            walk_at "w"
            refine ⟨⟨by omega, by omega⟩, ?_⟩
            walk_at "w"
            refine lc_rgm (fun _ => D.bl true) ?_ ?_
            · rintro i acc S2 hi w2
              walk_at "w"
              rw [show (0 : Int) + (i : Int) = (i : Int) from Int.zero_add _]
              refine IFB.t rfl ?_
              have hi' : i < xs.length := by omega
              have ex2 := w2.2.2
              walk_at "w"
              refine ⟨ys, ys[i]'(by omega), .inr rfl, atI_nat (List.getElem?_eq_getElem (show i < ys.length by omega)), ?_⟩
              walk_at "w"
              refine ⟨xs, xs[i], .inl ⟨_, rfl, ex2 _ _ ex⟩, atI_nat (List.getElem?_eq_getElem hi'), ?_⟩
              walk_at "w"
              refine ⟨_, _, rfl, sameD_ext ex2 _ _ _ (hq i _ _ (List.getElem?_eq_getElem _) (List.getElem?_eq_getElem _)), ?_⟩
              walk_at "w"
              exact lc_leaf hi w2 (by show _ ≤ 16777216; omega) rfl (Ext.refl _)
            · rintro S2 v ex hv
              walk_at "w"
              refine ⟨(List.range (xs.length : Int).toNat).map fun _ => true, .inl ⟨_, rfl, by rw [sup_same, List.map_map]; rfl⟩, ?_⟩
              rw [show ((List.range (xs.length : Int).toNat).map fun _ => true).all id = true by simp]
              exact ⟨S, ex.trans (Ext.new hv _), h⟩
        · cases hx
      | ty _ => obtain ⟨_, _, hx, _⟩ := (show ∃ xs ys, RdL S _ xs ∧ RdL S told ys ∧ _ from hs); rcases hx with ⟨_, hx, _⟩ | hx <;> cases hx
      | exc _ _ => obtain ⟨_, _, hx, _⟩ := (show ∃ xs ys, RdL S _ xs ∧ RdL S told ys ∧ _ from hs); rcases hx with ⟨_, hx, _⟩ | hx <;> cases hx
def sp_law_same : DSp := sp_same 5
theorem ok_law_same {P : Program} {w : World} {K : PySem.W.Frag} {mg : Str → Option Value} {base : Heap} (T : Txt K mg) : FnOk P w K mg base (L2.CX P w) 5 T.a_law_same T.fd_law_same ["got", "due"] (toSp K sp_law_same) := rec_law_same T 5
end K57
set_option Elab.async false
set_option linter.all false
set_option maxRecDepth 100000
set_option maxHeartbeats 4000000
namespace K57
open PySem PySem.Spec PyProof.Rows L2 DL
local macro_rules | `(tactic| walk_at "w") => `(tactic| conv => whnf)
local macro_rules | `(tactic| walk_at "g") => `(tactic| ((conv => whnf); repeat' (first | (refine IFB.t ?_ ?_; rfl; conv => whnf) | (refine IFB.f ?_ ?_; rfl; conv => whnf))))

theorem nd_ne {l : List Addr} (h : l.Nodup) {i j : Nat} {a b : Addr} (hij : i ≠ j) (hi : l[i]? = some a) (hj : l[j]? = some b) : a ≠ b := fun e => by
  obtain ⟨h1, e1⟩ := List.getElem?_eq_some_iff.mp hi
  obtain ⟨h2, e2⟩ := List.getElem?_eq_some_iff.mp hj
  rcases Nat.lt_or_gt_of_ne hij with q | q
  · exact List.pairwise_iff_getElem.mp h i j h1 h2 q (by rw [e1, e2, e])
  · exact List.pairwise_iff_getElem.mp h j i h2 h1 q (by rw [e1, e2, e])
def cl {K : PySem.W.Frag} {mg : Str → Option Value} (T : Txt K mg) : Nat → Addr
  | 0 => T.C_InvalidGame
  | 1 => T.C_InvalidRule
  | 2 => T.C_InvalidLot
  | 3 => T.C_InvalidPays
  | 4 => T.C_InvalidPrizes
  | 5 => T.C_InvalidSource
  | 6 => T.C_InvalidWord
  | 7 => T.C_NotEnding
  | _ => T.C_NotSolo
def kinds (w : Nat) : List D := (List.range 28).map fun (k : Nat) => D.bl (decide ((k : Int) = (w : Int)))
def sp_law_kinds (cl : Nat → Addr) : DSp := fun ds S Q _ => ∃ (w : Nat) (d : D), ds = [.exc (cl w) d] ∧ w < 9 ∧ ∀ p S', S' p = some (.lst (kinds w)) → Ext S S' → Q (.ref p) S'
def plainB : Nat → D → Bool
  | 0, _ => false
  | _ + 1, .non => true
  | _ + 1, .bl _ => true
  | _ + 1, .int _ => true
  | _ + 1, .str _ => true
  | n + 1, .tup xs => decide (xs.length < 1000000) && xs.all (plainB n)
  | _ + 1, _ => false
theorem plain_same : ∀ (n : Nat) (d : D), plainB n d = true → ∀ S, sameD S n d d
  | 0, _, h, _ => by cases h
  | n + 1, .non, h, _ => rfl
  | n + 1, .bl _, h, _ => rfl
  | n + 1, .int _, h, _ => rfl
  | n + 1, .str _, h, _ => rfl
  | n + 1, .tup xs, h, S => by
    obtain ⟨h1, h2⟩ := Bool.and_eq_true_iff.mp (show (decide (xs.length < 1000000) && xs.all (plainB n)) = true from h)
    exact ⟨xs, rfl, rfl, of_decide_eq_true h1, fun i y x e1 e2 => by rw [e1] at e2; cases (Option.some.inj e2); exact plain_same n _ (List.all_eq_true.mp h2 _ (List.mem_of_getElem? e1)) S⟩
  | n + 1, .fro xs, h, S => by cases h
  | n + 1, .ref xs, h, S => by cases h
  | n + 1, .ty xs, h, S => by cases h
  | n + 1, .exc xs _, h, S => by cases h
def GivD (S : Sto) (a : Addr) (d : D) : Prop := plainB 5 d = true ∨ ∃ p xs, d = .ref p ∧ p ≠ a ∧ S p = some (.lst xs) ∧ xs.length < 1000000 ∧ xs.all (plainB 4) = true
theorem GivD.ext {S S' : Sto} {a : Addr} {d : D} (h : GivD S a d) (x : ExB a S S') : GivD S' a d := by
  rcases h with h | ⟨p, xs, rfl, hp, e, r⟩
  · exact .inl h
  · exact .inr ⟨p, xs, rfl, hp, x p hp _ e, r⟩
theorem GivD.same {S : Sto} {a : Addr} {d : D} (h : GivD S a d) : sameD S 5 d d := by
  rcases h with h | ⟨p, xs, rfl, hp, e, hl, r⟩
  · exact plain_same 5 d h S
  · exact ⟨xs, xs, .inl ⟨p, rfl, e⟩, .inl ⟨p, rfl, e⟩, rfl, hl, fun i y x e1 e2 => by rw [e1] at e2; cases (Option.some.inj e2); exact plain_same 4 _ (List.all_eq_true.mp r _ (List.mem_of_getElem? e1)) S⟩
def sp_law_given : DSp := fun ds S Q _ => ∃ a, ds = [.ref a] ∧ PotD S a ∧ ∀ d S', GivD S' a d → PotD S' a → ExB a S S' → Q d S'
def sp_law_caught (cl : Nat → Addr) : DSp := fun ds S Q _ => ∃ (w : Nat) (d : D) (n : Bool), ds = [.int (w : Int), d, .bl n] ∧ w < 9 ∧ Q (.exc (cl w) d) S
def sp_law_right (cl : Nat → Addr) : DSp := fun ds S Q _ => ∃ (w : Nat) (d : D), ds = [.exc (cl w) d, .int (w : Int), d] ∧ w < 9 ∧ sameD S 5 d d ∧ Q (.bl true) S
def sp_law : DSp := fun ds S Q _ => ∃ xs : List Int, ds = [.fro (xs.map D.int)] ∧ xs.length ≤ 63 ∧ ∀ S', Q (.bl true) S'
def sp_law_raised (cl : Nat → Addr) : DSp := fun ds S Q E => ∃ (w : Nat) (d : D), ds = [.int (w : Int), d] ∧ w < 9 ∧ E (cl w) d S
def sp_law_raised_named := sp_law_raised
theorem exm_of {K : PySem.W.Frag} {mg : Str → Option Value} (T : Txt K mg) : ∀ w, PySem.W.exmOne K (.ref (cl T w)) (.ref T.C_TossError) = some true
  | 0 => exm_base T.o_InvalidGame T.o_TossError
  | 1 => exm_base T.o_InvalidRule T.o_TossError
  | 2 => exm_base T.o_InvalidLot T.o_TossError
  | 3 => exm_base T.o_InvalidPays T.o_TossError
  | 4 => exm_base T.o_InvalidPrizes T.o_TossError
  | 5 => exm_base T.o_InvalidSource T.o_TossError
  | 6 => exm_base T.o_InvalidWord T.o_TossError
  | 7 => exm_base T.o_NotEnding T.o_TossError
  | _ + 8 => exm_base T.o_NotSolo T.o_TossError
theorem exn_cl {K : PySem.W.Frag} {mg : Str → Option Value} (T : Txt K mg) : ∀ w, Exn K (cl T w)
  | 0 => exn_of T.o_InvalidGame bm_T T.x_InvalidGame
  | 1 => exn_of T.o_InvalidRule bm_T T.x_InvalidRule
  | 2 => exn_of T.o_InvalidLot bm_T T.x_InvalidLot
  | 3 => exn_of T.o_InvalidPays bm_T T.x_InvalidPays
  | 4 => exn_of T.o_InvalidPrizes bm_T T.x_InvalidPrizes
  | 5 => exn_of T.o_InvalidSource bm_T T.x_InvalidSource
  | 6 => exn_of T.o_InvalidWord bm_T T.x_InvalidWord
  | 7 => exn_of T.o_NotEnding bm_T T.x_NotEnding
  | _ + 8 => exn_of T.o_NotSolo bm_T T.x_NotSolo
theorem ve_cl {K : PySem.W.Frag} {mg : Str → Option Value} (T : Txt K mg) : ∀ w, PySem.W.kitOne K (.ref (cl T w)) (.type "ValueError") = some true
  | 0 => kit_ve T.o_InvalidGame bm_T
  | 1 => kit_ve T.o_InvalidRule bm_T
  | 2 => kit_ve T.o_InvalidLot bm_T
  | 3 => kit_ve T.o_InvalidPays bm_T
  | 4 => kit_ve T.o_InvalidPrizes bm_T
  | 5 => kit_ve T.o_InvalidSource bm_T
  | 6 => kit_ve T.o_InvalidWord bm_T
  | 7 => kit_ve T.o_NotEnding bm_T
  | _ + 8 => kit_ve T.o_NotSolo bm_T
theorem kinds_self (S : Sto) (w : Nat) : ∀ x ∈ kinds w, sameD S 4 x x := fun x hx => by
  obtain ⟨k, _, rfl⟩ := List.mem_map.mp hx
  rfl
theorem lst_self {S : Sto} {w : Nat} {p q : Addr} (h1 : S p = some (.lst (kinds w))) (h2 : S q = some (.lst (kinds w))) : sameD S 5 (.ref p) (.ref q) :=
  ⟨kinds w, kinds w, .inl ⟨q, rfl, h2⟩, .inl ⟨p, rfl, h1⟩, rfl, by unfold kinds; simp, fun i y x e1 e2 => by rw [e1] at e2; cases (Option.some.inj e2); exact kinds_self S w _ (List.mem_of_getElem? e1)⟩
theorem ok_law_raised {P : Program} {w : World} {K : PySem.W.Frag} {mg : Str → Option Value} {base : Heap} (T : Txt K mg) : FnOk P w K mg base (L2.CX P w) 3 T.a_law_raised T.fd_law_raised ["which", "given"] (toSp K (sp_law_raised (cl T))) := by
  refine fnD T.F_law_raised sc_law_raised (fun ds S Q E h => ?_) (fun cdv A outer s H E RX hr => ⟨_, (pds_cons (pd_ifS (pdt_cmp (od_eq hr.units) (pd_var 0) pd_int) (pds_one (pd_raise rfl (takes_of rfl rfl rfl rfl) (own_of T.o_InvalidGame bm_T T.x_InvalidGame) T.t_init (ok_init T) (hr.mono (by decide)) T.d_init T.m_InvalidGame (pd_var 1))) pds_nil)
    (pds_cons (pd_ifS (pdt_cmp (od_eq hr.units) (pd_var 0) pd_int) (pds_one (pd_raise rfl (takes_of rfl rfl rfl rfl) (own_of T.o_InvalidRule bm_T T.x_InvalidRule) T.t_init (ok_init T) (hr.mono (by decide)) T.d_init T.m_InvalidRule (pd_var 1))) pds_nil)
    (pds_cons (pd_ifS (pdt_cmp (od_eq hr.units) (pd_var 0) pd_int) (pds_one (pd_raise rfl (takes_of rfl rfl rfl rfl) (own_of T.o_InvalidLot bm_T T.x_InvalidLot) T.t_init (ok_init T) (hr.mono (by decide)) T.d_init T.m_InvalidLot (pd_var 1))) pds_nil)
    (pds_cons (pd_ifS (pdt_cmp (od_eq hr.units) (pd_var 0) pd_int) (pds_one (pd_raise rfl (takes_of rfl rfl rfl rfl) (own_of T.o_InvalidPays bm_T T.x_InvalidPays) T.t_init (ok_init T) (hr.mono (by decide)) T.d_init T.m_InvalidPays (pd_var 1))) pds_nil)
    (pds_cons (pd_ifS (pdt_cmp (od_eq hr.units) (pd_var 0) pd_int) (pds_one (pd_raise rfl (takes_of rfl rfl rfl rfl) (own_of T.o_InvalidPrizes bm_T T.x_InvalidPrizes) T.t_init (ok_init T) (hr.mono (by decide)) T.d_init T.m_InvalidPrizes (pd_var 1))) pds_nil)
    (pds_cons (pd_ifS (pdt_cmp (od_eq hr.units) (pd_var 0) pd_int) (pds_one (pd_raise rfl (takes_of rfl rfl rfl rfl) (own_of T.o_InvalidSource bm_T T.x_InvalidSource) T.t_init (ok_init T) (hr.mono (by decide)) T.d_init T.m_InvalidSource (pd_var 1))) pds_nil)
    (pds_cons (pd_ifS (pdt_cmp (od_eq hr.units) (pd_var 0) pd_int) (pds_one (pd_raise rfl (takes_of rfl rfl rfl rfl) (own_of T.o_InvalidWord bm_T T.x_InvalidWord) T.t_init (ok_init T) (hr.mono (by decide)) T.d_init T.m_InvalidWord (pd_var 1))) pds_nil)
    (pds_cons (pd_ifS (pdt_cmp (od_eq hr.units) (pd_var 0) pd_int) (pds_one (pd_raise rfl (takes_of rfl rfl rfl rfl) (own_of T.o_NotEnding bm_T T.x_NotEnding) T.t_init (ok_init T) (hr.mono (by decide)) T.d_init T.m_NotEnding (pd_var 1))) pds_nil)
    (pds_one (pd_raise rfl (takes_of rfl rfl rfl rfl) (own_of T.o_NotSolo bm_T T.x_NotSolo) T.t_init (ok_init T) (hr.mono (by decide)) T.d_init T.m_NotSolo (pd_var 1))))))))))), fun ds S Q h => ?_⟩)
  · obtain ⟨_, _, rfl, _⟩ := h
    rfl
  · obtain ⟨w, d, rfl, hw, h⟩ := h
    walk_at "w"
    refine IFB.p (fun c0 => ?_) (fun c0 => ?_)
    · obtain rfl : w = 0 := by omega
      walk_at "w"
      exact h
    walk_at "w"
    refine IFB.p (fun c1 => ?_) (fun c1 => ?_)
    · obtain rfl : w = 1 := by omega
      walk_at "w"
      exact h
    walk_at "w"
    refine IFB.p (fun c2 => ?_) (fun c2 => ?_)
    · obtain rfl : w = 2 := by omega
      walk_at "w"
      exact h
    walk_at "w"
    refine IFB.p (fun c3 => ?_) (fun c3 => ?_)
    · obtain rfl : w = 3 := by omega
      walk_at "w"
      exact h
    walk_at "w"
    refine IFB.p (fun c4 => ?_) (fun c4 => ?_)
    · obtain rfl : w = 4 := by omega
      walk_at "w"
      exact h
    walk_at "w"
    refine IFB.p (fun c5 => ?_) (fun c5 => ?_)
    · obtain rfl : w = 5 := by omega
      walk_at "w"
      exact h
    walk_at "w"
    refine IFB.p (fun c6 => ?_) (fun c6 => ?_)
    · obtain rfl : w = 6 := by omega
      walk_at "w"
      exact h
    walk_at "w"
    refine IFB.p (fun c7 => ?_) (fun c7 => ?_)
    · obtain rfl : w = 7 := by omega
      walk_at "w"
      exact h
    walk_at "w"
    obtain rfl : w = 8 := by omega
    exact h

theorem ok_law_raised_named {P : Program} {w : World} {K : PySem.W.Frag} {mg : Str → Option Value} {base : Heap} (T : Txt K mg) : FnOk P w K mg base (L2.CX P w) 3 T.a_law_raised_named T.fd_law_raised_named ["which", "given"] (toSp K (sp_law_raised_named (cl T))) := by
  refine fnD T.F_law_raised_named sc_law_raised_named (fun ds S Q E h => ?_) (fun cdv A outer s H E RX hr => ⟨_, (pds_cons (pd_ifS (pdt_cmp (od_eq hr.units) (pd_var 0) pd_int) (pds_one (pd_raiseK rfl (takes_of rfl rfl rfl rfl) (own_of T.o_InvalidGame bm_T T.x_InvalidGame) T.t_init (ok_init T) (hr.mono (by decide)) (kb_init T) T.m_InvalidGame (pd_var 1))) pds_nil)
    (pds_cons (pd_ifS (pdt_cmp (od_eq hr.units) (pd_var 0) pd_int) (pds_one (pd_raiseK rfl (takes_of rfl rfl rfl rfl) (own_of T.o_InvalidRule bm_T T.x_InvalidRule) T.t_init (ok_init T) (hr.mono (by decide)) (kb_init T) T.m_InvalidRule (pd_var 1))) pds_nil)
    (pds_cons (pd_ifS (pdt_cmp (od_eq hr.units) (pd_var 0) pd_int) (pds_one (pd_raiseK rfl (takes_of rfl rfl rfl rfl) (own_of T.o_InvalidLot bm_T T.x_InvalidLot) T.t_init (ok_init T) (hr.mono (by decide)) (kb_init T) T.m_InvalidLot (pd_var 1))) pds_nil)
    (pds_cons (pd_ifS (pdt_cmp (od_eq hr.units) (pd_var 0) pd_int) (pds_one (pd_raiseK rfl (takes_of rfl rfl rfl rfl) (own_of T.o_InvalidPays bm_T T.x_InvalidPays) T.t_init (ok_init T) (hr.mono (by decide)) (kb_init T) T.m_InvalidPays (pd_var 1))) pds_nil)
    (pds_cons (pd_ifS (pdt_cmp (od_eq hr.units) (pd_var 0) pd_int) (pds_one (pd_raiseK rfl (takes_of rfl rfl rfl rfl) (own_of T.o_InvalidPrizes bm_T T.x_InvalidPrizes) T.t_init (ok_init T) (hr.mono (by decide)) (kb_init T) T.m_InvalidPrizes (pd_var 1))) pds_nil)
    (pds_cons (pd_ifS (pdt_cmp (od_eq hr.units) (pd_var 0) pd_int) (pds_one (pd_raiseK rfl (takes_of rfl rfl rfl rfl) (own_of T.o_InvalidSource bm_T T.x_InvalidSource) T.t_init (ok_init T) (hr.mono (by decide)) (kb_init T) T.m_InvalidSource (pd_var 1))) pds_nil)
    (pds_cons (pd_ifS (pdt_cmp (od_eq hr.units) (pd_var 0) pd_int) (pds_one (pd_raiseK rfl (takes_of rfl rfl rfl rfl) (own_of T.o_InvalidWord bm_T T.x_InvalidWord) T.t_init (ok_init T) (hr.mono (by decide)) (kb_init T) T.m_InvalidWord (pd_var 1))) pds_nil)
    (pds_cons (pd_ifS (pdt_cmp (od_eq hr.units) (pd_var 0) pd_int) (pds_one (pd_raiseK rfl (takes_of rfl rfl rfl rfl) (own_of T.o_NotEnding bm_T T.x_NotEnding) T.t_init (ok_init T) (hr.mono (by decide)) (kb_init T) T.m_NotEnding (pd_var 1))) pds_nil)
    (pds_one (pd_raiseK rfl (takes_of rfl rfl rfl rfl) (own_of T.o_NotSolo bm_T T.x_NotSolo) T.t_init (ok_init T) (hr.mono (by decide)) (kb_init T) T.m_NotSolo (pd_var 1))))))))))), fun ds S Q h => ?_⟩)
  · obtain ⟨_, _, rfl, _⟩ := h
    rfl
  · obtain ⟨w, d, rfl, hw, h⟩ := h
    walk_at "w"
    refine IFB.p (fun c0 => ?_) (fun c0 => ?_)
    · obtain rfl : w = 0 := by omega
      walk_at "w"
      exact h
    walk_at "w"
    refine IFB.p (fun c1 => ?_) (fun c1 => ?_)
    · obtain rfl : w = 1 := by omega
      walk_at "w"
      exact h
    walk_at "w"
    refine IFB.p (fun c2 => ?_) (fun c2 => ?_)
    · obtain rfl : w = 2 := by omega
      walk_at "w"
      exact h
    walk_at "w"
    refine IFB.p (fun c3 => ?_) (fun c3 => ?_)
    · obtain rfl : w = 3 := by omega
      walk_at "w"
      exact h
    walk_at "w"
    refine IFB.p (fun c4 => ?_) (fun c4 => ?_)
    · obtain rfl : w = 4 := by omega
      walk_at "w"
      exact h
    walk_at "w"
    refine IFB.p (fun c5 => ?_) (fun c5 => ?_)
    · obtain rfl : w = 5 := by omega
      walk_at "w"
      exact h
    walk_at "w"
    refine IFB.p (fun c6 => ?_) (fun c6 => ?_)
    · obtain rfl : w = 6 := by omega
      walk_at "w"
      exact h
    walk_at "w"
    refine IFB.p (fun c7 => ?_) (fun c7 => ?_)
    · obtain rfl : w = 7 := by omega
      walk_at "w"
      exact h
    walk_at "w"
    obtain rfl : w = 8 := by omega
    exact h

theorem ok_law_given {P : Program} {w : World} {K : PySem.W.Frag} {mg : Str → Option Value} {base : Heap} (T : Txt K mg) : FnOk P w K mg base (L2.CX P w) 2 T.a_law_given T.fd_law_given ["pot"] (toSp K sp_law_given) := by
  refine fnD T.F_law_given sc_law_given (fun ds S Q E h => ?_) (fun cdv A outer s H E RX hr => ⟨_, (pds_cons (pd_set 1 sc_law_given.nd (pd_bin od_sub (pd_bin od_add (pd_bin od_mul (pd_call (takes_of rfl rfl rfl rfl) (ok_law_take T) (hr.mono (by decide)) T.m_law_take T.F_law_take.kp T.d_law_take (pda_cons (pd_var 0) (pda_cons (pd_bin od_pow pd_int pd_int) pda_nil))) (pd_bin od_pow pd_int pd_int)) (pd_call (takes_of rfl rfl rfl rfl) (ok_law_take T) (hr.mono (by decide)) T.m_law_take T.F_law_take.kp T.d_law_take (pda_cons (pd_var 0) (pda_cons (pd_bin od_pow pd_int pd_int) pda_nil)))) (pd_bin od_pow pd_int pd_int)))
    (pds_cons (pd_set 2 sc_law_given.nd (pd_lst (pda_cons (pd_var 1) (pda_cons (pd_call (takes_of rfl rfl rfl rfl) (ok_law_take T) (hr.mono (by decide)) T.m_law_take T.F_law_take.kp T.d_law_take (pda_cons (pd_var 0) (pda_cons pd_int pda_nil))) (pda_cons pd_str (pda_cons pd_str (pda_cons pd_non (pda_cons pd_bl (pda_cons pd_bl (pda_cons (pd_tup pda_nil) (pda_cons (pd_tup (pda_cons (pd_var 1) (pda_cons pd_int pda_nil))) (pda_cons (pd_lst (pda_cons (pd_var 1) (pda_cons pd_str pda_nil))) (pda_cons (pd_tup (pda_cons (pd_tup (pda_cons pd_int (pda_cons pd_int pda_nil))) (pda_cons (pd_tup (pda_cons pd_str (pda_cons (pd_tup pda_nil) pda_nil))) pda_nil))) (pda_cons (pd_lst pda_nil) pda_nil))))))))))))))
    (pds_cons (pd_set 2 sc_law_given.nd (pd_bin od_add (pd_var 2) (pd_lst (pda_cons (pd_neg pd_int) (pda_cons pd_int (pda_cons (pd_tup (pda_cons pd_int (pda_cons (pd_tup (pda_cons (pd_tup (pda_cons pd_str (pda_cons (pd_tup (pda_cons pd_str (pda_cons pd_int pda_nil))) (pda_cons (pd_tup (pda_cons pd_str (pda_cons pd_int pda_nil))) pda_nil)))) pda_nil)) pda_nil))) pda_nil))))))
    (pds_one (pd_ret (pd_ix (pd_var 2) (pd_call (takes_of rfl rfl rfl rfl) (ok_law_take T) (hr.mono (by decide)) T.m_law_take T.F_law_take.kp T.d_law_take (pda_cons (pd_var 0) (pda_cons pd_int pda_nil))))))))), fun ds S Q h => ?_⟩)
  · obtain ⟨_, rfl, _⟩ := h
    rfl
  · obtain ⟨a, rfl, hp, h⟩ := h
    have c9 : (10 : Int) ^ (9 : Int).toNat = 1000000000 := rfl
    walk_at "w"
    refine ⟨by decide, ?_⟩
    walk_at "w"
    refine ⟨a, _, rfl, hp, by decide, by decide, ?_⟩
    rintro f1 S1 a0 a1 hp1 fr1
    walk_at "w"
    refine ⟨by decide, ?_⟩
    walk_at "w"
    refine ⟨small_l (by omega) (by omega), ?_⟩
    walk_at "w"
    refine ⟨by decide, ?_⟩
    walk_at "w"
    refine ⟨a, _, rfl, hp1, by decide, by decide, ?_⟩
    rintro f2 S2 b0 b1 hp2 fr2
    walk_at "w"
    refine ⟨by decide, ?_⟩
    walk_at "w"
    generalize f1 * _ + f2 - _ = far
    refine ⟨a, 9, rfl, hp2, by decide, by decide, ?_⟩
    rintro f3 S3 d0 d1 hp3 fr3
    have x3 : ExB a S S3 := ((ExB.of fr1).trans (ExB.of fr2)).trans (ExB.of fr3)
    walk_at "w"
    intro p1 hq1
    have x4 := Ext.new hq1 (.lst [.int far, .str "x"])
    have e1 : DL.sup S3 p1 (.lst [.int far, .str "x"]) p1 = some (.lst [.int far, .str "x"]) := sup_same
    have n1 : p1 ≠ a := hp3.ne hq1
    have hp4 := hp3.ext x4
    have x4' := x3.trans (ExB.ext x4)
    generalize DL.sup S3 p1 _ = S4 at *
    walk_at "w"
    intro p2 hq2
    have x5 := Ext.new hq2 (.lst [])
    have e2 : DL.sup S4 p2 (.lst []) p2 = some (.lst []) := sup_same
    have n2 : p2 ≠ a := hp4.ne hq2
    have e1' := x5 _ _ e1
    have hp5 := hp4.ext x5
    have x5' := x4'.trans (ExB.ext x5)
    generalize DL.sup S4 p2 _ = S5 at *
    walk_at "w"
    intro p3 hq3
    have x6 := Ext.new hq3 (.lst [.int far, .int f3, .str "", .str "a b", .non, .bl true, .bl false, .tup [], .tup [.int far, .int 1], .ref p1, .tup [.tup [.int 1, .int 2], .tup [.str "to", .tup []]], .ref p2])
    have e3 : DL.sup S5 p3 (.lst [.int far, .int f3, .str "", .str "a b", .non, .bl true, .bl false, .tup [], .tup [.int far, .int 1], .ref p1, .tup [.tup [.int 1, .int 2], .tup [.str "to", .tup []]], .ref p2]) p3 = some (.lst [.int far, .int f3, .str "", .str "a b", .non, .bl true, .bl false, .tup [], .tup [.int far, .int 1], .ref p1, .tup [.tup [.int 1, .int 2], .tup [.str "to", .tup []]], .ref p2]) := sup_same
    have hp6 := hp5.ext x6
    generalize DL.sup S5 p3 _ = S6 at *
    walk_at "w"
    intro p4 hq4
    have x7 := Ext.new hq4 (.lst [.int (-1), .int 0, .tup [.int 2, .tup [.tup [.str "toss", .tup [.str "is", .int 0], .tup [.str "is", .int 1]]]]])
    have e4 : DL.sup S6 p4 (.lst [.int (-1), .int 0, .tup [.int 2, .tup [.tup [.str "toss", .tup [.str "is", .int 0], .tup [.str "is", .int 1]]]]]) p4 = some (.lst [.int (-1), .int 0, .tup [.int 2, .tup [.tup [.str "toss", .tup [.str "is", .int 0], .tup [.str "is", .int 1]]]]]) := sup_same
    have e3' := x7 _ _ e3
    have hp7 := hp6.ext x7
    generalize DL.sup S6 p4 _ = S7 at *
    walk_at "w"
    refine ⟨_, _, e3', e4, by show _ ≤ 16777216; simp, ?_⟩
    intro p5 hq5
    have n5 := hp7.ne hq5
    have x8 := Ext.new hq5 (.lst ([.int far, .int f3, .str "", .str "a b", .non, .bl true, .bl false, .tup [], .tup [.int far, .int 1], .ref p1, .tup [.tup [.int 1, .int 2], .tup [.str "to", .tup []]], .ref p2] ++ [.int (-1), .int 0, .tup [.int 2, .tup [.tup [.str "toss", .tup [.str "is", .int 0], .tup [.str "is", .int 1]]]]]))
    have e5 : DL.sup S7 p5 (.lst ([.int far, .int f3, .str "", .str "a b", .non, .bl true, .bl false, .tup [], .tup [.int far, .int 1], .ref p1, .tup [.tup [.int 1, .int 2], .tup [.str "to", .tup []]], .ref p2] ++ [.int (-1), .int 0, .tup [.int 2, .tup [.tup [.str "toss", .tup [.str "is", .int 0], .tup [.str "is", .int 1]]]]])) p5 = some (.lst ([.int far, .int f3, .str "", .str "a b", .non, .bl true, .bl false, .tup [], .tup [.int far, .int 1], .ref p1, .tup [.tup [.int 1, .int 2], .tup [.str "to", .tup []]], .ref p2] ++ [.int (-1), .int 0, .tup [.int 2, .tup [.tup [.str "toss", .tup [.str "is", .int 0], .tup [.str "is", .int 1]]]]])) := sup_same
    have hp8 := hp7.ext x8
    generalize DL.sup S7 p5 _ = S8 at *
    walk_at "w"
    refine ⟨a, 15, rfl, hp8, by decide, by decide, ?_⟩
    rintro f S9 k0 k1 hp9 fr9
    have e1'' : S9 p1 = some (.lst [.int far, .str "x"]) := by rw [fr9 p1 n1]; exact (x6.trans (x7.trans x8)) _ _ e1'
    have e2'' : S9 p2 = some (.lst []) := by rw [fr9 p2 n2]; exact (x6.trans (x7.trans x8)) _ _ e2
    have e5'' : S9 p5 = some (.lst ([.int far, .int f3, .str "", .str "a b", .non, .bl true, .bl false, .tup [], .tup [.int far, .int 1], .ref p1, .tup [.tup [.int 1, .int 2], .tup [.str "to", .tup []]], .ref p2] ++ [.int (-1), .int 0, .tup [.int 2, .tup [.tup [.str "toss", .tup [.str "is", .int 0], .tup [.str "is", .int 1]]]]])) := by rw [fr9 p5 n5]; exact e5
    have xx := ((x5'.trans (ExB.ext x6)).trans (ExB.ext (x7.trans x8))).trans (ExB.of fr9)
    obtain ⟨r, hr, hg⟩ : ∃ r, atI ([.int far, .int f3, .str "", .str "a b", .non, .bl true, .bl false, .tup [], .tup [.int far, .int 1], .ref p1, .tup [.tup [.int 1, .int 2], .tup [.str "to", .tup []]], .ref p2] ++ [.int (-1), .int 0, .tup [.int 2, .tup [.tup [.str "toss", .tup [.str "is", .int 0], .tup [.str "is", .int 1]]]]]) f = some r ∧ GivD S9 a r := by
      rcases (show f = 0 ∨ f = 1 ∨ f = 2 ∨ f = 3 ∨ f = 4 ∨ f = 5 ∨ f = 6 ∨ f = 7 ∨ f = 8 ∨ f = 9 ∨ f = 10 ∨ f = 11 ∨ f = 12 ∨ f = 13 ∨ f = 14 by omega) with rfl | rfl | rfl | rfl | rfl | rfl | rfl | rfl | rfl | rfl | rfl | rfl | rfl | rfl | rfl
      · exact ⟨_, rfl, .inl rfl⟩
      · exact ⟨_, rfl, .inl rfl⟩
      · exact ⟨_, rfl, .inl rfl⟩
      · exact ⟨_, rfl, .inl rfl⟩
      · exact ⟨_, rfl, .inl rfl⟩
      · exact ⟨_, rfl, .inl rfl⟩
      · exact ⟨_, rfl, .inl rfl⟩
      · exact ⟨_, rfl, .inl rfl⟩
      · exact ⟨_, rfl, .inl rfl⟩
      · exact ⟨_, rfl, .inr ⟨p1, _, rfl, n1, e1'', by show 2 < 1000000; decide, rfl⟩⟩
      · exact ⟨_, rfl, .inl rfl⟩
      · exact ⟨_, rfl, .inr ⟨p2, _, rfl, n2, e2'', by show 0 < 1000000; decide, rfl⟩⟩
      · exact ⟨_, rfl, .inl rfl⟩
      · exact ⟨_, rfl, .inl rfl⟩
      · exact ⟨_, rfl, .inl rfl⟩
    walk_at "w"
    refine ⟨_, r, .inl ⟨p5, rfl, e5''⟩, hr, ?_⟩
    walk_at "w"
    exact h r S9 hg hp9 xx
end K57
set_option Elab.async false
set_option linter.all false
set_option maxRecDepth 100000
set_option maxHeartbeats 4000000
namespace K57
open PySem PySem.Spec PyProof.Rows L2 DL
local macro_rules | `(tactic| walk_at "w") => `(tactic| conv => whnf)
local macro_rules | `(tactic| walk_at "g") => `(tactic| ((conv => whnf); repeat' (first | (refine IFB.t ?_ ?_; rfl; conv => whnf) | (refine IFB.f ?_ ?_; rfl; conv => whnf))))
theorem kit_InvalidGame {K : PySem.W.Frag} {mg : Str → Option Value} (T : Txt K mg) : ∀ w, w < 9 → PySem.W.kitOne K (.ref (cl T w)) (.ref T.C_InvalidGame) = some (decide ((0 : Int) = (w : Int)))
  | 0, _ => kit_self
  | 1, _ => kit_other T.o_InvalidRule T.o_InvalidGame (nd_ne T.nd (i := 2) (j := 13) (by decide) rfl rfl) (nd_ne T.nd (i := 2) (j := 25) (by decide) rfl rfl)
  | 2, _ => kit_other T.o_InvalidLot T.o_InvalidGame (nd_ne T.nd (i := 2) (j := 4) (by decide) rfl rfl) (nd_ne T.nd (i := 2) (j := 25) (by decide) rfl rfl)
  | 3, _ => kit_other T.o_InvalidPays T.o_InvalidGame (nd_ne T.nd (i := 2) (j := 9) (by decide) rfl rfl) (nd_ne T.nd (i := 2) (j := 25) (by decide) rfl rfl)
  | 4, _ => kit_other T.o_InvalidPrizes T.o_InvalidGame (nd_ne T.nd (i := 2) (j := 10) (by decide) rfl rfl) (nd_ne T.nd (i := 2) (j := 25) (by decide) rfl rfl)
  | 5, _ => kit_other T.o_InvalidSource T.o_InvalidGame (nd_ne T.nd (i := 2) (j := 15) (by decide) rfl rfl) (nd_ne T.nd (i := 2) (j := 25) (by decide) rfl rfl)
  | 6, _ => kit_other T.o_InvalidWord T.o_InvalidGame (nd_ne T.nd (i := 2) (j := 18) (by decide) rfl rfl) (nd_ne T.nd (i := 2) (j := 25) (by decide) rfl rfl)
  | 7, _ => kit_other T.o_NotEnding T.o_InvalidGame (nd_ne T.nd (i := 2) (j := 22) (by decide) rfl rfl) (nd_ne T.nd (i := 2) (j := 25) (by decide) rfl rfl)
  | 8, _ => kit_other T.o_NotSolo T.o_InvalidGame (nd_ne T.nd (i := 2) (j := 23) (by decide) rfl rfl) (nd_ne T.nd (i := 2) (j := 25) (by decide) rfl rfl)
  | _ + 9, h => by omega
theorem kit_InvalidRule {K : PySem.W.Frag} {mg : Str → Option Value} (T : Txt K mg) : ∀ w, w < 9 → PySem.W.kitOne K (.ref (cl T w)) (.ref T.C_InvalidRule) = some (decide ((1 : Int) = (w : Int)))
  | 0, _ => kit_other T.o_InvalidGame T.o_InvalidRule (nd_ne T.nd (i := 13) (j := 2) (by decide) rfl rfl) (nd_ne T.nd (i := 13) (j := 25) (by decide) rfl rfl)
  | 1, _ => kit_self
  | 2, _ => kit_other T.o_InvalidLot T.o_InvalidRule (nd_ne T.nd (i := 13) (j := 4) (by decide) rfl rfl) (nd_ne T.nd (i := 13) (j := 25) (by decide) rfl rfl)
  | 3, _ => kit_other T.o_InvalidPays T.o_InvalidRule (nd_ne T.nd (i := 13) (j := 9) (by decide) rfl rfl) (nd_ne T.nd (i := 13) (j := 25) (by decide) rfl rfl)
  | 4, _ => kit_other T.o_InvalidPrizes T.o_InvalidRule (nd_ne T.nd (i := 13) (j := 10) (by decide) rfl rfl) (nd_ne T.nd (i := 13) (j := 25) (by decide) rfl rfl)
  | 5, _ => kit_other T.o_InvalidSource T.o_InvalidRule (nd_ne T.nd (i := 13) (j := 15) (by decide) rfl rfl) (nd_ne T.nd (i := 13) (j := 25) (by decide) rfl rfl)
  | 6, _ => kit_other T.o_InvalidWord T.o_InvalidRule (nd_ne T.nd (i := 13) (j := 18) (by decide) rfl rfl) (nd_ne T.nd (i := 13) (j := 25) (by decide) rfl rfl)
  | 7, _ => kit_other T.o_NotEnding T.o_InvalidRule (nd_ne T.nd (i := 13) (j := 22) (by decide) rfl rfl) (nd_ne T.nd (i := 13) (j := 25) (by decide) rfl rfl)
  | 8, _ => kit_other T.o_NotSolo T.o_InvalidRule (nd_ne T.nd (i := 13) (j := 23) (by decide) rfl rfl) (nd_ne T.nd (i := 13) (j := 25) (by decide) rfl rfl)
  | _ + 9, h => by omega
theorem kit_InvalidLot {K : PySem.W.Frag} {mg : Str → Option Value} (T : Txt K mg) : ∀ w, w < 9 → PySem.W.kitOne K (.ref (cl T w)) (.ref T.C_InvalidLot) = some (decide ((2 : Int) = (w : Int)))
  | 0, _ => kit_other T.o_InvalidGame T.o_InvalidLot (nd_ne T.nd (i := 4) (j := 2) (by decide) rfl rfl) (nd_ne T.nd (i := 4) (j := 25) (by decide) rfl rfl)
  | 1, _ => kit_other T.o_InvalidRule T.o_InvalidLot (nd_ne T.nd (i := 4) (j := 13) (by decide) rfl rfl) (nd_ne T.nd (i := 4) (j := 25) (by decide) rfl rfl)
  | 2, _ => kit_self
  | 3, _ => kit_other T.o_InvalidPays T.o_InvalidLot (nd_ne T.nd (i := 4) (j := 9) (by decide) rfl rfl) (nd_ne T.nd (i := 4) (j := 25) (by decide) rfl rfl)
  | 4, _ => kit_other T.o_InvalidPrizes T.o_InvalidLot (nd_ne T.nd (i := 4) (j := 10) (by decide) rfl rfl) (nd_ne T.nd (i := 4) (j := 25) (by decide) rfl rfl)
  | 5, _ => kit_other T.o_InvalidSource T.o_InvalidLot (nd_ne T.nd (i := 4) (j := 15) (by decide) rfl rfl) (nd_ne T.nd (i := 4) (j := 25) (by decide) rfl rfl)
  | 6, _ => kit_other T.o_InvalidWord T.o_InvalidLot (nd_ne T.nd (i := 4) (j := 18) (by decide) rfl rfl) (nd_ne T.nd (i := 4) (j := 25) (by decide) rfl rfl)
  | 7, _ => kit_other T.o_NotEnding T.o_InvalidLot (nd_ne T.nd (i := 4) (j := 22) (by decide) rfl rfl) (nd_ne T.nd (i := 4) (j := 25) (by decide) rfl rfl)
  | 8, _ => kit_other T.o_NotSolo T.o_InvalidLot (nd_ne T.nd (i := 4) (j := 23) (by decide) rfl rfl) (nd_ne T.nd (i := 4) (j := 25) (by decide) rfl rfl)
  | _ + 9, h => by omega
theorem kit_InvalidPays {K : PySem.W.Frag} {mg : Str → Option Value} (T : Txt K mg) : ∀ w, w < 9 → PySem.W.kitOne K (.ref (cl T w)) (.ref T.C_InvalidPays) = some (decide ((3 : Int) = (w : Int)))
  | 0, _ => kit_other T.o_InvalidGame T.o_InvalidPays (nd_ne T.nd (i := 9) (j := 2) (by decide) rfl rfl) (nd_ne T.nd (i := 9) (j := 25) (by decide) rfl rfl)
  | 1, _ => kit_other T.o_InvalidRule T.o_InvalidPays (nd_ne T.nd (i := 9) (j := 13) (by decide) rfl rfl) (nd_ne T.nd (i := 9) (j := 25) (by decide) rfl rfl)
  | 2, _ => kit_other T.o_InvalidLot T.o_InvalidPays (nd_ne T.nd (i := 9) (j := 4) (by decide) rfl rfl) (nd_ne T.nd (i := 9) (j := 25) (by decide) rfl rfl)
  | 3, _ => kit_self
  | 4, _ => kit_other T.o_InvalidPrizes T.o_InvalidPays (nd_ne T.nd (i := 9) (j := 10) (by decide) rfl rfl) (nd_ne T.nd (i := 9) (j := 25) (by decide) rfl rfl)
  | 5, _ => kit_other T.o_InvalidSource T.o_InvalidPays (nd_ne T.nd (i := 9) (j := 15) (by decide) rfl rfl) (nd_ne T.nd (i := 9) (j := 25) (by decide) rfl rfl)
  | 6, _ => kit_other T.o_InvalidWord T.o_InvalidPays (nd_ne T.nd (i := 9) (j := 18) (by decide) rfl rfl) (nd_ne T.nd (i := 9) (j := 25) (by decide) rfl rfl)
  | 7, _ => kit_other T.o_NotEnding T.o_InvalidPays (nd_ne T.nd (i := 9) (j := 22) (by decide) rfl rfl) (nd_ne T.nd (i := 9) (j := 25) (by decide) rfl rfl)
  | 8, _ => kit_other T.o_NotSolo T.o_InvalidPays (nd_ne T.nd (i := 9) (j := 23) (by decide) rfl rfl) (nd_ne T.nd (i := 9) (j := 25) (by decide) rfl rfl)
  | _ + 9, h => by omega
theorem kit_InvalidPrizes {K : PySem.W.Frag} {mg : Str → Option Value} (T : Txt K mg) : ∀ w, w < 9 → PySem.W.kitOne K (.ref (cl T w)) (.ref T.C_InvalidPrizes) = some (decide ((4 : Int) = (w : Int)))
  | 0, _ => kit_other T.o_InvalidGame T.o_InvalidPrizes (nd_ne T.nd (i := 10) (j := 2) (by decide) rfl rfl) (nd_ne T.nd (i := 10) (j := 25) (by decide) rfl rfl)
  | 1, _ => kit_other T.o_InvalidRule T.o_InvalidPrizes (nd_ne T.nd (i := 10) (j := 13) (by decide) rfl rfl) (nd_ne T.nd (i := 10) (j := 25) (by decide) rfl rfl)
  | 2, _ => kit_other T.o_InvalidLot T.o_InvalidPrizes (nd_ne T.nd (i := 10) (j := 4) (by decide) rfl rfl) (nd_ne T.nd (i := 10) (j := 25) (by decide) rfl rfl)
  | 3, _ => kit_other T.o_InvalidPays T.o_InvalidPrizes (nd_ne T.nd (i := 10) (j := 9) (by decide) rfl rfl) (nd_ne T.nd (i := 10) (j := 25) (by decide) rfl rfl)
  | 4, _ => kit_self
  | 5, _ => kit_other T.o_InvalidSource T.o_InvalidPrizes (nd_ne T.nd (i := 10) (j := 15) (by decide) rfl rfl) (nd_ne T.nd (i := 10) (j := 25) (by decide) rfl rfl)
  | 6, _ => kit_other T.o_InvalidWord T.o_InvalidPrizes (nd_ne T.nd (i := 10) (j := 18) (by decide) rfl rfl) (nd_ne T.nd (i := 10) (j := 25) (by decide) rfl rfl)
  | 7, _ => kit_other T.o_NotEnding T.o_InvalidPrizes (nd_ne T.nd (i := 10) (j := 22) (by decide) rfl rfl) (nd_ne T.nd (i := 10) (j := 25) (by decide) rfl rfl)
  | 8, _ => kit_other T.o_NotSolo T.o_InvalidPrizes (nd_ne T.nd (i := 10) (j := 23) (by decide) rfl rfl) (nd_ne T.nd (i := 10) (j := 25) (by decide) rfl rfl)
  | _ + 9, h => by omega
theorem kit_InvalidSource {K : PySem.W.Frag} {mg : Str → Option Value} (T : Txt K mg) : ∀ w, w < 9 → PySem.W.kitOne K (.ref (cl T w)) (.ref T.C_InvalidSource) = some (decide ((5 : Int) = (w : Int)))
  | 0, _ => kit_other T.o_InvalidGame T.o_InvalidSource (nd_ne T.nd (i := 15) (j := 2) (by decide) rfl rfl) (nd_ne T.nd (i := 15) (j := 25) (by decide) rfl rfl)
  | 1, _ => kit_other T.o_InvalidRule T.o_InvalidSource (nd_ne T.nd (i := 15) (j := 13) (by decide) rfl rfl) (nd_ne T.nd (i := 15) (j := 25) (by decide) rfl rfl)
  | 2, _ => kit_other T.o_InvalidLot T.o_InvalidSource (nd_ne T.nd (i := 15) (j := 4) (by decide) rfl rfl) (nd_ne T.nd (i := 15) (j := 25) (by decide) rfl rfl)
  | 3, _ => kit_other T.o_InvalidPays T.o_InvalidSource (nd_ne T.nd (i := 15) (j := 9) (by decide) rfl rfl) (nd_ne T.nd (i := 15) (j := 25) (by decide) rfl rfl)
  | 4, _ => kit_other T.o_InvalidPrizes T.o_InvalidSource (nd_ne T.nd (i := 15) (j := 10) (by decide) rfl rfl) (nd_ne T.nd (i := 15) (j := 25) (by decide) rfl rfl)
  | 5, _ => kit_self
  | 6, _ => kit_other T.o_InvalidWord T.o_InvalidSource (nd_ne T.nd (i := 15) (j := 18) (by decide) rfl rfl) (nd_ne T.nd (i := 15) (j := 25) (by decide) rfl rfl)
  | 7, _ => kit_other T.o_NotEnding T.o_InvalidSource (nd_ne T.nd (i := 15) (j := 22) (by decide) rfl rfl) (nd_ne T.nd (i := 15) (j := 25) (by decide) rfl rfl)
  | 8, _ => kit_other T.o_NotSolo T.o_InvalidSource (nd_ne T.nd (i := 15) (j := 23) (by decide) rfl rfl) (nd_ne T.nd (i := 15) (j := 25) (by decide) rfl rfl)
  | _ + 9, h => by omega
theorem kit_InvalidWord {K : PySem.W.Frag} {mg : Str → Option Value} (T : Txt K mg) : ∀ w, w < 9 → PySem.W.kitOne K (.ref (cl T w)) (.ref T.C_InvalidWord) = some (decide ((6 : Int) = (w : Int)))
  | 0, _ => kit_other T.o_InvalidGame T.o_InvalidWord (nd_ne T.nd (i := 18) (j := 2) (by decide) rfl rfl) (nd_ne T.nd (i := 18) (j := 25) (by decide) rfl rfl)
  | 1, _ => kit_other T.o_InvalidRule T.o_InvalidWord (nd_ne T.nd (i := 18) (j := 13) (by decide) rfl rfl) (nd_ne T.nd (i := 18) (j := 25) (by decide) rfl rfl)
  | 2, _ => kit_other T.o_InvalidLot T.o_InvalidWord (nd_ne T.nd (i := 18) (j := 4) (by decide) rfl rfl) (nd_ne T.nd (i := 18) (j := 25) (by decide) rfl rfl)
  | 3, _ => kit_other T.o_InvalidPays T.o_InvalidWord (nd_ne T.nd (i := 18) (j := 9) (by decide) rfl rfl) (nd_ne T.nd (i := 18) (j := 25) (by decide) rfl rfl)
  | 4, _ => kit_other T.o_InvalidPrizes T.o_InvalidWord (nd_ne T.nd (i := 18) (j := 10) (by decide) rfl rfl) (nd_ne T.nd (i := 18) (j := 25) (by decide) rfl rfl)
  | 5, _ => kit_other T.o_InvalidSource T.o_InvalidWord (nd_ne T.nd (i := 18) (j := 15) (by decide) rfl rfl) (nd_ne T.nd (i := 18) (j := 25) (by decide) rfl rfl)
  | 6, _ => kit_self
  | 7, _ => kit_other T.o_NotEnding T.o_InvalidWord (nd_ne T.nd (i := 18) (j := 22) (by decide) rfl rfl) (nd_ne T.nd (i := 18) (j := 25) (by decide) rfl rfl)
  | 8, _ => kit_other T.o_NotSolo T.o_InvalidWord (nd_ne T.nd (i := 18) (j := 23) (by decide) rfl rfl) (nd_ne T.nd (i := 18) (j := 25) (by decide) rfl rfl)
  | _ + 9, h => by omega
theorem kit_NotEnding {K : PySem.W.Frag} {mg : Str → Option Value} (T : Txt K mg) : ∀ w, w < 9 → PySem.W.kitOne K (.ref (cl T w)) (.ref T.C_NotEnding) = some (decide ((7 : Int) = (w : Int)))
  | 0, _ => kit_other T.o_InvalidGame T.o_NotEnding (nd_ne T.nd (i := 22) (j := 2) (by decide) rfl rfl) (nd_ne T.nd (i := 22) (j := 25) (by decide) rfl rfl)
  | 1, _ => kit_other T.o_InvalidRule T.o_NotEnding (nd_ne T.nd (i := 22) (j := 13) (by decide) rfl rfl) (nd_ne T.nd (i := 22) (j := 25) (by decide) rfl rfl)
  | 2, _ => kit_other T.o_InvalidLot T.o_NotEnding (nd_ne T.nd (i := 22) (j := 4) (by decide) rfl rfl) (nd_ne T.nd (i := 22) (j := 25) (by decide) rfl rfl)
  | 3, _ => kit_other T.o_InvalidPays T.o_NotEnding (nd_ne T.nd (i := 22) (j := 9) (by decide) rfl rfl) (nd_ne T.nd (i := 22) (j := 25) (by decide) rfl rfl)
  | 4, _ => kit_other T.o_InvalidPrizes T.o_NotEnding (nd_ne T.nd (i := 22) (j := 10) (by decide) rfl rfl) (nd_ne T.nd (i := 22) (j := 25) (by decide) rfl rfl)
  | 5, _ => kit_other T.o_InvalidSource T.o_NotEnding (nd_ne T.nd (i := 22) (j := 15) (by decide) rfl rfl) (nd_ne T.nd (i := 22) (j := 25) (by decide) rfl rfl)
  | 6, _ => kit_other T.o_InvalidWord T.o_NotEnding (nd_ne T.nd (i := 22) (j := 18) (by decide) rfl rfl) (nd_ne T.nd (i := 22) (j := 25) (by decide) rfl rfl)
  | 7, _ => kit_self
  | 8, _ => kit_other T.o_NotSolo T.o_NotEnding (nd_ne T.nd (i := 22) (j := 23) (by decide) rfl rfl) (nd_ne T.nd (i := 22) (j := 25) (by decide) rfl rfl)
  | _ + 9, h => by omega
theorem kit_NotSolo {K : PySem.W.Frag} {mg : Str → Option Value} (T : Txt K mg) : ∀ w, w < 9 → PySem.W.kitOne K (.ref (cl T w)) (.ref T.C_NotSolo) = some (decide ((8 : Int) = (w : Int)))
  | 0, _ => kit_other T.o_InvalidGame T.o_NotSolo (nd_ne T.nd (i := 23) (j := 2) (by decide) rfl rfl) (nd_ne T.nd (i := 23) (j := 25) (by decide) rfl rfl)
  | 1, _ => kit_other T.o_InvalidRule T.o_NotSolo (nd_ne T.nd (i := 23) (j := 13) (by decide) rfl rfl) (nd_ne T.nd (i := 23) (j := 25) (by decide) rfl rfl)
  | 2, _ => kit_other T.o_InvalidLot T.o_NotSolo (nd_ne T.nd (i := 23) (j := 4) (by decide) rfl rfl) (nd_ne T.nd (i := 23) (j := 25) (by decide) rfl rfl)
  | 3, _ => kit_other T.o_InvalidPays T.o_NotSolo (nd_ne T.nd (i := 23) (j := 9) (by decide) rfl rfl) (nd_ne T.nd (i := 23) (j := 25) (by decide) rfl rfl)
  | 4, _ => kit_other T.o_InvalidPrizes T.o_NotSolo (nd_ne T.nd (i := 23) (j := 10) (by decide) rfl rfl) (nd_ne T.nd (i := 23) (j := 25) (by decide) rfl rfl)
  | 5, _ => kit_other T.o_InvalidSource T.o_NotSolo (nd_ne T.nd (i := 23) (j := 15) (by decide) rfl rfl) (nd_ne T.nd (i := 23) (j := 25) (by decide) rfl rfl)
  | 6, _ => kit_other T.o_InvalidWord T.o_NotSolo (nd_ne T.nd (i := 23) (j := 18) (by decide) rfl rfl) (nd_ne T.nd (i := 23) (j := 25) (by decide) rfl rfl)
  | 7, _ => kit_other T.o_NotEnding T.o_NotSolo (nd_ne T.nd (i := 23) (j := 22) (by decide) rfl rfl) (nd_ne T.nd (i := 23) (j := 25) (by decide) rfl rfl)
  | 8, _ => kit_self
  | _ + 9, h => by omega
theorem kit_InvalidNumber {K : PySem.W.Frag} {mg : Str → Option Value} (T : Txt K mg) : ∀ w, w < 9 → PySem.W.kitOne K (.ref (cl T w)) (.ref T.C_InvalidNumber) = some (decide ((9 : Int) = (w : Int)))
  | 0, _ => kit_other T.o_InvalidGame T.o_InvalidNumber (nd_ne T.nd (i := 7) (j := 2) (by decide) rfl rfl) (nd_ne T.nd (i := 7) (j := 25) (by decide) rfl rfl)
  | 1, _ => kit_other T.o_InvalidRule T.o_InvalidNumber (nd_ne T.nd (i := 7) (j := 13) (by decide) rfl rfl) (nd_ne T.nd (i := 7) (j := 25) (by decide) rfl rfl)
  | 2, _ => kit_other T.o_InvalidLot T.o_InvalidNumber (nd_ne T.nd (i := 7) (j := 4) (by decide) rfl rfl) (nd_ne T.nd (i := 7) (j := 25) (by decide) rfl rfl)
  | 3, _ => kit_other T.o_InvalidPays T.o_InvalidNumber (nd_ne T.nd (i := 7) (j := 9) (by decide) rfl rfl) (nd_ne T.nd (i := 7) (j := 25) (by decide) rfl rfl)
  | 4, _ => kit_other T.o_InvalidPrizes T.o_InvalidNumber (nd_ne T.nd (i := 7) (j := 10) (by decide) rfl rfl) (nd_ne T.nd (i := 7) (j := 25) (by decide) rfl rfl)
  | 5, _ => kit_other T.o_InvalidSource T.o_InvalidNumber (nd_ne T.nd (i := 7) (j := 15) (by decide) rfl rfl) (nd_ne T.nd (i := 7) (j := 25) (by decide) rfl rfl)
  | 6, _ => kit_other T.o_InvalidWord T.o_InvalidNumber (nd_ne T.nd (i := 7) (j := 18) (by decide) rfl rfl) (nd_ne T.nd (i := 7) (j := 25) (by decide) rfl rfl)
  | 7, _ => kit_other T.o_NotEnding T.o_InvalidNumber (nd_ne T.nd (i := 7) (j := 22) (by decide) rfl rfl) (nd_ne T.nd (i := 7) (j := 25) (by decide) rfl rfl)
  | 8, _ => kit_other T.o_NotSolo T.o_InvalidNumber (nd_ne T.nd (i := 7) (j := 23) (by decide) rfl rfl) (nd_ne T.nd (i := 7) (j := 25) (by decide) rfl rfl)
  | _ + 9, h => by omega
theorem kit_InvalidShares {K : PySem.W.Frag} {mg : Str → Option Value} (T : Txt K mg) : ∀ w, w < 9 → PySem.W.kitOne K (.ref (cl T w)) (.ref T.C_InvalidShares) = some (decide ((10 : Int) = (w : Int)))
  | 0, _ => kit_other T.o_InvalidGame T.o_InvalidShares (nd_ne T.nd (i := 14) (j := 2) (by decide) rfl rfl) (nd_ne T.nd (i := 14) (j := 25) (by decide) rfl rfl)
  | 1, _ => kit_other T.o_InvalidRule T.o_InvalidShares (nd_ne T.nd (i := 14) (j := 13) (by decide) rfl rfl) (nd_ne T.nd (i := 14) (j := 25) (by decide) rfl rfl)
  | 2, _ => kit_other T.o_InvalidLot T.o_InvalidShares (nd_ne T.nd (i := 14) (j := 4) (by decide) rfl rfl) (nd_ne T.nd (i := 14) (j := 25) (by decide) rfl rfl)
  | 3, _ => kit_other T.o_InvalidPays T.o_InvalidShares (nd_ne T.nd (i := 14) (j := 9) (by decide) rfl rfl) (nd_ne T.nd (i := 14) (j := 25) (by decide) rfl rfl)
  | 4, _ => kit_other T.o_InvalidPrizes T.o_InvalidShares (nd_ne T.nd (i := 14) (j := 10) (by decide) rfl rfl) (nd_ne T.nd (i := 14) (j := 25) (by decide) rfl rfl)
  | 5, _ => kit_other T.o_InvalidSource T.o_InvalidShares (nd_ne T.nd (i := 14) (j := 15) (by decide) rfl rfl) (nd_ne T.nd (i := 14) (j := 25) (by decide) rfl rfl)
  | 6, _ => kit_other T.o_InvalidWord T.o_InvalidShares (nd_ne T.nd (i := 14) (j := 18) (by decide) rfl rfl) (nd_ne T.nd (i := 14) (j := 25) (by decide) rfl rfl)
  | 7, _ => kit_other T.o_NotEnding T.o_InvalidShares (nd_ne T.nd (i := 14) (j := 22) (by decide) rfl rfl) (nd_ne T.nd (i := 14) (j := 25) (by decide) rfl rfl)
  | 8, _ => kit_other T.o_NotSolo T.o_InvalidShares (nd_ne T.nd (i := 14) (j := 23) (by decide) rfl rfl) (nd_ne T.nd (i := 14) (j := 25) (by decide) rfl rfl)
  | _ + 9, h => by omega
theorem kit_InvalidFigures {K : PySem.W.Frag} {mg : Str → Option Value} (T : Txt K mg) : ∀ w, w < 9 → PySem.W.kitOne K (.ref (cl T w)) (.ref T.C_InvalidFigures) = some (decide ((11 : Int) = (w : Int)))
  | 0, _ => kit_other T.o_InvalidGame T.o_InvalidFigures (nd_ne T.nd (i := 1) (j := 2) (by decide) rfl rfl) (nd_ne T.nd (i := 1) (j := 25) (by decide) rfl rfl)
  | 1, _ => kit_other T.o_InvalidRule T.o_InvalidFigures (nd_ne T.nd (i := 1) (j := 13) (by decide) rfl rfl) (nd_ne T.nd (i := 1) (j := 25) (by decide) rfl rfl)
  | 2, _ => kit_other T.o_InvalidLot T.o_InvalidFigures (nd_ne T.nd (i := 1) (j := 4) (by decide) rfl rfl) (nd_ne T.nd (i := 1) (j := 25) (by decide) rfl rfl)
  | 3, _ => kit_other T.o_InvalidPays T.o_InvalidFigures (nd_ne T.nd (i := 1) (j := 9) (by decide) rfl rfl) (nd_ne T.nd (i := 1) (j := 25) (by decide) rfl rfl)
  | 4, _ => kit_other T.o_InvalidPrizes T.o_InvalidFigures (nd_ne T.nd (i := 1) (j := 10) (by decide) rfl rfl) (nd_ne T.nd (i := 1) (j := 25) (by decide) rfl rfl)
  | 5, _ => kit_other T.o_InvalidSource T.o_InvalidFigures (nd_ne T.nd (i := 1) (j := 15) (by decide) rfl rfl) (nd_ne T.nd (i := 1) (j := 25) (by decide) rfl rfl)
  | 6, _ => kit_other T.o_InvalidWord T.o_InvalidFigures (nd_ne T.nd (i := 1) (j := 18) (by decide) rfl rfl) (nd_ne T.nd (i := 1) (j := 25) (by decide) rfl rfl)
  | 7, _ => kit_other T.o_NotEnding T.o_InvalidFigures (nd_ne T.nd (i := 1) (j := 22) (by decide) rfl rfl) (nd_ne T.nd (i := 1) (j := 25) (by decide) rfl rfl)
  | 8, _ => kit_other T.o_NotSolo T.o_InvalidFigures (nd_ne T.nd (i := 1) (j := 23) (by decide) rfl rfl) (nd_ne T.nd (i := 1) (j := 25) (by decide) rfl rfl)
  | _ + 9, h => by omega
theorem kit_InvalidLeaves {K : PySem.W.Frag} {mg : Str → Option Value} (T : Txt K mg) : ∀ w, w < 9 → PySem.W.kitOne K (.ref (cl T w)) (.ref T.C_InvalidLeaves) = some (decide ((12 : Int) = (w : Int)))
  | 0, _ => kit_other T.o_InvalidGame T.o_InvalidLeaves (nd_ne T.nd (i := 3) (j := 2) (by decide) rfl rfl) (nd_ne T.nd (i := 3) (j := 25) (by decide) rfl rfl)
  | 1, _ => kit_other T.o_InvalidRule T.o_InvalidLeaves (nd_ne T.nd (i := 3) (j := 13) (by decide) rfl rfl) (nd_ne T.nd (i := 3) (j := 25) (by decide) rfl rfl)
  | 2, _ => kit_other T.o_InvalidLot T.o_InvalidLeaves (nd_ne T.nd (i := 3) (j := 4) (by decide) rfl rfl) (nd_ne T.nd (i := 3) (j := 25) (by decide) rfl rfl)
  | 3, _ => kit_other T.o_InvalidPays T.o_InvalidLeaves (nd_ne T.nd (i := 3) (j := 9) (by decide) rfl rfl) (nd_ne T.nd (i := 3) (j := 25) (by decide) rfl rfl)
  | 4, _ => kit_other T.o_InvalidPrizes T.o_InvalidLeaves (nd_ne T.nd (i := 3) (j := 10) (by decide) rfl rfl) (nd_ne T.nd (i := 3) (j := 25) (by decide) rfl rfl)
  | 5, _ => kit_other T.o_InvalidSource T.o_InvalidLeaves (nd_ne T.nd (i := 3) (j := 15) (by decide) rfl rfl) (nd_ne T.nd (i := 3) (j := 25) (by decide) rfl rfl)
  | 6, _ => kit_other T.o_InvalidWord T.o_InvalidLeaves (nd_ne T.nd (i := 3) (j := 18) (by decide) rfl rfl) (nd_ne T.nd (i := 3) (j := 25) (by decide) rfl rfl)
  | 7, _ => kit_other T.o_NotEnding T.o_InvalidLeaves (nd_ne T.nd (i := 3) (j := 22) (by decide) rfl rfl) (nd_ne T.nd (i := 3) (j := 25) (by decide) rfl rfl)
  | 8, _ => kit_other T.o_NotSolo T.o_InvalidLeaves (nd_ne T.nd (i := 3) (j := 23) (by decide) rfl rfl) (nd_ne T.nd (i := 3) (j := 25) (by decide) rfl rfl)
  | _ + 9, h => by omega
theorem kit_InvalidMachine {K : PySem.W.Frag} {mg : Str → Option Value} (T : Txt K mg) : ∀ w, w < 9 → PySem.W.kitOne K (.ref (cl T w)) (.ref T.C_InvalidMachine) = some (decide ((13 : Int) = (w : Int)))
  | 0, _ => kit_other T.o_InvalidGame T.o_InvalidMachine (nd_ne T.nd (i := 5) (j := 2) (by decide) rfl rfl) (nd_ne T.nd (i := 5) (j := 25) (by decide) rfl rfl)
  | 1, _ => kit_other T.o_InvalidRule T.o_InvalidMachine (nd_ne T.nd (i := 5) (j := 13) (by decide) rfl rfl) (nd_ne T.nd (i := 5) (j := 25) (by decide) rfl rfl)
  | 2, _ => kit_other T.o_InvalidLot T.o_InvalidMachine (nd_ne T.nd (i := 5) (j := 4) (by decide) rfl rfl) (nd_ne T.nd (i := 5) (j := 25) (by decide) rfl rfl)
  | 3, _ => kit_other T.o_InvalidPays T.o_InvalidMachine (nd_ne T.nd (i := 5) (j := 9) (by decide) rfl rfl) (nd_ne T.nd (i := 5) (j := 25) (by decide) rfl rfl)
  | 4, _ => kit_other T.o_InvalidPrizes T.o_InvalidMachine (nd_ne T.nd (i := 5) (j := 10) (by decide) rfl rfl) (nd_ne T.nd (i := 5) (j := 25) (by decide) rfl rfl)
  | 5, _ => kit_other T.o_InvalidSource T.o_InvalidMachine (nd_ne T.nd (i := 5) (j := 15) (by decide) rfl rfl) (nd_ne T.nd (i := 5) (j := 25) (by decide) rfl rfl)
  | 6, _ => kit_other T.o_InvalidWord T.o_InvalidMachine (nd_ne T.nd (i := 5) (j := 18) (by decide) rfl rfl) (nd_ne T.nd (i := 5) (j := 25) (by decide) rfl rfl)
  | 7, _ => kit_other T.o_NotEnding T.o_InvalidMachine (nd_ne T.nd (i := 5) (j := 22) (by decide) rfl rfl) (nd_ne T.nd (i := 5) (j := 25) (by decide) rfl rfl)
  | 8, _ => kit_other T.o_NotSolo T.o_InvalidMachine (nd_ne T.nd (i := 5) (j := 23) (by decide) rfl rfl) (nd_ne T.nd (i := 5) (j := 25) (by decide) rfl rfl)
  | _ + 9, h => by omega
theorem kit_InvalidRow {K : PySem.W.Frag} {mg : Str → Option Value} (T : Txt K mg) : ∀ w, w < 9 → PySem.W.kitOne K (.ref (cl T w)) (.ref T.C_InvalidRow) = some (decide ((14 : Int) = (w : Int)))
  | 0, _ => kit_other T.o_InvalidGame T.o_InvalidRow (nd_ne T.nd (i := 12) (j := 2) (by decide) rfl rfl) (nd_ne T.nd (i := 12) (j := 25) (by decide) rfl rfl)
  | 1, _ => kit_other T.o_InvalidRule T.o_InvalidRow (nd_ne T.nd (i := 12) (j := 13) (by decide) rfl rfl) (nd_ne T.nd (i := 12) (j := 25) (by decide) rfl rfl)
  | 2, _ => kit_other T.o_InvalidLot T.o_InvalidRow (nd_ne T.nd (i := 12) (j := 4) (by decide) rfl rfl) (nd_ne T.nd (i := 12) (j := 25) (by decide) rfl rfl)
  | 3, _ => kit_other T.o_InvalidPays T.o_InvalidRow (nd_ne T.nd (i := 12) (j := 9) (by decide) rfl rfl) (nd_ne T.nd (i := 12) (j := 25) (by decide) rfl rfl)
  | 4, _ => kit_other T.o_InvalidPrizes T.o_InvalidRow (nd_ne T.nd (i := 12) (j := 10) (by decide) rfl rfl) (nd_ne T.nd (i := 12) (j := 25) (by decide) rfl rfl)
  | 5, _ => kit_other T.o_InvalidSource T.o_InvalidRow (nd_ne T.nd (i := 12) (j := 15) (by decide) rfl rfl) (nd_ne T.nd (i := 12) (j := 25) (by decide) rfl rfl)
  | 6, _ => kit_other T.o_InvalidWord T.o_InvalidRow (nd_ne T.nd (i := 12) (j := 18) (by decide) rfl rfl) (nd_ne T.nd (i := 12) (j := 25) (by decide) rfl rfl)
  | 7, _ => kit_other T.o_NotEnding T.o_InvalidRow (nd_ne T.nd (i := 12) (j := 22) (by decide) rfl rfl) (nd_ne T.nd (i := 12) (j := 25) (by decide) rfl rfl)
  | 8, _ => kit_other T.o_NotSolo T.o_InvalidRow (nd_ne T.nd (i := 12) (j := 23) (by decide) rfl rfl) (nd_ne T.nd (i := 12) (j := 25) (by decide) rfl rfl)
  | _ + 9, h => by omega
theorem kit_InvalidThing {K : PySem.W.Frag} {mg : Str → Option Value} (T : Txt K mg) : ∀ w, w < 9 → PySem.W.kitOne K (.ref (cl T w)) (.ref T.C_InvalidThing) = some (decide ((15 : Int) = (w : Int)))
  | 0, _ => kit_other T.o_InvalidGame T.o_InvalidThing (nd_ne T.nd (i := 17) (j := 2) (by decide) rfl rfl) (nd_ne T.nd (i := 17) (j := 25) (by decide) rfl rfl)
  | 1, _ => kit_other T.o_InvalidRule T.o_InvalidThing (nd_ne T.nd (i := 17) (j := 13) (by decide) rfl rfl) (nd_ne T.nd (i := 17) (j := 25) (by decide) rfl rfl)
  | 2, _ => kit_other T.o_InvalidLot T.o_InvalidThing (nd_ne T.nd (i := 17) (j := 4) (by decide) rfl rfl) (nd_ne T.nd (i := 17) (j := 25) (by decide) rfl rfl)
  | 3, _ => kit_other T.o_InvalidPays T.o_InvalidThing (nd_ne T.nd (i := 17) (j := 9) (by decide) rfl rfl) (nd_ne T.nd (i := 17) (j := 25) (by decide) rfl rfl)
  | 4, _ => kit_other T.o_InvalidPrizes T.o_InvalidThing (nd_ne T.nd (i := 17) (j := 10) (by decide) rfl rfl) (nd_ne T.nd (i := 17) (j := 25) (by decide) rfl rfl)
  | 5, _ => kit_other T.o_InvalidSource T.o_InvalidThing (nd_ne T.nd (i := 17) (j := 15) (by decide) rfl rfl) (nd_ne T.nd (i := 17) (j := 25) (by decide) rfl rfl)
  | 6, _ => kit_other T.o_InvalidWord T.o_InvalidThing (nd_ne T.nd (i := 17) (j := 18) (by decide) rfl rfl) (nd_ne T.nd (i := 17) (j := 25) (by decide) rfl rfl)
  | 7, _ => kit_other T.o_NotEnding T.o_InvalidThing (nd_ne T.nd (i := 17) (j := 22) (by decide) rfl rfl) (nd_ne T.nd (i := 17) (j := 25) (by decide) rfl rfl)
  | 8, _ => kit_other T.o_NotSolo T.o_InvalidThing (nd_ne T.nd (i := 17) (j := 23) (by decide) rfl rfl) (nd_ne T.nd (i := 17) (j := 25) (by decide) rfl rfl)
  | _ + 9, h => by omega
theorem kit_InvalidPair {K : PySem.W.Frag} {mg : Str → Option Value} (T : Txt K mg) : ∀ w, w < 9 → PySem.W.kitOne K (.ref (cl T w)) (.ref T.C_InvalidPair) = some (decide ((16 : Int) = (w : Int)))
  | 0, _ => kit_other T.o_InvalidGame T.o_InvalidPair (nd_ne T.nd (i := 8) (j := 2) (by decide) rfl rfl) (nd_ne T.nd (i := 8) (j := 25) (by decide) rfl rfl)
  | 1, _ => kit_other T.o_InvalidRule T.o_InvalidPair (nd_ne T.nd (i := 8) (j := 13) (by decide) rfl rfl) (nd_ne T.nd (i := 8) (j := 25) (by decide) rfl rfl)
  | 2, _ => kit_other T.o_InvalidLot T.o_InvalidPair (nd_ne T.nd (i := 8) (j := 4) (by decide) rfl rfl) (nd_ne T.nd (i := 8) (j := 25) (by decide) rfl rfl)
  | 3, _ => kit_other T.o_InvalidPays T.o_InvalidPair (nd_ne T.nd (i := 8) (j := 9) (by decide) rfl rfl) (nd_ne T.nd (i := 8) (j := 25) (by decide) rfl rfl)
  | 4, _ => kit_other T.o_InvalidPrizes T.o_InvalidPair (nd_ne T.nd (i := 8) (j := 10) (by decide) rfl rfl) (nd_ne T.nd (i := 8) (j := 25) (by decide) rfl rfl)
  | 5, _ => kit_other T.o_InvalidSource T.o_InvalidPair (nd_ne T.nd (i := 8) (j := 15) (by decide) rfl rfl) (nd_ne T.nd (i := 8) (j := 25) (by decide) rfl rfl)
  | 6, _ => kit_other T.o_InvalidWord T.o_InvalidPair (nd_ne T.nd (i := 8) (j := 18) (by decide) rfl rfl) (nd_ne T.nd (i := 8) (j := 25) (by decide) rfl rfl)
  | 7, _ => kit_other T.o_NotEnding T.o_InvalidPair (nd_ne T.nd (i := 8) (j := 22) (by decide) rfl rfl) (nd_ne T.nd (i := 8) (j := 25) (by decide) rfl rfl)
  | 8, _ => kit_other T.o_NotSolo T.o_InvalidPair (nd_ne T.nd (i := 8) (j := 23) (by decide) rfl rfl) (nd_ne T.nd (i := 8) (j := 25) (by decide) rfl rfl)
  | _ + 9, h => by omega
theorem kit_NeverEnds {K : PySem.W.Frag} {mg : Str → Option Value} (T : Txt K mg) : ∀ w, w < 9 → PySem.W.kitOne K (.ref (cl T w)) (.ref T.C_NeverEnds) = some (decide ((17 : Int) = (w : Int)))
  | 0, _ => kit_other T.o_InvalidGame T.o_NeverEnds (nd_ne T.nd (i := 19) (j := 2) (by decide) rfl rfl) (nd_ne T.nd (i := 19) (j := 25) (by decide) rfl rfl)
  | 1, _ => kit_other T.o_InvalidRule T.o_NeverEnds (nd_ne T.nd (i := 19) (j := 13) (by decide) rfl rfl) (nd_ne T.nd (i := 19) (j := 25) (by decide) rfl rfl)
  | 2, _ => kit_other T.o_InvalidLot T.o_NeverEnds (nd_ne T.nd (i := 19) (j := 4) (by decide) rfl rfl) (nd_ne T.nd (i := 19) (j := 25) (by decide) rfl rfl)
  | 3, _ => kit_other T.o_InvalidPays T.o_NeverEnds (nd_ne T.nd (i := 19) (j := 9) (by decide) rfl rfl) (nd_ne T.nd (i := 19) (j := 25) (by decide) rfl rfl)
  | 4, _ => kit_other T.o_InvalidPrizes T.o_NeverEnds (nd_ne T.nd (i := 19) (j := 10) (by decide) rfl rfl) (nd_ne T.nd (i := 19) (j := 25) (by decide) rfl rfl)
  | 5, _ => kit_other T.o_InvalidSource T.o_NeverEnds (nd_ne T.nd (i := 19) (j := 15) (by decide) rfl rfl) (nd_ne T.nd (i := 19) (j := 25) (by decide) rfl rfl)
  | 6, _ => kit_other T.o_InvalidWord T.o_NeverEnds (nd_ne T.nd (i := 19) (j := 18) (by decide) rfl rfl) (nd_ne T.nd (i := 19) (j := 25) (by decide) rfl rfl)
  | 7, _ => kit_other T.o_NotEnding T.o_NeverEnds (nd_ne T.nd (i := 19) (j := 22) (by decide) rfl rfl) (nd_ne T.nd (i := 19) (j := 25) (by decide) rfl rfl)
  | 8, _ => kit_other T.o_NotSolo T.o_NeverEnds (nd_ne T.nd (i := 19) (j := 23) (by decide) rfl rfl) (nd_ne T.nd (i := 19) (j := 25) (by decide) rfl rfl)
  | _ + 9, h => by omega
theorem kit_NotDrawn {K : PySem.W.Frag} {mg : Str → Option Value} (T : Txt K mg) : ∀ w, w < 9 → PySem.W.kitOne K (.ref (cl T w)) (.ref T.C_NotDrawn) = some (decide ((18 : Int) = (w : Int)))
  | 0, _ => kit_other T.o_InvalidGame T.o_NotDrawn (nd_ne T.nd (i := 21) (j := 2) (by decide) rfl rfl) (nd_ne T.nd (i := 21) (j := 25) (by decide) rfl rfl)
  | 1, _ => kit_other T.o_InvalidRule T.o_NotDrawn (nd_ne T.nd (i := 21) (j := 13) (by decide) rfl rfl) (nd_ne T.nd (i := 21) (j := 25) (by decide) rfl rfl)
  | 2, _ => kit_other T.o_InvalidLot T.o_NotDrawn (nd_ne T.nd (i := 21) (j := 4) (by decide) rfl rfl) (nd_ne T.nd (i := 21) (j := 25) (by decide) rfl rfl)
  | 3, _ => kit_other T.o_InvalidPays T.o_NotDrawn (nd_ne T.nd (i := 21) (j := 9) (by decide) rfl rfl) (nd_ne T.nd (i := 21) (j := 25) (by decide) rfl rfl)
  | 4, _ => kit_other T.o_InvalidPrizes T.o_NotDrawn (nd_ne T.nd (i := 21) (j := 10) (by decide) rfl rfl) (nd_ne T.nd (i := 21) (j := 25) (by decide) rfl rfl)
  | 5, _ => kit_other T.o_InvalidSource T.o_NotDrawn (nd_ne T.nd (i := 21) (j := 15) (by decide) rfl rfl) (nd_ne T.nd (i := 21) (j := 25) (by decide) rfl rfl)
  | 6, _ => kit_other T.o_InvalidWord T.o_NotDrawn (nd_ne T.nd (i := 21) (j := 18) (by decide) rfl rfl) (nd_ne T.nd (i := 21) (j := 25) (by decide) rfl rfl)
  | 7, _ => kit_other T.o_NotEnding T.o_NotDrawn (nd_ne T.nd (i := 21) (j := 22) (by decide) rfl rfl) (nd_ne T.nd (i := 21) (j := 25) (by decide) rfl rfl)
  | 8, _ => kit_other T.o_NotSolo T.o_NotDrawn (nd_ne T.nd (i := 21) (j := 23) (by decide) rfl rfl) (nd_ne T.nd (i := 21) (j := 25) (by decide) rfl rfl)
  | _ + 9, h => by omega
theorem kit_InvalidDice {K : PySem.W.Frag} {mg : Str → Option Value} (T : Txt K mg) : ∀ w, w < 9 → PySem.W.kitOne K (.ref (cl T w)) (.ref T.C_InvalidDice) = some (decide ((19 : Int) = (w : Int)))
  | 0, _ => kit_other T.o_InvalidGame T.o_InvalidDice (nd_ne T.nd (i := 0) (j := 2) (by decide) rfl rfl) (nd_ne T.nd (i := 0) (j := 25) (by decide) rfl rfl)
  | 1, _ => kit_other T.o_InvalidRule T.o_InvalidDice (nd_ne T.nd (i := 0) (j := 13) (by decide) rfl rfl) (nd_ne T.nd (i := 0) (j := 25) (by decide) rfl rfl)
  | 2, _ => kit_other T.o_InvalidLot T.o_InvalidDice (nd_ne T.nd (i := 0) (j := 4) (by decide) rfl rfl) (nd_ne T.nd (i := 0) (j := 25) (by decide) rfl rfl)
  | 3, _ => kit_other T.o_InvalidPays T.o_InvalidDice (nd_ne T.nd (i := 0) (j := 9) (by decide) rfl rfl) (nd_ne T.nd (i := 0) (j := 25) (by decide) rfl rfl)
  | 4, _ => kit_other T.o_InvalidPrizes T.o_InvalidDice (nd_ne T.nd (i := 0) (j := 10) (by decide) rfl rfl) (nd_ne T.nd (i := 0) (j := 25) (by decide) rfl rfl)
  | 5, _ => kit_other T.o_InvalidSource T.o_InvalidDice (nd_ne T.nd (i := 0) (j := 15) (by decide) rfl rfl) (nd_ne T.nd (i := 0) (j := 25) (by decide) rfl rfl)
  | 6, _ => kit_other T.o_InvalidWord T.o_InvalidDice (nd_ne T.nd (i := 0) (j := 18) (by decide) rfl rfl) (nd_ne T.nd (i := 0) (j := 25) (by decide) rfl rfl)
  | 7, _ => kit_other T.o_NotEnding T.o_InvalidDice (nd_ne T.nd (i := 0) (j := 22) (by decide) rfl rfl) (nd_ne T.nd (i := 0) (j := 25) (by decide) rfl rfl)
  | 8, _ => kit_other T.o_NotSolo T.o_InvalidDice (nd_ne T.nd (i := 0) (j := 23) (by decide) rfl rfl) (nd_ne T.nd (i := 0) (j := 25) (by decide) rfl rfl)
  | _ + 9, h => by omega
theorem kit_InvalidTable {K : PySem.W.Frag} {mg : Str → Option Value} (T : Txt K mg) : ∀ w, w < 9 → PySem.W.kitOne K (.ref (cl T w)) (.ref T.C_InvalidTable) = some (decide ((20 : Int) = (w : Int)))
  | 0, _ => kit_other T.o_InvalidGame T.o_InvalidTable (nd_ne T.nd (i := 16) (j := 2) (by decide) rfl rfl) (nd_ne T.nd (i := 16) (j := 25) (by decide) rfl rfl)
  | 1, _ => kit_other T.o_InvalidRule T.o_InvalidTable (nd_ne T.nd (i := 16) (j := 13) (by decide) rfl rfl) (nd_ne T.nd (i := 16) (j := 25) (by decide) rfl rfl)
  | 2, _ => kit_other T.o_InvalidLot T.o_InvalidTable (nd_ne T.nd (i := 16) (j := 4) (by decide) rfl rfl) (nd_ne T.nd (i := 16) (j := 25) (by decide) rfl rfl)
  | 3, _ => kit_other T.o_InvalidPays T.o_InvalidTable (nd_ne T.nd (i := 16) (j := 9) (by decide) rfl rfl) (nd_ne T.nd (i := 16) (j := 25) (by decide) rfl rfl)
  | 4, _ => kit_other T.o_InvalidPrizes T.o_InvalidTable (nd_ne T.nd (i := 16) (j := 10) (by decide) rfl rfl) (nd_ne T.nd (i := 16) (j := 25) (by decide) rfl rfl)
  | 5, _ => kit_other T.o_InvalidSource T.o_InvalidTable (nd_ne T.nd (i := 16) (j := 15) (by decide) rfl rfl) (nd_ne T.nd (i := 16) (j := 25) (by decide) rfl rfl)
  | 6, _ => kit_other T.o_InvalidWord T.o_InvalidTable (nd_ne T.nd (i := 16) (j := 18) (by decide) rfl rfl) (nd_ne T.nd (i := 16) (j := 25) (by decide) rfl rfl)
  | 7, _ => kit_other T.o_NotEnding T.o_InvalidTable (nd_ne T.nd (i := 16) (j := 22) (by decide) rfl rfl) (nd_ne T.nd (i := 16) (j := 25) (by decide) rfl rfl)
  | 8, _ => kit_other T.o_NotSolo T.o_InvalidTable (nd_ne T.nd (i := 16) (j := 23) (by decide) rfl rfl) (nd_ne T.nd (i := 16) (j := 25) (by decide) rfl rfl)
  | _ + 9, h => by omega
theorem kit_InvalidReader {K : PySem.W.Frag} {mg : Str → Option Value} (T : Txt K mg) : ∀ w, w < 9 → PySem.W.kitOne K (.ref (cl T w)) (.ref T.C_InvalidReader) = some (decide ((21 : Int) = (w : Int)))
  | 0, _ => kit_other T.o_InvalidGame T.o_InvalidReader (nd_ne T.nd (i := 11) (j := 2) (by decide) rfl rfl) (nd_ne T.nd (i := 11) (j := 25) (by decide) rfl rfl)
  | 1, _ => kit_other T.o_InvalidRule T.o_InvalidReader (nd_ne T.nd (i := 11) (j := 13) (by decide) rfl rfl) (nd_ne T.nd (i := 11) (j := 25) (by decide) rfl rfl)
  | 2, _ => kit_other T.o_InvalidLot T.o_InvalidReader (nd_ne T.nd (i := 11) (j := 4) (by decide) rfl rfl) (nd_ne T.nd (i := 11) (j := 25) (by decide) rfl rfl)
  | 3, _ => kit_other T.o_InvalidPays T.o_InvalidReader (nd_ne T.nd (i := 11) (j := 9) (by decide) rfl rfl) (nd_ne T.nd (i := 11) (j := 25) (by decide) rfl rfl)
  | 4, _ => kit_other T.o_InvalidPrizes T.o_InvalidReader (nd_ne T.nd (i := 11) (j := 10) (by decide) rfl rfl) (nd_ne T.nd (i := 11) (j := 25) (by decide) rfl rfl)
  | 5, _ => kit_other T.o_InvalidSource T.o_InvalidReader (nd_ne T.nd (i := 11) (j := 15) (by decide) rfl rfl) (nd_ne T.nd (i := 11) (j := 25) (by decide) rfl rfl)
  | 6, _ => kit_other T.o_InvalidWord T.o_InvalidReader (nd_ne T.nd (i := 11) (j := 18) (by decide) rfl rfl) (nd_ne T.nd (i := 11) (j := 25) (by decide) rfl rfl)
  | 7, _ => kit_other T.o_NotEnding T.o_InvalidReader (nd_ne T.nd (i := 11) (j := 22) (by decide) rfl rfl) (nd_ne T.nd (i := 11) (j := 25) (by decide) rfl rfl)
  | 8, _ => kit_other T.o_NotSolo T.o_InvalidReader (nd_ne T.nd (i := 11) (j := 23) (by decide) rfl rfl) (nd_ne T.nd (i := 11) (j := 25) (by decide) rfl rfl)
  | _ + 9, h => by omega
theorem kit_NoTable {K : PySem.W.Frag} {mg : Str → Option Value} (T : Txt K mg) : ∀ w, w < 9 → PySem.W.kitOne K (.ref (cl T w)) (.ref T.C_NoTable) = some (decide ((22 : Int) = (w : Int)))
  | 0, _ => kit_other T.o_InvalidGame T.o_NoTable (nd_ne T.nd (i := 20) (j := 2) (by decide) rfl rfl) (nd_ne T.nd (i := 20) (j := 25) (by decide) rfl rfl)
  | 1, _ => kit_other T.o_InvalidRule T.o_NoTable (nd_ne T.nd (i := 20) (j := 13) (by decide) rfl rfl) (nd_ne T.nd (i := 20) (j := 25) (by decide) rfl rfl)
  | 2, _ => kit_other T.o_InvalidLot T.o_NoTable (nd_ne T.nd (i := 20) (j := 4) (by decide) rfl rfl) (nd_ne T.nd (i := 20) (j := 25) (by decide) rfl rfl)
  | 3, _ => kit_other T.o_InvalidPays T.o_NoTable (nd_ne T.nd (i := 20) (j := 9) (by decide) rfl rfl) (nd_ne T.nd (i := 20) (j := 25) (by decide) rfl rfl)
  | 4, _ => kit_other T.o_InvalidPrizes T.o_NoTable (nd_ne T.nd (i := 20) (j := 10) (by decide) rfl rfl) (nd_ne T.nd (i := 20) (j := 25) (by decide) rfl rfl)
  | 5, _ => kit_other T.o_InvalidSource T.o_NoTable (nd_ne T.nd (i := 20) (j := 15) (by decide) rfl rfl) (nd_ne T.nd (i := 20) (j := 25) (by decide) rfl rfl)
  | 6, _ => kit_other T.o_InvalidWord T.o_NoTable (nd_ne T.nd (i := 20) (j := 18) (by decide) rfl rfl) (nd_ne T.nd (i := 20) (j := 25) (by decide) rfl rfl)
  | 7, _ => kit_other T.o_NotEnding T.o_NoTable (nd_ne T.nd (i := 20) (j := 22) (by decide) rfl rfl) (nd_ne T.nd (i := 20) (j := 25) (by decide) rfl rfl)
  | 8, _ => kit_other T.o_NotSolo T.o_NoTable (nd_ne T.nd (i := 20) (j := 23) (by decide) rfl rfl) (nd_ne T.nd (i := 20) (j := 25) (by decide) rfl rfl)
  | _ + 9, h => by omega
theorem kit_InvalidName {K : PySem.W.Frag} {mg : Str → Option Value} (T : Txt K mg) : ∀ w, w < 9 → PySem.W.kitOne K (.ref (cl T w)) (.ref T.C_InvalidName) = some (decide ((23 : Int) = (w : Int)))
  | 0, _ => kit_other T.o_InvalidGame T.o_InvalidName (nd_ne T.nd (i := 6) (j := 2) (by decide) rfl rfl) (nd_ne T.nd (i := 6) (j := 25) (by decide) rfl rfl)
  | 1, _ => kit_other T.o_InvalidRule T.o_InvalidName (nd_ne T.nd (i := 6) (j := 13) (by decide) rfl rfl) (nd_ne T.nd (i := 6) (j := 25) (by decide) rfl rfl)
  | 2, _ => kit_other T.o_InvalidLot T.o_InvalidName (nd_ne T.nd (i := 6) (j := 4) (by decide) rfl rfl) (nd_ne T.nd (i := 6) (j := 25) (by decide) rfl rfl)
  | 3, _ => kit_other T.o_InvalidPays T.o_InvalidName (nd_ne T.nd (i := 6) (j := 9) (by decide) rfl rfl) (nd_ne T.nd (i := 6) (j := 25) (by decide) rfl rfl)
  | 4, _ => kit_other T.o_InvalidPrizes T.o_InvalidName (nd_ne T.nd (i := 6) (j := 10) (by decide) rfl rfl) (nd_ne T.nd (i := 6) (j := 25) (by decide) rfl rfl)
  | 5, _ => kit_other T.o_InvalidSource T.o_InvalidName (nd_ne T.nd (i := 6) (j := 15) (by decide) rfl rfl) (nd_ne T.nd (i := 6) (j := 25) (by decide) rfl rfl)
  | 6, _ => kit_other T.o_InvalidWord T.o_InvalidName (nd_ne T.nd (i := 6) (j := 18) (by decide) rfl rfl) (nd_ne T.nd (i := 6) (j := 25) (by decide) rfl rfl)
  | 7, _ => kit_other T.o_NotEnding T.o_InvalidName (nd_ne T.nd (i := 6) (j := 22) (by decide) rfl rfl) (nd_ne T.nd (i := 6) (j := 25) (by decide) rfl rfl)
  | 8, _ => kit_other T.o_NotSolo T.o_InvalidName (nd_ne T.nd (i := 6) (j := 23) (by decide) rfl rfl) (nd_ne T.nd (i := 6) (j := 25) (by decide) rfl rfl)
  | _ + 9, h => by omega
theorem kit_UnknownName {K : PySem.W.Frag} {mg : Str → Option Value} (T : Txt K mg) : ∀ w, w < 9 → PySem.W.kitOne K (.ref (cl T w)) (.ref T.C_UnknownName) = some (decide ((24 : Int) = (w : Int)))
  | 0, _ => kit_other T.o_InvalidGame T.o_UnknownName (nd_ne T.nd (i := 26) (j := 2) (by decide) rfl rfl) (nd_ne T.nd (i := 26) (j := 25) (by decide) rfl rfl)
  | 1, _ => kit_other T.o_InvalidRule T.o_UnknownName (nd_ne T.nd (i := 26) (j := 13) (by decide) rfl rfl) (nd_ne T.nd (i := 26) (j := 25) (by decide) rfl rfl)
  | 2, _ => kit_other T.o_InvalidLot T.o_UnknownName (nd_ne T.nd (i := 26) (j := 4) (by decide) rfl rfl) (nd_ne T.nd (i := 26) (j := 25) (by decide) rfl rfl)
  | 3, _ => kit_other T.o_InvalidPays T.o_UnknownName (nd_ne T.nd (i := 26) (j := 9) (by decide) rfl rfl) (nd_ne T.nd (i := 26) (j := 25) (by decide) rfl rfl)
  | 4, _ => kit_other T.o_InvalidPrizes T.o_UnknownName (nd_ne T.nd (i := 26) (j := 10) (by decide) rfl rfl) (nd_ne T.nd (i := 26) (j := 25) (by decide) rfl rfl)
  | 5, _ => kit_other T.o_InvalidSource T.o_UnknownName (nd_ne T.nd (i := 26) (j := 15) (by decide) rfl rfl) (nd_ne T.nd (i := 26) (j := 25) (by decide) rfl rfl)
  | 6, _ => kit_other T.o_InvalidWord T.o_UnknownName (nd_ne T.nd (i := 26) (j := 18) (by decide) rfl rfl) (nd_ne T.nd (i := 26) (j := 25) (by decide) rfl rfl)
  | 7, _ => kit_other T.o_NotEnding T.o_UnknownName (nd_ne T.nd (i := 26) (j := 22) (by decide) rfl rfl) (nd_ne T.nd (i := 26) (j := 25) (by decide) rfl rfl)
  | 8, _ => kit_other T.o_NotSolo T.o_UnknownName (nd_ne T.nd (i := 26) (j := 23) (by decide) rfl rfl) (nd_ne T.nd (i := 26) (j := 25) (by decide) rfl rfl)
  | _ + 9, h => by omega
theorem kit_NothingToUndo {K : PySem.W.Frag} {mg : Str → Option Value} (T : Txt K mg) : ∀ w, w < 9 → PySem.W.kitOne K (.ref (cl T w)) (.ref T.C_NothingToUndo) = some (decide ((25 : Int) = (w : Int)))
  | 0, _ => kit_other T.o_InvalidGame T.o_NothingToUndo (nd_ne T.nd (i := 24) (j := 2) (by decide) rfl rfl) (nd_ne T.nd (i := 24) (j := 25) (by decide) rfl rfl)
  | 1, _ => kit_other T.o_InvalidRule T.o_NothingToUndo (nd_ne T.nd (i := 24) (j := 13) (by decide) rfl rfl) (nd_ne T.nd (i := 24) (j := 25) (by decide) rfl rfl)
  | 2, _ => kit_other T.o_InvalidLot T.o_NothingToUndo (nd_ne T.nd (i := 24) (j := 4) (by decide) rfl rfl) (nd_ne T.nd (i := 24) (j := 25) (by decide) rfl rfl)
  | 3, _ => kit_other T.o_InvalidPays T.o_NothingToUndo (nd_ne T.nd (i := 24) (j := 9) (by decide) rfl rfl) (nd_ne T.nd (i := 24) (j := 25) (by decide) rfl rfl)
  | 4, _ => kit_other T.o_InvalidPrizes T.o_NothingToUndo (nd_ne T.nd (i := 24) (j := 10) (by decide) rfl rfl) (nd_ne T.nd (i := 24) (j := 25) (by decide) rfl rfl)
  | 5, _ => kit_other T.o_InvalidSource T.o_NothingToUndo (nd_ne T.nd (i := 24) (j := 15) (by decide) rfl rfl) (nd_ne T.nd (i := 24) (j := 25) (by decide) rfl rfl)
  | 6, _ => kit_other T.o_InvalidWord T.o_NothingToUndo (nd_ne T.nd (i := 24) (j := 18) (by decide) rfl rfl) (nd_ne T.nd (i := 24) (j := 25) (by decide) rfl rfl)
  | 7, _ => kit_other T.o_NotEnding T.o_NothingToUndo (nd_ne T.nd (i := 24) (j := 22) (by decide) rfl rfl) (nd_ne T.nd (i := 24) (j := 25) (by decide) rfl rfl)
  | 8, _ => kit_other T.o_NotSolo T.o_NothingToUndo (nd_ne T.nd (i := 24) (j := 23) (by decide) rfl rfl) (nd_ne T.nd (i := 24) (j := 25) (by decide) rfl rfl)
  | _ + 9, h => by omega
theorem kit_Unreadable {K : PySem.W.Frag} {mg : Str → Option Value} (T : Txt K mg) : ∀ w, w < 9 → PySem.W.kitOne K (.ref (cl T w)) (.ref T.C_Unreadable) = some (decide ((26 : Int) = (w : Int)))
  | 0, _ => kit_other T.o_InvalidGame T.o_Unreadable (nd_ne T.nd (i := 28) (j := 2) (by decide) rfl rfl) (nd_ne T.nd (i := 28) (j := 25) (by decide) rfl rfl)
  | 1, _ => kit_other T.o_InvalidRule T.o_Unreadable (nd_ne T.nd (i := 28) (j := 13) (by decide) rfl rfl) (nd_ne T.nd (i := 28) (j := 25) (by decide) rfl rfl)
  | 2, _ => kit_other T.o_InvalidLot T.o_Unreadable (nd_ne T.nd (i := 28) (j := 4) (by decide) rfl rfl) (nd_ne T.nd (i := 28) (j := 25) (by decide) rfl rfl)
  | 3, _ => kit_other T.o_InvalidPays T.o_Unreadable (nd_ne T.nd (i := 28) (j := 9) (by decide) rfl rfl) (nd_ne T.nd (i := 28) (j := 25) (by decide) rfl rfl)
  | 4, _ => kit_other T.o_InvalidPrizes T.o_Unreadable (nd_ne T.nd (i := 28) (j := 10) (by decide) rfl rfl) (nd_ne T.nd (i := 28) (j := 25) (by decide) rfl rfl)
  | 5, _ => kit_other T.o_InvalidSource T.o_Unreadable (nd_ne T.nd (i := 28) (j := 15) (by decide) rfl rfl) (nd_ne T.nd (i := 28) (j := 25) (by decide) rfl rfl)
  | 6, _ => kit_other T.o_InvalidWord T.o_Unreadable (nd_ne T.nd (i := 28) (j := 18) (by decide) rfl rfl) (nd_ne T.nd (i := 28) (j := 25) (by decide) rfl rfl)
  | 7, _ => kit_other T.o_NotEnding T.o_Unreadable (nd_ne T.nd (i := 28) (j := 22) (by decide) rfl rfl) (nd_ne T.nd (i := 28) (j := 25) (by decide) rfl rfl)
  | 8, _ => kit_other T.o_NotSolo T.o_Unreadable (nd_ne T.nd (i := 28) (j := 23) (by decide) rfl rfl) (nd_ne T.nd (i := 28) (j := 25) (by decide) rfl rfl)
  | _ + 9, h => by omega
theorem kit_Unorderly {K : PySem.W.Frag} {mg : Str → Option Value} (T : Txt K mg) : ∀ w, w < 9 → PySem.W.kitOne K (.ref (cl T w)) (.ref T.C_Unorderly) = some (decide ((27 : Int) = (w : Int)))
  | 0, _ => kit_other T.o_InvalidGame T.o_Unorderly (nd_ne T.nd (i := 27) (j := 2) (by decide) rfl rfl) (nd_ne T.nd (i := 27) (j := 25) (by decide) rfl rfl)
  | 1, _ => kit_other T.o_InvalidRule T.o_Unorderly (nd_ne T.nd (i := 27) (j := 13) (by decide) rfl rfl) (nd_ne T.nd (i := 27) (j := 25) (by decide) rfl rfl)
  | 2, _ => kit_other T.o_InvalidLot T.o_Unorderly (nd_ne T.nd (i := 27) (j := 4) (by decide) rfl rfl) (nd_ne T.nd (i := 27) (j := 25) (by decide) rfl rfl)
  | 3, _ => kit_other T.o_InvalidPays T.o_Unorderly (nd_ne T.nd (i := 27) (j := 9) (by decide) rfl rfl) (nd_ne T.nd (i := 27) (j := 25) (by decide) rfl rfl)
  | 4, _ => kit_other T.o_InvalidPrizes T.o_Unorderly (nd_ne T.nd (i := 27) (j := 10) (by decide) rfl rfl) (nd_ne T.nd (i := 27) (j := 25) (by decide) rfl rfl)
  | 5, _ => kit_other T.o_InvalidSource T.o_Unorderly (nd_ne T.nd (i := 27) (j := 15) (by decide) rfl rfl) (nd_ne T.nd (i := 27) (j := 25) (by decide) rfl rfl)
  | 6, _ => kit_other T.o_InvalidWord T.o_Unorderly (nd_ne T.nd (i := 27) (j := 18) (by decide) rfl rfl) (nd_ne T.nd (i := 27) (j := 25) (by decide) rfl rfl)
  | 7, _ => kit_other T.o_NotEnding T.o_Unorderly (nd_ne T.nd (i := 27) (j := 22) (by decide) rfl rfl) (nd_ne T.nd (i := 27) (j := 25) (by decide) rfl rfl)
  | 8, _ => kit_other T.o_NotSolo T.o_Unorderly (nd_ne T.nd (i := 27) (j := 23) (by decide) rfl rfl) (nd_ne T.nd (i := 27) (j := 25) (by decide) rfl rfl)
  | _ + 9, h => by omega
theorem ok_law_kinds {P : Program} {w : World} {K : PySem.W.Frag} {mg : Str → Option Value} {base : Heap} (T : Txt K mg) : FnOk P w K mg base (L2.CX P w) 1 T.a_law_kinds T.fd_law_kinds ["e"] (toSp K (sp_law_kinds (cl T))) := by
  refine fnD T.F_law_kinds sc_law_kinds (fun ds S Q E h => ?_) (fun cdv A outer s H E RX hr => ⟨_, (pds_cons (pd_set 1 sc_law_kinds.nd (pd_lst (pda_cons (pd_blt cd_isX T.b_isinstance (by decide +kernel) (pda_cons (pd_var 0) (pda_cons (pd_glob (v := .ref T.C_InvalidGame) (d := .ref T.C_InvalidGame) T.m_InvalidGame rfl (fun _ => rfl)) pda_nil))) (pda_cons (pd_blt cd_isX T.b_isinstance (by decide +kernel) (pda_cons (pd_var 0) (pda_cons (pd_glob (v := .ref T.C_InvalidRule) (d := .ref T.C_InvalidRule) T.m_InvalidRule rfl (fun _ => rfl)) pda_nil))) (pda_cons (pd_blt cd_isX T.b_isinstance (by decide +kernel) (pda_cons (pd_var 0) (pda_cons (pd_glob (v := .ref T.C_InvalidLot) (d := .ref T.C_InvalidLot) T.m_InvalidLot rfl (fun _ => rfl)) pda_nil))) pda_nil)))))
    (pds_cons (pd_set 1 sc_law_kinds.nd (pd_bin od_add (pd_var 1) (pd_lst (pda_cons (pd_blt cd_isX T.b_isinstance (by decide +kernel) (pda_cons (pd_var 0) (pda_cons (pd_glob (v := .ref T.C_InvalidPays) (d := .ref T.C_InvalidPays) T.m_InvalidPays rfl (fun _ => rfl)) pda_nil))) (pda_cons (pd_blt cd_isX T.b_isinstance (by decide +kernel) (pda_cons (pd_var 0) (pda_cons (pd_glob (v := .ref T.C_InvalidPrizes) (d := .ref T.C_InvalidPrizes) T.m_InvalidPrizes rfl (fun _ => rfl)) pda_nil))) (pda_cons (pd_blt cd_isX T.b_isinstance (by decide +kernel) (pda_cons (pd_var 0) (pda_cons (pd_glob (v := .ref T.C_InvalidSource) (d := .ref T.C_InvalidSource) T.m_InvalidSource rfl (fun _ => rfl)) pda_nil))) pda_nil))))))
    (pds_cons (pd_set 1 sc_law_kinds.nd (pd_bin od_add (pd_var 1) (pd_lst (pda_cons (pd_blt cd_isX T.b_isinstance (by decide +kernel) (pda_cons (pd_var 0) (pda_cons (pd_glob (v := .ref T.C_InvalidWord) (d := .ref T.C_InvalidWord) T.m_InvalidWord rfl (fun _ => rfl)) pda_nil))) (pda_cons (pd_blt cd_isX T.b_isinstance (by decide +kernel) (pda_cons (pd_var 0) (pda_cons (pd_glob (v := .ref T.C_NotEnding) (d := .ref T.C_NotEnding) T.m_NotEnding rfl (fun _ => rfl)) pda_nil))) (pda_cons (pd_blt cd_isX T.b_isinstance (by decide +kernel) (pda_cons (pd_var 0) (pda_cons (pd_glob (v := .ref T.C_NotSolo) (d := .ref T.C_NotSolo) T.m_NotSolo rfl (fun _ => rfl)) pda_nil))) pda_nil))))))
    (pds_cons (pd_set 1 sc_law_kinds.nd (pd_bin od_add (pd_var 1) (pd_lst (pda_cons (pd_blt cd_isX T.b_isinstance (by decide +kernel) (pda_cons (pd_var 0) (pda_cons (pd_glob (v := .ref T.C_InvalidNumber) (d := .ref T.C_InvalidNumber) T.m_InvalidNumber rfl (fun _ => rfl)) pda_nil))) (pda_cons (pd_blt cd_isX T.b_isinstance (by decide +kernel) (pda_cons (pd_var 0) (pda_cons (pd_glob (v := .ref T.C_InvalidShares) (d := .ref T.C_InvalidShares) T.m_InvalidShares rfl (fun _ => rfl)) pda_nil))) (pda_cons (pd_blt cd_isX T.b_isinstance (by decide +kernel) (pda_cons (pd_var 0) (pda_cons (pd_glob (v := .ref T.C_InvalidFigures) (d := .ref T.C_InvalidFigures) T.m_InvalidFigures rfl (fun _ => rfl)) pda_nil))) pda_nil))))))
    (pds_cons (pd_set 1 sc_law_kinds.nd (pd_bin od_add (pd_var 1) (pd_lst (pda_cons (pd_blt cd_isX T.b_isinstance (by decide +kernel) (pda_cons (pd_var 0) (pda_cons (pd_glob (v := .ref T.C_InvalidLeaves) (d := .ref T.C_InvalidLeaves) T.m_InvalidLeaves rfl (fun _ => rfl)) pda_nil))) (pda_cons (pd_blt cd_isX T.b_isinstance (by decide +kernel) (pda_cons (pd_var 0) (pda_cons (pd_glob (v := .ref T.C_InvalidMachine) (d := .ref T.C_InvalidMachine) T.m_InvalidMachine rfl (fun _ => rfl)) pda_nil))) (pda_cons (pd_blt cd_isX T.b_isinstance (by decide +kernel) (pda_cons (pd_var 0) (pda_cons (pd_glob (v := .ref T.C_InvalidRow) (d := .ref T.C_InvalidRow) T.m_InvalidRow rfl (fun _ => rfl)) pda_nil))) pda_nil))))))
    (pds_cons (pd_set 1 sc_law_kinds.nd (pd_bin od_add (pd_var 1) (pd_lst (pda_cons (pd_blt cd_isX T.b_isinstance (by decide +kernel) (pda_cons (pd_var 0) (pda_cons (pd_glob (v := .ref T.C_InvalidThing) (d := .ref T.C_InvalidThing) T.m_InvalidThing rfl (fun _ => rfl)) pda_nil))) (pda_cons (pd_blt cd_isX T.b_isinstance (by decide +kernel) (pda_cons (pd_var 0) (pda_cons (pd_glob (v := .ref T.C_InvalidPair) (d := .ref T.C_InvalidPair) T.m_InvalidPair rfl (fun _ => rfl)) pda_nil))) (pda_cons (pd_blt cd_isX T.b_isinstance (by decide +kernel) (pda_cons (pd_var 0) (pda_cons (pd_glob (v := .ref T.C_NeverEnds) (d := .ref T.C_NeverEnds) T.m_NeverEnds rfl (fun _ => rfl)) pda_nil))) pda_nil))))))
    (pds_cons (pd_set 1 sc_law_kinds.nd (pd_bin od_add (pd_var 1) (pd_lst (pda_cons (pd_blt cd_isX T.b_isinstance (by decide +kernel) (pda_cons (pd_var 0) (pda_cons (pd_glob (v := .ref T.C_NotDrawn) (d := .ref T.C_NotDrawn) T.m_NotDrawn rfl (fun _ => rfl)) pda_nil))) (pda_cons (pd_blt cd_isX T.b_isinstance (by decide +kernel) (pda_cons (pd_var 0) (pda_cons (pd_glob (v := .ref T.C_InvalidDice) (d := .ref T.C_InvalidDice) T.m_InvalidDice rfl (fun _ => rfl)) pda_nil))) (pda_cons (pd_blt cd_isX T.b_isinstance (by decide +kernel) (pda_cons (pd_var 0) (pda_cons (pd_glob (v := .ref T.C_InvalidTable) (d := .ref T.C_InvalidTable) T.m_InvalidTable rfl (fun _ => rfl)) pda_nil))) pda_nil))))))
    (pds_cons (pd_set 1 sc_law_kinds.nd (pd_bin od_add (pd_var 1) (pd_lst (pda_cons (pd_blt cd_isX T.b_isinstance (by decide +kernel) (pda_cons (pd_var 0) (pda_cons (pd_glob (v := .ref T.C_InvalidReader) (d := .ref T.C_InvalidReader) T.m_InvalidReader rfl (fun _ => rfl)) pda_nil))) (pda_cons (pd_blt cd_isX T.b_isinstance (by decide +kernel) (pda_cons (pd_var 0) (pda_cons (pd_glob (v := .ref T.C_NoTable) (d := .ref T.C_NoTable) T.m_NoTable rfl (fun _ => rfl)) pda_nil))) (pda_cons (pd_blt cd_isX T.b_isinstance (by decide +kernel) (pda_cons (pd_var 0) (pda_cons (pd_glob (v := .ref T.C_InvalidName) (d := .ref T.C_InvalidName) T.m_InvalidName rfl (fun _ => rfl)) pda_nil))) pda_nil))))))
    (pds_cons (pd_set 1 sc_law_kinds.nd (pd_bin od_add (pd_var 1) (pd_lst (pda_cons (pd_blt cd_isX T.b_isinstance (by decide +kernel) (pda_cons (pd_var 0) (pda_cons (pd_glob (v := .ref T.C_UnknownName) (d := .ref T.C_UnknownName) T.m_UnknownName rfl (fun _ => rfl)) pda_nil))) (pda_cons (pd_blt cd_isX T.b_isinstance (by decide +kernel) (pda_cons (pd_var 0) (pda_cons (pd_glob (v := .ref T.C_NothingToUndo) (d := .ref T.C_NothingToUndo) T.m_NothingToUndo rfl (fun _ => rfl)) pda_nil))) (pda_cons (pd_blt cd_isX T.b_isinstance (by decide +kernel) (pda_cons (pd_var 0) (pda_cons (pd_glob (v := .ref T.C_Unreadable) (d := .ref T.C_Unreadable) T.m_Unreadable rfl (fun _ => rfl)) pda_nil))) pda_nil))))))
    (pds_one (pd_ret (pd_bin od_add (pd_var 1) (pd_lst (pda_cons (pd_blt cd_isX T.b_isinstance (by decide +kernel) (pda_cons (pd_var 0) (pda_cons (pd_glob (v := .ref T.C_Unorderly) (d := .ref T.C_Unorderly) T.m_Unorderly rfl (fun _ => rfl)) pda_nil))) pda_nil)))))))))))))), fun ds S Q h => ?_⟩)
  · obtain ⟨_, _, rfl, _⟩ := h
    rfl
  · obtain ⟨w, d, rfl, hw, h⟩ := h
    have hE := exn_cl T w
    walk_at "w"
    refine ⟨hE, _, kit_InvalidGame T w hw, ?_⟩
    walk_at "w"
    refine ⟨hE, _, kit_InvalidRule T w hw, ?_⟩
    walk_at "w"
    refine ⟨hE, _, kit_InvalidLot T w hw, ?_⟩
    walk_at "w"
    generalize hl0 : [D.bl (decide ((0 : Int) = (w : Int))), D.bl (decide ((1 : Int) = (w : Int))), D.bl (decide ((2 : Int) = (w : Int)))] = l0
    have z0 : l0.length = 3 := by rw [← hl0]; rfl
    intro p hp
    have e0 : DL.sup S p (.lst l0) p = some (.lst l0) := sup_same
    have x0 : Ext S (DL.sup S p (.lst l0)) := Ext.new hp _
    walk_at "w"
    refine ⟨hE, _, kit_InvalidPays T w hw, ?_⟩
    walk_at "w"
    refine ⟨hE, _, kit_InvalidPrizes T w hw, ?_⟩
    walk_at "w"
    refine ⟨hE, _, kit_InvalidSource T w hw, ?_⟩
    walk_at "w"
    generalize hn1 : [D.bl (decide ((3 : Int) = (w : Int))), D.bl (decide ((4 : Int) = (w : Int))), D.bl (decide ((5 : Int) = (w : Int)))] = n1
    have y10 : n1.length = 3 := by rw [← hn1]; rfl
    intro q1 hq1
    have y1 := Ext.new hq1 (.lst n1)
    walk_at "w"
    refine ⟨l0, n1, y1 _ _ sup_same, sup_same, by show l0.length + n1.length ≤ 16777216; omega, ?_⟩
    generalize hl1 : l0 ++ n1 = l1
    have z1 : l1.length = 6 := by rw [← hl1, List.length_append]; omega
    intro r1 hr1
    have x1 := (x0.trans y1).trans (Ext.new hr1 (.lst l1))
    walk_at "w"
    refine ⟨hE, _, kit_InvalidWord T w hw, ?_⟩
    walk_at "w"
    refine ⟨hE, _, kit_NotEnding T w hw, ?_⟩
    walk_at "w"
    refine ⟨hE, _, kit_NotSolo T w hw, ?_⟩
    walk_at "w"
    generalize hn2 : [D.bl (decide ((6 : Int) = (w : Int))), D.bl (decide ((7 : Int) = (w : Int))), D.bl (decide ((8 : Int) = (w : Int)))] = n2
    have y20 : n2.length = 3 := by rw [← hn2]; rfl
    intro q2 hq2
    have y2 := Ext.new hq2 (.lst n2)
    walk_at "w"
    refine ⟨l1, n2, y2 _ _ sup_same, sup_same, by show l1.length + n2.length ≤ 16777216; omega, ?_⟩
    generalize hl2 : l1 ++ n2 = l2
    have z2 : l2.length = 9 := by rw [← hl2, List.length_append]; omega
    intro r2 hr2
    have x2 := (x1.trans y2).trans (Ext.new hr2 (.lst l2))
    walk_at "w"
    refine ⟨hE, _, kit_InvalidNumber T w hw, ?_⟩
    walk_at "w"
    refine ⟨hE, _, kit_InvalidShares T w hw, ?_⟩
    walk_at "w"
    refine ⟨hE, _, kit_InvalidFigures T w hw, ?_⟩
    walk_at "w"
    generalize hn3 : [D.bl (decide ((9 : Int) = (w : Int))), D.bl (decide ((10 : Int) = (w : Int))), D.bl (decide ((11 : Int) = (w : Int)))] = n3
    have y30 : n3.length = 3 := by rw [← hn3]; rfl
    intro q3 hq3
    have y3 := Ext.new hq3 (.lst n3)
    walk_at "w"
    refine ⟨l2, n3, y3 _ _ sup_same, sup_same, by show l2.length + n3.length ≤ 16777216; omega, ?_⟩
    generalize hl3 : l2 ++ n3 = l3
    have z3 : l3.length = 12 := by rw [← hl3, List.length_append]; omega
    intro r3 hr3
    have x3 := (x2.trans y3).trans (Ext.new hr3 (.lst l3))
    walk_at "w"
    refine ⟨hE, _, kit_InvalidLeaves T w hw, ?_⟩
    walk_at "w"
    refine ⟨hE, _, kit_InvalidMachine T w hw, ?_⟩
    walk_at "w"
    refine ⟨hE, _, kit_InvalidRow T w hw, ?_⟩
    walk_at "w"
    generalize hn4 : [D.bl (decide ((12 : Int) = (w : Int))), D.bl (decide ((13 : Int) = (w : Int))), D.bl (decide ((14 : Int) = (w : Int)))] = n4
    have y40 : n4.length = 3 := by rw [← hn4]; rfl
    intro q4 hq4
    have y4 := Ext.new hq4 (.lst n4)
    walk_at "w"
    refine ⟨l3, n4, y4 _ _ sup_same, sup_same, by show l3.length + n4.length ≤ 16777216; omega, ?_⟩
    generalize hl4 : l3 ++ n4 = l4
    have z4 : l4.length = 15 := by rw [← hl4, List.length_append]; omega
    intro r4 hr4
    have x4 := (x3.trans y4).trans (Ext.new hr4 (.lst l4))
    walk_at "w"
    refine ⟨hE, _, kit_InvalidThing T w hw, ?_⟩
    walk_at "w"
    refine ⟨hE, _, kit_InvalidPair T w hw, ?_⟩
    walk_at "w"
    refine ⟨hE, _, kit_NeverEnds T w hw, ?_⟩
    walk_at "w"
    generalize hn5 : [D.bl (decide ((15 : Int) = (w : Int))), D.bl (decide ((16 : Int) = (w : Int))), D.bl (decide ((17 : Int) = (w : Int)))] = n5
    have y50 : n5.length = 3 := by rw [← hn5]; rfl
    intro q5 hq5
    have y5 := Ext.new hq5 (.lst n5)
    walk_at "w"
    refine ⟨l4, n5, y5 _ _ sup_same, sup_same, by show l4.length + n5.length ≤ 16777216; omega, ?_⟩
    generalize hl5 : l4 ++ n5 = l5
    have z5 : l5.length = 18 := by rw [← hl5, List.length_append]; omega
    intro r5 hr5
    have x5 := (x4.trans y5).trans (Ext.new hr5 (.lst l5))
    walk_at "w"
    refine ⟨hE, _, kit_NotDrawn T w hw, ?_⟩
    walk_at "w"
    refine ⟨hE, _, kit_InvalidDice T w hw, ?_⟩
    walk_at "w"
    refine ⟨hE, _, kit_InvalidTable T w hw, ?_⟩
    walk_at "w"
    generalize hn6 : [D.bl (decide ((18 : Int) = (w : Int))), D.bl (decide ((19 : Int) = (w : Int))), D.bl (decide ((20 : Int) = (w : Int)))] = n6
    have y60 : n6.length = 3 := by rw [← hn6]; rfl
    intro q6 hq6
    have y6 := Ext.new hq6 (.lst n6)
    walk_at "w"
    refine ⟨l5, n6, y6 _ _ sup_same, sup_same, by show l5.length + n6.length ≤ 16777216; omega, ?_⟩
    generalize hl6 : l5 ++ n6 = l6
    have z6 : l6.length = 21 := by rw [← hl6, List.length_append]; omega
    intro r6 hr6
    have x6 := (x5.trans y6).trans (Ext.new hr6 (.lst l6))
    walk_at "w"
    refine ⟨hE, _, kit_InvalidReader T w hw, ?_⟩
    walk_at "w"
    refine ⟨hE, _, kit_NoTable T w hw, ?_⟩
    walk_at "w"
    refine ⟨hE, _, kit_InvalidName T w hw, ?_⟩
    walk_at "w"
    generalize hn7 : [D.bl (decide ((21 : Int) = (w : Int))), D.bl (decide ((22 : Int) = (w : Int))), D.bl (decide ((23 : Int) = (w : Int)))] = n7
    have y70 : n7.length = 3 := by rw [← hn7]; rfl
    intro q7 hq7
    have y7 := Ext.new hq7 (.lst n7)
    walk_at "w"
    refine ⟨l6, n7, y7 _ _ sup_same, sup_same, by show l6.length + n7.length ≤ 16777216; omega, ?_⟩
    generalize hl7 : l6 ++ n7 = l7
    have z7 : l7.length = 24 := by rw [← hl7, List.length_append]; omega
    intro r7 hr7
    have x7 := (x6.trans y7).trans (Ext.new hr7 (.lst l7))
    walk_at "w"
    refine ⟨hE, _, kit_UnknownName T w hw, ?_⟩
    walk_at "w"
    refine ⟨hE, _, kit_NothingToUndo T w hw, ?_⟩
    walk_at "w"
    refine ⟨hE, _, kit_Unreadable T w hw, ?_⟩
    walk_at "w"
    generalize hn8 : [D.bl (decide ((24 : Int) = (w : Int))), D.bl (decide ((25 : Int) = (w : Int))), D.bl (decide ((26 : Int) = (w : Int)))] = n8
    have y80 : n8.length = 3 := by rw [← hn8]; rfl
    intro q8 hq8
    have y8 := Ext.new hq8 (.lst n8)
    walk_at "w"
    refine ⟨l7, n8, y8 _ _ sup_same, sup_same, by show l7.length + n8.length ≤ 16777216; omega, ?_⟩
    generalize hl8 : l7 ++ n8 = l8
    have z8 : l8.length = 27 := by rw [← hl8, List.length_append]; omega
    intro r8 hr8
    have x8 := (x7.trans y8).trans (Ext.new hr8 (.lst l8))
    walk_at "w"
    refine ⟨hE, _, kit_Unorderly T w hw, ?_⟩
    walk_at "w"
    generalize hn9 : [D.bl (decide ((27 : Int) = (w : Int)))] = n9
    have y90 : n9.length = 1 := by rw [← hn9]; rfl
    intro q9 hq9
    have y9 := Ext.new hq9 (.lst n9)
    walk_at "w"
    refine ⟨l8, n9, y9 _ _ sup_same, sup_same, by show l8.length + n9.length ≤ 16777216; omega, ?_⟩
    generalize hl9 : l8 ++ n9 = l9
    have z9 : l9.length = 28 := by rw [← hl9, List.length_append]; omega
    intro r9 hr9
    have x9 := (x8.trans y9).trans (Ext.new hr9 (.lst l9))
    walk_at "w"
    exact h _ _ (by rw [sup_same, ← hl9, ← hn9, ← hl8, ← hn8, ← hl7, ← hn7, ← hl6, ← hn6, ← hl5, ← hn5, ← hl4, ← hn4, ← hl3, ← hn3, ← hl2, ← hn2, ← hl1, ← hn1, ← hl0]; rfl) x9

end K57
set_option Elab.async false
set_option linter.all false
set_option maxRecDepth 100000
set_option maxHeartbeats 4000000
namespace K57
open PySem PySem.Spec PyProof.Rows L2 DL
local macro_rules | `(tactic| walk_at "w") => `(tactic| conv => whnf)
local macro_rules | `(tactic| walk_at "g") => `(tactic| ((conv => whnf); repeat' (first | (refine IFB.t ?_ ?_; rfl; conv => whnf) | (refine IFB.f ?_ ?_; rfl; conv => whnf))))
theorem ok_law_caught {P : Program} {w : World} {K : PySem.W.Frag} {mg : Str → Option Value} {base : Heap} (T : Txt K mg) : FnOk P w K mg base (L2.CX P w) 4 T.a_law_caught T.fd_law_caught ["which", "given", "named"] (toSp K (sp_law_caught (cl T))) := by
  refine fnD T.F_law_caught sc_law_caught (fun ds S Q E h => ?_) (fun cdv A outer s H E RX hr => ⟨_, (pds_cons (pd_set 3 sc_law_caught.nd pd_non)
    (pds_cons (pd_try 4 rfl rfl rfl sc_law_caught.nd rfl rfl ⟨rfl, by decide, .inl T.m_TossError⟩ (takes_of rfl rfl rfl rfl) (fun W dW pn xe tk => (pds_one (pd_ifS (pdt_tru (pd_var 2)) (pds_one (pd_expr (pd_call tk (ok_law_raised_named T) (hr.mono (by decide)) T.m_law_raised_named T.F_law_raised_named.kp T.d_law_raised_named (pda_cons (pd_var 0) (pda_cons (pd_var 1) pda_nil))))) (pds_one (pd_expr (pd_call tk (ok_law_raised T) (hr.mono (by decide)) T.m_law_raised T.F_law_raised.kp T.d_law_raised (pda_cons (pd_var 0) (pda_cons (pd_var 1) pda_nil)))))))) (fun a pn => (pds_one (pd_set 3 sc_law_caught.nd (pd_var 4)))))
    (pds_one (pd_ret (pd_var 3))))), fun ds S Q h => ?_⟩)
  · obtain ⟨_, _, _, rfl, _⟩ := h
    rfl
  · obtain ⟨w, d, n, rfl, hw, h⟩ := h
    walk_at "w"
    intro W
    walk_at "w"
    cases n with
    | true =>
      refine IFB.t rfl ?_
      walk_at "w"
      refine ⟨w, d, rfl, hw, ?_⟩
      refine ⟨true, exm_of T w, IFB.t rfl ?_⟩
      walk_at "w"
      exact h
    | false =>
      refine IFB.f rfl ?_
      walk_at "w"
      refine ⟨w, d, rfl, hw, ?_⟩
      refine ⟨true, exm_of T w, IFB.t rfl ?_⟩
      walk_at "w"
      exact h
theorem ok_law_right {P : Program} {w : World} {K : PySem.W.Frag} {mg : Str → Option Value} {base : Heap} (T : Txt K mg) : FnOk P w K mg base (L2.CX P w) 6 T.a_law_right T.fd_law_right ["caught", "which", "given"] (toSp K (sp_law_right (cl T))) := by
  refine fnE T.F_law_right sc_law_right (fun ds S Q E h => ?_) (fun cdv A outer s H E RX hr => ⟨_, (pds_cons (pd_ifS (PDW.pt (pdw_or (pdt_cmp od_is (pd_var 0) pd_non) (pdw_or1 (pdt_not (pdt_tru (pd_blt cd_isX T.b_isinstance (by decide +kernel) (pda_cons (pd_var 0) (pda_cons (pd_tyN (n := "ValueError") T.b_ValueError (by decide +kernel)) pda_nil)))))))) (pds_one (pd_ret pd_bl)) pds_nil)
    (pds_one (pd_ret (pd_and (pd_call (takes_of rfl rfl rfl rfl) (ok_law_same T) (hr.mono (by decide)) T.m_law_same T.F_law_same.kp T.d_law_same (pda_cons (pd_call (takes_of rfl rfl rfl rfl) (ok_law_kinds T) (hr.mono (by decide)) T.m_law_kinds T.F_law_kinds.kp T.d_law_kinds (pda_cons (pd_var 0) pda_nil)) (pda_cons (pd_lc (own := [("k", 3)]) (p := .n 3) rfl sc_law_right.nd (pdi_range1 T.b_range (pda_cons pd_int pda_nil)) (blkOk_by (N := ["caught", "which", "given", "k"]) (sc := defScope s_law_right) (own := [("k", 3)]) (by decide +kernel)) (fun _ _ _ _ _ => (pg_name (i := 3) sc_law_right.nd rfl (by first | exact Or.inl rfl | exact Or.inr rfl))) (fun _ _ _ _ _ => pdts_nil) (fun _ _ _ _ _ => (pd_cmp (od_eq hr.units) (pd_var 3) (pd_var 1)))) pda_nil))) (pd_one (pd_call (takes_of rfl rfl rfl rfl) (ok_law_same T) (hr.mono (by decide)) T.m_law_same T.F_law_same.kp T.d_law_same (pda_cons (pd_value (pd_var 0)) (pda_cons (pd_var 2) pda_nil)))))))), fun ds S Q h => ?_⟩)
  · obtain ⟨_, _, rfl, _⟩ := h
    rfl
  · obtain ⟨w, d, rfl, hw, hs, h⟩ := h
    walk_at "g"
    refine ⟨exn_cl T w, _, ve_cl T w, ?_⟩
    walk_at "g"
    refine ⟨w, d, rfl, hw, ?_⟩
    rintro p S1 e1 x1
    walk_at "w"
    refine ⟨⟨by decide, by decide⟩, ?_⟩
    walk_at "w"
    refine lc_rgm (fun (k : Nat) => D.bl (decide ((k : Int) = (w : Int)))) ?_ ?_
    · rintro i acc S2 hi w2
      walk_at "w"
      rw [show (0 : Int) + (i : Int) = (i : Int) from Int.zero_add _]
      refine IFB.t rfl ?_
      exact lc_leaf hi w2 (by show _ ≤ 16777216; decide) rfl (Ext.refl _)
    rintro S2 v ex2 hv
    have y := ex2.trans (Ext.new hv (.lst (kinds w)))
    walk_at "w"
    refine ⟨_, _, rfl, lst_self (y _ _ e1) sup_same, ?_⟩
    walk_at "g"
    refine ⟨exn_cl T w, ?_⟩
    walk_at "w"
    refine ⟨_, _, rfl, sameD_ext (x1.trans y) _ _ _ hs, ?_⟩
    walk_at "w"
    exact ⟨S, x1.trans y, h⟩
theorem ok_law {P : Program} {w : World} {K : PySem.W.Frag} {mg : Str → Option Value} {base : Heap} (T : Txt K mg) : FnOk P w K mg base (L2.CX P w) 7 T.a_law T.fd_law ["script"] (toSp K sp_law) := by
  refine fnD T.F_law sc_law (fun ds S Q E h => ?_) (fun cdv A outer s H E RX hr => ⟨_, (pds_cons (pd_set 1 sc_law.nd (pd_bin od_add (pd_lst (pda_cons pd_int (pda_cons pd_int (pda_cons pd_int pda_nil)))) (pd_bltTy cd_list T.b_list (by decide +kernel) (pda_cons (pd_var 0) pda_nil))))
    (pds_cons (pd_for (passes_of rfl) rfl (pdi_range1 T.b_range (pda_cons (pd_blt (cd_max2 rfl) T.b_max (by decide +kernel) (pda_cons pd_int (pda_cons (pd_blt (cd_min2 rfl) T.b_min (by decide +kernel) (pda_cons pd_int (pda_cons (pd_blt cd_len T.b_len (by decide +kernel) (pda_cons (pd_var 0) pda_nil)) pda_nil))) pda_nil))) pda_nil)) (pdg_name 2 sc_law.nd) (pds_one (pd_for (passes_of rfl) rfl (pdi_range1 T.b_range (pda_cons pd_int pda_nil)) (pdg_name 3 sc_law.nd) (pds_cons (pd_par3 4 5 6 rfl sc_law.nd (pda_cons (pd_call (takes_of rfl rfl rfl rfl) (ok_law_given T) (hr.mono (by decide)) T.m_law_given T.F_law_given.kp T.d_law_given (pda_cons (pd_var 1) pda_nil)) (pda_cons (pd_call (takes_of rfl rfl rfl rfl) (ok_law_given T) (hr.mono (by decide)) T.m_law_given T.F_law_given.kp T.d_law_given (pda_cons (pd_var 1) pda_nil)) (pda_cons (pd_cmp (od_eq hr.units) (pd_call (takes_of rfl rfl rfl rfl) (ok_law_take T) (hr.mono (by decide)) T.m_law_take T.F_law_take.kp T.d_law_take (pda_cons (pd_var 1) (pda_cons pd_int pda_nil))) pd_int) pda_nil))) rfl)
    (pds_cons (pd_set 7 sc_law.nd (pd_call (takes_of rfl rfl rfl rfl) (ok_law_caught T) (hr.mono (by decide)) T.m_law_caught T.F_law_caught.kp T.d_law_caught (pda_cons (pd_var 3) (pda_cons (pd_var 4) (pda_cons (pd_var 6) pda_nil)))))
    (pds_cons (pd_set 8 sc_law.nd (pd_call (takes_of rfl rfl rfl rfl) (ok_law_caught T) (hr.mono (by decide)) T.m_law_caught T.F_law_caught.kp T.d_law_caught (pda_cons (pd_var 3) (pda_cons (pd_var 5) (pda_cons (pd_not (pd_var 6)) pda_nil)))))
    (pds_one (pd_ifS (PDW.pt (pdw_or (pdt_not (pdt_tru (pd_call (takes_of rfl rfl rfl rfl) (ok_law_right T) (hr.mono (by decide)) T.m_law_right T.F_law_right.kp T.d_law_right (pda_cons (pd_var 7) (pda_cons (pd_var 3) (pda_cons (pd_var 4) pda_nil)))))) (pdw_or1 (pdt_not (pdt_tru (pd_call (takes_of rfl rfl rfl rfl) (ok_law_right T) (hr.mono (by decide)) T.m_law_right T.F_law_right.kp T.d_law_right (pda_cons (pd_var 8) (pda_cons (pd_var 3) (pda_cons (pd_var 5) pda_nil))))))))) (pds_one (pd_ret pd_bl)) pds_nil))))))))
    (pds_one (pd_ret pd_bl)))), fun ds S Q h => ?_⟩)
  · obtain ⟨_, rfl, _⟩ := h
    rfl
  · obtain ⟨xs, rfl, hxs, h⟩ := h
    walk_at "w"
    intro p1 hp1
    have x1 := Ext.new hp1 (.lst [.int 0, .int 7, .int 3])
    have e1 : DL.sup S p1 (.lst [.int 0, .int 7, .int 3]) p1 = some (.lst [.int 0, .int 7, .int 3]) := sup_same
    generalize DL.sup S p1 _ = S1 at *
    walk_at "w"
    refine ⟨_, .inr rfl, ?_⟩
    intro p2 hp2
    have x2 := Ext.new hp2 (.lst (xs.map D.int))
    have e2 : DL.sup S1 p2 (.lst (xs.map D.int)) p2 = some (.lst (xs.map D.int)) := sup_same
    have e1' := x2 _ _ e1
    generalize DL.sup S1 p2 _ = S2 at *
    walk_at "w"
    refine ⟨_, _, e1', e2, by show _ ≤ 16777216; simp; omega, ?_⟩
    intro a ha
    have hp : PotD (DL.sup S2 a (.lst ([.int 0, .int 7, .int 3] ++ xs.map D.int))) a := ⟨0, 7, 3, xs, sup_same, by decide, by decide, by decide, by decide, by omega, hxs⟩
    generalize DL.sup S2 a _ = S3 at *
    walk_at "w"
    refine ⟨_, .inr rfl, ?_⟩
    walk_at "w"
    generalize hm : (if _ > (1 : Int) then _ else (1 : Int)) = m
    have hm8 : m ≤ 12 ∧ 0 ≤ m := by rw [← hm]; split <;> split at * <;> omega
    clear hm
    refine ⟨⟨by omega, by omega⟩, for_rg (fun i ρ' S' => ∃ o2 o3 o4 o5 o6 o7 o8, PotD S' a ∧ ρ' = [some (.fro (xs.map D.int)), some (.ref a), o2, o3, o4, o5, o6, o7, o8]) ⟨_, _, _, _, _, _, _, hp, rfl⟩ ?_ ?_⟩
    · rintro i _ S4 hi ⟨o2, o3, o4, o5, o6, o7, o8, hp4, rfl⟩
      walk_at "w"
      refine ⟨⟨by decide, by decide⟩, for_rg (fun i' ρ' S' => ∃ o2 o3 o4 o5 o6 o7 o8, PotD S' a ∧ ρ' = [some (.fro (xs.map D.int)), some (.ref a), o2, o3, o4, o5, o6, o7, o8]) ⟨_, _, _, _, _, _, _, hp4, rfl⟩ ?_ ?_⟩
      · rintro w _ S5 hw ⟨o2, o3, o4, o5, o6, o7, o8, hp5, rfl⟩
        rw [show (0 : Int) + (w : Int) = (w : Int) from Int.zero_add _]
        have hw3 : w < 9 := hw
        walk_at "w"
        refine ⟨a, rfl, hp5, ?_⟩
        rintro d S6 hg hp6 x6
        walk_at "w"
        refine ⟨a, rfl, hp6, ?_⟩
        rintro d2 S7 hg2 hp7 x7
        walk_at "w"
        refine ⟨a, 2, rfl, hp7, by decide, by decide, ?_⟩
        rintro f S8 k0 k1 hp8 fr8
        have hgA := (hg.ext (x7.trans (ExB.of fr8))).same
        have hgB := (hg2.ext (ExB.of fr8)).same
        walk_at "w"
        refine ⟨w, d, _, rfl, hw3, ?_⟩
        walk_at "w"
        refine ⟨w, d2, _, rfl, hw3, ?_⟩
        walk_at "w"
        refine ⟨w, d, rfl, hw3, hgA, ?_⟩
        walk_at "g"
        refine ⟨w, d2, rfl, hw3, hgB, ?_⟩
        walk_at "g"
        exact ⟨_, _, _, _, _, _, _, hp8, rfl⟩
      · rintro _ S5 ⟨o2, o3, o4, o5, o6, o7, o8, hp5, rfl⟩
        walk_at "w"
        exact ⟨_, _, _, _, _, _, _, hp5, rfl⟩
    · rintro _ S4 ⟨o2, o3, o4, o5, o6, o7, o8, hp4, rfl⟩
      walk_at "w"
      exact h S4
end K57
set_option Elab.async false
set_option linter.all false
set_option maxRecDepth 100000
set_option maxHeartbeats 4000000
namespace K57
open PySem PySem.Spec PyProof.Rows L2 DL
local macro_rules | `(tactic| walk_at "w") => `(tactic| conv => whnf)
local macro_rules | `(tactic| walk_at "g") => `(tactic| ((conv => whnf); repeat' (first | (refine IFB.t ?_ ?_; rfl; conv => whnf) | (refine IFB.f ?_ ?_; rfl; conv => whnf))))
theorem end_law (ns : List Int) (h : ns.length ≤ 63) (S : Sto) : sp_law [.fro (ns.map D.int)] S (fun d _ => d = .bl true) (fun _ _ _ => False) := ⟨ns, rfl, h, fun _ => rfl⟩
theorem all_of {l : PySem.W.OpenLaw} {w : World} {K : PySem.W.Frag} {mg : Str → Option Value} {fa : Addr} (T : Txt K mg) (hfa : mg "law" = some (.ref fa)) :
    ∃ fd : FuncData, (∀ (s : Shared) (u : Value), BindsTo s fd ⟨[u], []⟩ [("script", u)]) ∧ ∀ base : Heap, K.In base → base.Ns mainGlobals mg → FnOk l.prog w K mg base (L2.CX l.prog w) 7 fa fd ["script"] (toSp K sp_law) := by
  have e := hfa.symm.trans T.m_law
  cases e
  exact ⟨T.fd_law, law_binds T.F_law fun _ _ _ _ _ _ _ => rfl, fun base _ _ => ok_law T⟩
theorem all_mk {l : PySem.W.OpenLaw} {w : World} {K : PySem.W.Frag} {h : Heap} {mg : Str → Option Value} {fa : Addr} (X : K.In h) (G : h.Ns mainGlobals mg) (hfa : mg "law" = some (.ref fa))
    {g0 : Addr} {od0 an0 : Option Addr} {sl0 : Array (Option Value)} {oc0 kV0 dc0 pm0 cd0 ct0 : Value}
    {g1 : Addr} {od1 an1 : Option Addr} {sl1 : Array (Option Value)} {oc1 kV1 dc1 pm1 cd1 ct1 : Value}
    {g2 : Addr} {od2 an2 : Option Addr} {sl2 : Array (Option Value)} {oc2 kV2 dc2 pm2 cd2 ct2 : Value}
    {g3 : Addr} {od3 an3 : Option Addr} {sl3 : Array (Option Value)} {oc3 kV3 dc3 pm3 cd3 ct3 : Value}
    {g4 : Addr} {od4 an4 : Option Addr} {sl4 : Array (Option Value)} {oc4 kV4 dc4 pm4 cd4 ct4 : Value}
    {g5 : Addr} {od5 an5 : Option Addr} {sl5 : Array (Option Value)} {oc5 kV5 dc5 pm5 cd5 ct5 : Value}
    {g6 : Addr} {od6 an6 : Option Addr} {sl6 : Array (Option Value)} {oc6 kV6 dc6 pm6 cd6 ct6 : Value}
    {g7 : Addr} {od7 an7 : Option Addr} {sl7 : Array (Option Value)} {oc7 kV7 dc7 pm7 cd7 ct7 : Value}
    {g8 : Addr} {od8 an8 : Option Addr} {sl8 : Array (Option Value)} {oc8 kV8 dc8 pm8 cd8 ct8 : Value}
    {cInvalidDice : Addr} {nmInvalidDice qInvalidDice : Str} {NInvalidDice : Addr} {bsInvalidDice : List Value} {snInvalidDice : List Str} {suInvalidDice : List Value} {abInvalidDice : Bool} {coInvalidDice : Option Bool} {ddInvalidDice : Option Addr} {kaInvalidDice kbInvalidDice kcInvalidDice kdInvalidDice keInvalidDice : Option Value}
    {cInvalidFigures : Addr} {nmInvalidFigures qInvalidFigures : Str} {NInvalidFigures : Addr} {bsInvalidFigures : List Value} {snInvalidFigures : List Str} {suInvalidFigures : List Value} {abInvalidFigures : Bool} {coInvalidFigures : Option Bool} {ddInvalidFigures : Option Addr} {kaInvalidFigures kbInvalidFigures kcInvalidFigures kdInvalidFigures keInvalidFigures : Option Value}
    {cInvalidGame : Addr} {nmInvalidGame qInvalidGame : Str} {NInvalidGame : Addr} {bsInvalidGame : List Value} {snInvalidGame : List Str} {suInvalidGame : List Value} {abInvalidGame : Bool} {coInvalidGame : Option Bool} {ddInvalidGame : Option Addr} {kaInvalidGame kbInvalidGame kcInvalidGame kdInvalidGame keInvalidGame : Option Value}
    {cInvalidLeaves : Addr} {nmInvalidLeaves qInvalidLeaves : Str} {NInvalidLeaves : Addr} {bsInvalidLeaves : List Value} {snInvalidLeaves : List Str} {suInvalidLeaves : List Value} {abInvalidLeaves : Bool} {coInvalidLeaves : Option Bool} {ddInvalidLeaves : Option Addr} {kaInvalidLeaves kbInvalidLeaves kcInvalidLeaves kdInvalidLeaves keInvalidLeaves : Option Value}
    {cInvalidLot : Addr} {nmInvalidLot qInvalidLot : Str} {NInvalidLot : Addr} {bsInvalidLot : List Value} {snInvalidLot : List Str} {suInvalidLot : List Value} {abInvalidLot : Bool} {coInvalidLot : Option Bool} {ddInvalidLot : Option Addr} {kaInvalidLot kbInvalidLot kcInvalidLot kdInvalidLot keInvalidLot : Option Value}
    {cInvalidMachine : Addr} {nmInvalidMachine qInvalidMachine : Str} {NInvalidMachine : Addr} {bsInvalidMachine : List Value} {snInvalidMachine : List Str} {suInvalidMachine : List Value} {abInvalidMachine : Bool} {coInvalidMachine : Option Bool} {ddInvalidMachine : Option Addr} {kaInvalidMachine kbInvalidMachine kcInvalidMachine kdInvalidMachine keInvalidMachine : Option Value}
    {cInvalidName : Addr} {nmInvalidName qInvalidName : Str} {NInvalidName : Addr} {bsInvalidName : List Value} {snInvalidName : List Str} {suInvalidName : List Value} {abInvalidName : Bool} {coInvalidName : Option Bool} {ddInvalidName : Option Addr} {kaInvalidName kbInvalidName kcInvalidName kdInvalidName keInvalidName : Option Value}
    {cInvalidNumber : Addr} {nmInvalidNumber qInvalidNumber : Str} {NInvalidNumber : Addr} {bsInvalidNumber : List Value} {snInvalidNumber : List Str} {suInvalidNumber : List Value} {abInvalidNumber : Bool} {coInvalidNumber : Option Bool} {ddInvalidNumber : Option Addr} {kaInvalidNumber kbInvalidNumber kcInvalidNumber kdInvalidNumber keInvalidNumber : Option Value}
    {cInvalidPair : Addr} {nmInvalidPair qInvalidPair : Str} {NInvalidPair : Addr} {bsInvalidPair : List Value} {snInvalidPair : List Str} {suInvalidPair : List Value} {abInvalidPair : Bool} {coInvalidPair : Option Bool} {ddInvalidPair : Option Addr} {kaInvalidPair kbInvalidPair kcInvalidPair kdInvalidPair keInvalidPair : Option Value}
    {cInvalidPays : Addr} {nmInvalidPays qInvalidPays : Str} {NInvalidPays : Addr} {bsInvalidPays : List Value} {snInvalidPays : List Str} {suInvalidPays : List Value} {abInvalidPays : Bool} {coInvalidPays : Option Bool} {ddInvalidPays : Option Addr} {kaInvalidPays kbInvalidPays kcInvalidPays kdInvalidPays keInvalidPays : Option Value}
    {cInvalidPrizes : Addr} {nmInvalidPrizes qInvalidPrizes : Str} {NInvalidPrizes : Addr} {bsInvalidPrizes : List Value} {snInvalidPrizes : List Str} {suInvalidPrizes : List Value} {abInvalidPrizes : Bool} {coInvalidPrizes : Option Bool} {ddInvalidPrizes : Option Addr} {kaInvalidPrizes kbInvalidPrizes kcInvalidPrizes kdInvalidPrizes keInvalidPrizes : Option Value}
    {cInvalidReader : Addr} {nmInvalidReader qInvalidReader : Str} {NInvalidReader : Addr} {bsInvalidReader : List Value} {snInvalidReader : List Str} {suInvalidReader : List Value} {abInvalidReader : Bool} {coInvalidReader : Option Bool} {ddInvalidReader : Option Addr} {kaInvalidReader kbInvalidReader kcInvalidReader kdInvalidReader keInvalidReader : Option Value}
    {cInvalidRow : Addr} {nmInvalidRow qInvalidRow : Str} {NInvalidRow : Addr} {bsInvalidRow : List Value} {snInvalidRow : List Str} {suInvalidRow : List Value} {abInvalidRow : Bool} {coInvalidRow : Option Bool} {ddInvalidRow : Option Addr} {kaInvalidRow kbInvalidRow kcInvalidRow kdInvalidRow keInvalidRow : Option Value}
    {cInvalidRule : Addr} {nmInvalidRule qInvalidRule : Str} {NInvalidRule : Addr} {bsInvalidRule : List Value} {snInvalidRule : List Str} {suInvalidRule : List Value} {abInvalidRule : Bool} {coInvalidRule : Option Bool} {ddInvalidRule : Option Addr} {kaInvalidRule kbInvalidRule kcInvalidRule kdInvalidRule keInvalidRule : Option Value}
    {cInvalidShares : Addr} {nmInvalidShares qInvalidShares : Str} {NInvalidShares : Addr} {bsInvalidShares : List Value} {snInvalidShares : List Str} {suInvalidShares : List Value} {abInvalidShares : Bool} {coInvalidShares : Option Bool} {ddInvalidShares : Option Addr} {kaInvalidShares kbInvalidShares kcInvalidShares kdInvalidShares keInvalidShares : Option Value}
    {cInvalidSource : Addr} {nmInvalidSource qInvalidSource : Str} {NInvalidSource : Addr} {bsInvalidSource : List Value} {snInvalidSource : List Str} {suInvalidSource : List Value} {abInvalidSource : Bool} {coInvalidSource : Option Bool} {ddInvalidSource : Option Addr} {kaInvalidSource kbInvalidSource kcInvalidSource kdInvalidSource keInvalidSource : Option Value}
    {cInvalidTable : Addr} {nmInvalidTable qInvalidTable : Str} {NInvalidTable : Addr} {bsInvalidTable : List Value} {snInvalidTable : List Str} {suInvalidTable : List Value} {abInvalidTable : Bool} {coInvalidTable : Option Bool} {ddInvalidTable : Option Addr} {kaInvalidTable kbInvalidTable kcInvalidTable kdInvalidTable keInvalidTable : Option Value}
    {cInvalidThing : Addr} {nmInvalidThing qInvalidThing : Str} {NInvalidThing : Addr} {bsInvalidThing : List Value} {snInvalidThing : List Str} {suInvalidThing : List Value} {abInvalidThing : Bool} {coInvalidThing : Option Bool} {ddInvalidThing : Option Addr} {kaInvalidThing kbInvalidThing kcInvalidThing kdInvalidThing keInvalidThing : Option Value}
    {cInvalidWord : Addr} {nmInvalidWord qInvalidWord : Str} {NInvalidWord : Addr} {bsInvalidWord : List Value} {snInvalidWord : List Str} {suInvalidWord : List Value} {abInvalidWord : Bool} {coInvalidWord : Option Bool} {ddInvalidWord : Option Addr} {kaInvalidWord kbInvalidWord kcInvalidWord kdInvalidWord keInvalidWord : Option Value}
    {cNeverEnds : Addr} {nmNeverEnds qNeverEnds : Str} {NNeverEnds : Addr} {bsNeverEnds : List Value} {snNeverEnds : List Str} {suNeverEnds : List Value} {abNeverEnds : Bool} {coNeverEnds : Option Bool} {ddNeverEnds : Option Addr} {kaNeverEnds kbNeverEnds kcNeverEnds kdNeverEnds keNeverEnds : Option Value}
    {cNoTable : Addr} {nmNoTable qNoTable : Str} {NNoTable : Addr} {bsNoTable : List Value} {snNoTable : List Str} {suNoTable : List Value} {abNoTable : Bool} {coNoTable : Option Bool} {ddNoTable : Option Addr} {kaNoTable kbNoTable kcNoTable kdNoTable keNoTable : Option Value}
    {cNotDrawn : Addr} {nmNotDrawn qNotDrawn : Str} {NNotDrawn : Addr} {bsNotDrawn : List Value} {snNotDrawn : List Str} {suNotDrawn : List Value} {abNotDrawn : Bool} {coNotDrawn : Option Bool} {ddNotDrawn : Option Addr} {kaNotDrawn kbNotDrawn kcNotDrawn kdNotDrawn keNotDrawn : Option Value}
    {cNotEnding : Addr} {nmNotEnding qNotEnding : Str} {NNotEnding : Addr} {bsNotEnding : List Value} {snNotEnding : List Str} {suNotEnding : List Value} {abNotEnding : Bool} {coNotEnding : Option Bool} {ddNotEnding : Option Addr} {kaNotEnding kbNotEnding kcNotEnding kdNotEnding keNotEnding : Option Value}
    {cNotSolo : Addr} {nmNotSolo qNotSolo : Str} {NNotSolo : Addr} {bsNotSolo : List Value} {snNotSolo : List Str} {suNotSolo : List Value} {abNotSolo : Bool} {coNotSolo : Option Bool} {ddNotSolo : Option Addr} {kaNotSolo kbNotSolo kcNotSolo kdNotSolo keNotSolo : Option Value}
    {cNothingToUndo : Addr} {nmNothingToUndo qNothingToUndo : Str} {NNothingToUndo : Addr} {bsNothingToUndo : List Value} {snNothingToUndo : List Str} {suNothingToUndo : List Value} {abNothingToUndo : Bool} {coNothingToUndo : Option Bool} {ddNothingToUndo : Option Addr} {kaNothingToUndo kbNothingToUndo kcNothingToUndo kdNothingToUndo keNothingToUndo : Option Value}
    {cTossError : Addr} {nmTossError qTossError : Str} {NTossError : Addr} {bsTossError : List Value} {snTossError : List Str} {suTossError : List Value} {abTossError : Bool} {coTossError : Option Bool} {ddTossError : Option Addr} {kaTossError kbTossError kcTossError kdTossError keTossError : Option Value}
    {cUnknownName : Addr} {nmUnknownName qUnknownName : Str} {NUnknownName : Addr} {bsUnknownName : List Value} {snUnknownName : List Str} {suUnknownName : List Value} {abUnknownName : Bool} {coUnknownName : Option Bool} {ddUnknownName : Option Addr} {kaUnknownName kbUnknownName kcUnknownName kdUnknownName keUnknownName : Option Value}
    {cUnorderly : Addr} {nmUnorderly qUnorderly : Str} {NUnorderly : Addr} {bsUnorderly : List Value} {snUnorderly : List Str} {suUnorderly : List Value} {abUnorderly : Bool} {coUnorderly : Option Bool} {ddUnorderly : Option Addr} {kaUnorderly kbUnorderly kcUnorderly kdUnorderly keUnorderly : Option Value}
    {cUnreadable : Addr} {nmUnreadable qUnreadable : Str} {NUnreadable : Addr} {bsUnreadable : List Value} {snUnreadable : List Str} {suUnreadable : List Value} {abUnreadable : Bool} {coUnreadable : Option Bool} {ddUnreadable : Option Addr} {kaUnreadable kbUnreadable kcUnreadable kdUnreadable keUnreadable : Option Value}
    {gI : Addr} {odI anI : Option Addr} {slI : Array (Option Value)} {ocI kVI dcI pmI cdI ctI : Value}
    (a0 : PySem.W.nsIn K mainGlobals "_law_take" = some (some (.ref g0))) (l0 : K.lookup g0 = some ⟨oc0, od0, .func (PySem.W.fnOf "_law_take" "_law_take" (defArgs s_law_take) (defBody s_law_take) (defScope s_law_take) .none kV0 dc0 pm0 an0 cd0 ct0), sl0⟩) (c0 : PySem.W.codeIn K cd0 "_law_take" = true) (k0 : PySem.W.keepIn K (.ref g0) = true)
    (a1 : PySem.W.nsIn K mainGlobals "_law_same" = some (some (.ref g1))) (l1 : K.lookup g1 = some ⟨oc1, od1, .func (PySem.W.fnOf "_law_same" "_law_same" (defArgs s_law_same) (defBody s_law_same) (defScope s_law_same) .none kV1 dc1 pm1 an1 cd1 ct1), sl1⟩) (c1 : PySem.W.codeIn K cd1 "_law_same" = true) (k1 : PySem.W.keepIn K (.ref g1) = true)
    (a2 : PySem.W.nsIn K mainGlobals "_law_raised" = some (some (.ref g2))) (l2 : K.lookup g2 = some ⟨oc2, od2, .func (PySem.W.fnOf "_law_raised" "_law_raised" (defArgs s_law_raised) (defBody s_law_raised) (defScope s_law_raised) .none kV2 dc2 pm2 an2 cd2 ct2), sl2⟩) (c2 : PySem.W.codeIn K cd2 "_law_raised" = true) (k2 : PySem.W.keepIn K (.ref g2) = true)
    (a3 : PySem.W.nsIn K mainGlobals "_law_raised_named" = some (some (.ref g3))) (l3 : K.lookup g3 = some ⟨oc3, od3, .func (PySem.W.fnOf "_law_raised_named" "_law_raised_named" (defArgs s_law_raised_named) (defBody s_law_raised_named) (defScope s_law_raised_named) .none kV3 dc3 pm3 an3 cd3 ct3), sl3⟩) (c3 : PySem.W.codeIn K cd3 "_law_raised_named" = true) (k3 : PySem.W.keepIn K (.ref g3) = true)
    (a4 : PySem.W.nsIn K mainGlobals "_law_kinds" = some (some (.ref g4))) (l4 : K.lookup g4 = some ⟨oc4, od4, .func (PySem.W.fnOf "_law_kinds" "_law_kinds" (defArgs s_law_kinds) (defBody s_law_kinds) (defScope s_law_kinds) .none kV4 dc4 pm4 an4 cd4 ct4), sl4⟩) (c4 : PySem.W.codeIn K cd4 "_law_kinds" = true) (k4 : PySem.W.keepIn K (.ref g4) = true)
    (a5 : PySem.W.nsIn K mainGlobals "_law_given" = some (some (.ref g5))) (l5 : K.lookup g5 = some ⟨oc5, od5, .func (PySem.W.fnOf "_law_given" "_law_given" (defArgs s_law_given) (defBody s_law_given) (defScope s_law_given) .none kV5 dc5 pm5 an5 cd5 ct5), sl5⟩) (c5 : PySem.W.codeIn K cd5 "_law_given" = true) (k5 : PySem.W.keepIn K (.ref g5) = true)
    (a6 : PySem.W.nsIn K mainGlobals "_law_caught" = some (some (.ref g6))) (l6 : K.lookup g6 = some ⟨oc6, od6, .func (PySem.W.fnOf "_law_caught" "_law_caught" (defArgs s_law_caught) (defBody s_law_caught) (defScope s_law_caught) .none kV6 dc6 pm6 an6 cd6 ct6), sl6⟩) (c6 : PySem.W.codeIn K cd6 "_law_caught" = true) (k6 : PySem.W.keepIn K (.ref g6) = true)
    (a7 : PySem.W.nsIn K mainGlobals "_law_right" = some (some (.ref g7))) (l7 : K.lookup g7 = some ⟨oc7, od7, .func (PySem.W.fnOf "_law_right" "_law_right" (defArgs s_law_right) (defBody s_law_right) (defScope s_law_right) .none kV7 dc7 pm7 an7 cd7 ct7), sl7⟩) (c7 : PySem.W.codeIn K cd7 "_law_right" = true) (k7 : PySem.W.keepIn K (.ref g7) = true)
    (a8 : PySem.W.nsIn K mainGlobals "law" = some (some (.ref g8))) (l8 : K.lookup g8 = some ⟨oc8, od8, .func (PySem.W.fnOf "law" "law" (defArgs s_law) (defBody s_law) (defScope s_law) .none kV8 dc8 pm8 an8 cd8 ct8), sl8⟩) (c8 : PySem.W.codeIn K cd8 "law" = true) (k8 : PySem.W.keepIn K (.ref g8) = true)
    (z_ValueError : PySem.W.nsIn K mainGlobals "ValueError" = some none)
    (z_all : PySem.W.nsIn K mainGlobals "all" = some none)
    (z_bool : PySem.W.nsIn K mainGlobals "bool" = some none)
    (z_int : PySem.W.nsIn K mainGlobals "int" = some none)
    (z_isinstance : PySem.W.nsIn K mainGlobals "isinstance" = some none)
    (z_len : PySem.W.nsIn K mainGlobals "len" = some none)
    (z_list : PySem.W.nsIn K mainGlobals "list" = some none)
    (z_max : PySem.W.nsIn K mainGlobals "max" = some none)
    (z_min : PySem.W.nsIn K mainGlobals "min" = some none)
    (z_range : PySem.W.nsIn K mainGlobals "range" = some none)
    (z_str : PySem.W.nsIn K mainGlobals "str" = some none)
    (z_tuple : PySem.W.nsIn K mainGlobals "tuple" = some none)
    (nInvalidDice : PySem.W.nsIn K mainGlobals "InvalidDice" = some (some (.ref cInvalidDice))) (lInvalidDice : K.lookup cInvalidDice = some (excClassObj nmInvalidDice qInvalidDice cInvalidDice NInvalidDice bsInvalidDice (.ref cTossError :: veT) true snInvalidDice suInvalidDice abInvalidDice coInvalidDice ddInvalidDice kaInvalidDice kbInvalidDice kcInvalidDice kdInvalidDice keInvalidDice "ValueError.__new__"))
    (nInvalidFigures : PySem.W.nsIn K mainGlobals "InvalidFigures" = some (some (.ref cInvalidFigures))) (lInvalidFigures : K.lookup cInvalidFigures = some (excClassObj nmInvalidFigures qInvalidFigures cInvalidFigures NInvalidFigures bsInvalidFigures (.ref cTossError :: veT) true snInvalidFigures suInvalidFigures abInvalidFigures coInvalidFigures ddInvalidFigures kaInvalidFigures kbInvalidFigures kcInvalidFigures kdInvalidFigures keInvalidFigures "ValueError.__new__"))
    (nInvalidGame : PySem.W.nsIn K mainGlobals "InvalidGame" = some (some (.ref cInvalidGame))) (lInvalidGame : K.lookup cInvalidGame = some (excClassObj nmInvalidGame qInvalidGame cInvalidGame NInvalidGame bsInvalidGame (.ref cTossError :: veT) true snInvalidGame suInvalidGame abInvalidGame coInvalidGame ddInvalidGame kaInvalidGame kbInvalidGame kcInvalidGame kdInvalidGame keInvalidGame "ValueError.__new__"))
    (nInvalidLeaves : PySem.W.nsIn K mainGlobals "InvalidLeaves" = some (some (.ref cInvalidLeaves))) (lInvalidLeaves : K.lookup cInvalidLeaves = some (excClassObj nmInvalidLeaves qInvalidLeaves cInvalidLeaves NInvalidLeaves bsInvalidLeaves (.ref cTossError :: veT) true snInvalidLeaves suInvalidLeaves abInvalidLeaves coInvalidLeaves ddInvalidLeaves kaInvalidLeaves kbInvalidLeaves kcInvalidLeaves kdInvalidLeaves keInvalidLeaves "ValueError.__new__"))
    (nInvalidLot : PySem.W.nsIn K mainGlobals "InvalidLot" = some (some (.ref cInvalidLot))) (lInvalidLot : K.lookup cInvalidLot = some (excClassObj nmInvalidLot qInvalidLot cInvalidLot NInvalidLot bsInvalidLot (.ref cTossError :: veT) true snInvalidLot suInvalidLot abInvalidLot coInvalidLot ddInvalidLot kaInvalidLot kbInvalidLot kcInvalidLot kdInvalidLot keInvalidLot "ValueError.__new__"))
    (nInvalidMachine : PySem.W.nsIn K mainGlobals "InvalidMachine" = some (some (.ref cInvalidMachine))) (lInvalidMachine : K.lookup cInvalidMachine = some (excClassObj nmInvalidMachine qInvalidMachine cInvalidMachine NInvalidMachine bsInvalidMachine (.ref cTossError :: veT) true snInvalidMachine suInvalidMachine abInvalidMachine coInvalidMachine ddInvalidMachine kaInvalidMachine kbInvalidMachine kcInvalidMachine kdInvalidMachine keInvalidMachine "ValueError.__new__"))
    (nInvalidName : PySem.W.nsIn K mainGlobals "InvalidName" = some (some (.ref cInvalidName))) (lInvalidName : K.lookup cInvalidName = some (excClassObj nmInvalidName qInvalidName cInvalidName NInvalidName bsInvalidName (.ref cTossError :: veT) true snInvalidName suInvalidName abInvalidName coInvalidName ddInvalidName kaInvalidName kbInvalidName kcInvalidName kdInvalidName keInvalidName "ValueError.__new__"))
    (nInvalidNumber : PySem.W.nsIn K mainGlobals "InvalidNumber" = some (some (.ref cInvalidNumber))) (lInvalidNumber : K.lookup cInvalidNumber = some (excClassObj nmInvalidNumber qInvalidNumber cInvalidNumber NInvalidNumber bsInvalidNumber (.ref cTossError :: veT) true snInvalidNumber suInvalidNumber abInvalidNumber coInvalidNumber ddInvalidNumber kaInvalidNumber kbInvalidNumber kcInvalidNumber kdInvalidNumber keInvalidNumber "ValueError.__new__"))
    (nInvalidPair : PySem.W.nsIn K mainGlobals "InvalidPair" = some (some (.ref cInvalidPair))) (lInvalidPair : K.lookup cInvalidPair = some (excClassObj nmInvalidPair qInvalidPair cInvalidPair NInvalidPair bsInvalidPair (.ref cTossError :: veT) true snInvalidPair suInvalidPair abInvalidPair coInvalidPair ddInvalidPair kaInvalidPair kbInvalidPair kcInvalidPair kdInvalidPair keInvalidPair "ValueError.__new__"))
    (nInvalidPays : PySem.W.nsIn K mainGlobals "InvalidPays" = some (some (.ref cInvalidPays))) (lInvalidPays : K.lookup cInvalidPays = some (excClassObj nmInvalidPays qInvalidPays cInvalidPays NInvalidPays bsInvalidPays (.ref cTossError :: veT) true snInvalidPays suInvalidPays abInvalidPays coInvalidPays ddInvalidPays kaInvalidPays kbInvalidPays kcInvalidPays kdInvalidPays keInvalidPays "ValueError.__new__"))
    (nInvalidPrizes : PySem.W.nsIn K mainGlobals "InvalidPrizes" = some (some (.ref cInvalidPrizes))) (lInvalidPrizes : K.lookup cInvalidPrizes = some (excClassObj nmInvalidPrizes qInvalidPrizes cInvalidPrizes NInvalidPrizes bsInvalidPrizes (.ref cTossError :: veT) true snInvalidPrizes suInvalidPrizes abInvalidPrizes coInvalidPrizes ddInvalidPrizes kaInvalidPrizes kbInvalidPrizes kcInvalidPrizes kdInvalidPrizes keInvalidPrizes "ValueError.__new__"))
    (nInvalidReader : PySem.W.nsIn K mainGlobals "InvalidReader" = some (some (.ref cInvalidReader))) (lInvalidReader : K.lookup cInvalidReader = some (excClassObj nmInvalidReader qInvalidReader cInvalidReader NInvalidReader bsInvalidReader (.ref cTossError :: veT) true snInvalidReader suInvalidReader abInvalidReader coInvalidReader ddInvalidReader kaInvalidReader kbInvalidReader kcInvalidReader kdInvalidReader keInvalidReader "ValueError.__new__"))
    (nInvalidRow : PySem.W.nsIn K mainGlobals "InvalidRow" = some (some (.ref cInvalidRow))) (lInvalidRow : K.lookup cInvalidRow = some (excClassObj nmInvalidRow qInvalidRow cInvalidRow NInvalidRow bsInvalidRow (.ref cTossError :: veT) true snInvalidRow suInvalidRow abInvalidRow coInvalidRow ddInvalidRow kaInvalidRow kbInvalidRow kcInvalidRow kdInvalidRow keInvalidRow "ValueError.__new__"))
    (nInvalidRule : PySem.W.nsIn K mainGlobals "InvalidRule" = some (some (.ref cInvalidRule))) (lInvalidRule : K.lookup cInvalidRule = some (excClassObj nmInvalidRule qInvalidRule cInvalidRule NInvalidRule bsInvalidRule (.ref cTossError :: veT) true snInvalidRule suInvalidRule abInvalidRule coInvalidRule ddInvalidRule kaInvalidRule kbInvalidRule kcInvalidRule kdInvalidRule keInvalidRule "ValueError.__new__"))
    (nInvalidShares : PySem.W.nsIn K mainGlobals "InvalidShares" = some (some (.ref cInvalidShares))) (lInvalidShares : K.lookup cInvalidShares = some (excClassObj nmInvalidShares qInvalidShares cInvalidShares NInvalidShares bsInvalidShares (.ref cTossError :: veT) true snInvalidShares suInvalidShares abInvalidShares coInvalidShares ddInvalidShares kaInvalidShares kbInvalidShares kcInvalidShares kdInvalidShares keInvalidShares "ValueError.__new__"))
    (nInvalidSource : PySem.W.nsIn K mainGlobals "InvalidSource" = some (some (.ref cInvalidSource))) (lInvalidSource : K.lookup cInvalidSource = some (excClassObj nmInvalidSource qInvalidSource cInvalidSource NInvalidSource bsInvalidSource (.ref cTossError :: veT) true snInvalidSource suInvalidSource abInvalidSource coInvalidSource ddInvalidSource kaInvalidSource kbInvalidSource kcInvalidSource kdInvalidSource keInvalidSource "ValueError.__new__"))
    (nInvalidTable : PySem.W.nsIn K mainGlobals "InvalidTable" = some (some (.ref cInvalidTable))) (lInvalidTable : K.lookup cInvalidTable = some (excClassObj nmInvalidTable qInvalidTable cInvalidTable NInvalidTable bsInvalidTable (.ref cTossError :: veT) true snInvalidTable suInvalidTable abInvalidTable coInvalidTable ddInvalidTable kaInvalidTable kbInvalidTable kcInvalidTable kdInvalidTable keInvalidTable "ValueError.__new__"))
    (nInvalidThing : PySem.W.nsIn K mainGlobals "InvalidThing" = some (some (.ref cInvalidThing))) (lInvalidThing : K.lookup cInvalidThing = some (excClassObj nmInvalidThing qInvalidThing cInvalidThing NInvalidThing bsInvalidThing (.ref cTossError :: veT) true snInvalidThing suInvalidThing abInvalidThing coInvalidThing ddInvalidThing kaInvalidThing kbInvalidThing kcInvalidThing kdInvalidThing keInvalidThing "ValueError.__new__"))
    (nInvalidWord : PySem.W.nsIn K mainGlobals "InvalidWord" = some (some (.ref cInvalidWord))) (lInvalidWord : K.lookup cInvalidWord = some (excClassObj nmInvalidWord qInvalidWord cInvalidWord NInvalidWord bsInvalidWord (.ref cTossError :: veT) true snInvalidWord suInvalidWord abInvalidWord coInvalidWord ddInvalidWord kaInvalidWord kbInvalidWord kcInvalidWord kdInvalidWord keInvalidWord "ValueError.__new__"))
    (nNeverEnds : PySem.W.nsIn K mainGlobals "NeverEnds" = some (some (.ref cNeverEnds))) (lNeverEnds : K.lookup cNeverEnds = some (excClassObj nmNeverEnds qNeverEnds cNeverEnds NNeverEnds bsNeverEnds (.ref cTossError :: veT) true snNeverEnds suNeverEnds abNeverEnds coNeverEnds ddNeverEnds kaNeverEnds kbNeverEnds kcNeverEnds kdNeverEnds keNeverEnds "ValueError.__new__"))
    (nNoTable : PySem.W.nsIn K mainGlobals "NoTable" = some (some (.ref cNoTable))) (lNoTable : K.lookup cNoTable = some (excClassObj nmNoTable qNoTable cNoTable NNoTable bsNoTable (.ref cTossError :: veT) true snNoTable suNoTable abNoTable coNoTable ddNoTable kaNoTable kbNoTable kcNoTable kdNoTable keNoTable "ValueError.__new__"))
    (nNotDrawn : PySem.W.nsIn K mainGlobals "NotDrawn" = some (some (.ref cNotDrawn))) (lNotDrawn : K.lookup cNotDrawn = some (excClassObj nmNotDrawn qNotDrawn cNotDrawn NNotDrawn bsNotDrawn (.ref cTossError :: veT) true snNotDrawn suNotDrawn abNotDrawn coNotDrawn ddNotDrawn kaNotDrawn kbNotDrawn kcNotDrawn kdNotDrawn keNotDrawn "ValueError.__new__"))
    (nNotEnding : PySem.W.nsIn K mainGlobals "NotEnding" = some (some (.ref cNotEnding))) (lNotEnding : K.lookup cNotEnding = some (excClassObj nmNotEnding qNotEnding cNotEnding NNotEnding bsNotEnding (.ref cTossError :: veT) true snNotEnding suNotEnding abNotEnding coNotEnding ddNotEnding kaNotEnding kbNotEnding kcNotEnding kdNotEnding keNotEnding "ValueError.__new__"))
    (nNotSolo : PySem.W.nsIn K mainGlobals "NotSolo" = some (some (.ref cNotSolo))) (lNotSolo : K.lookup cNotSolo = some (excClassObj nmNotSolo qNotSolo cNotSolo NNotSolo bsNotSolo (.ref cTossError :: veT) true snNotSolo suNotSolo abNotSolo coNotSolo ddNotSolo kaNotSolo kbNotSolo kcNotSolo kdNotSolo keNotSolo "ValueError.__new__"))
    (nNothingToUndo : PySem.W.nsIn K mainGlobals "NothingToUndo" = some (some (.ref cNothingToUndo))) (lNothingToUndo : K.lookup cNothingToUndo = some (excClassObj nmNothingToUndo qNothingToUndo cNothingToUndo NNothingToUndo bsNothingToUndo (.ref cTossError :: veT) true snNothingToUndo suNothingToUndo abNothingToUndo coNothingToUndo ddNothingToUndo kaNothingToUndo kbNothingToUndo kcNothingToUndo kdNothingToUndo keNothingToUndo "ValueError.__new__"))
    (nTossError : PySem.W.nsIn K mainGlobals "TossError" = some (some (.ref cTossError))) (lTossError : K.lookup cTossError = some (excClassObj nmTossError qTossError cTossError NTossError bsTossError veT true snTossError suTossError abTossError coTossError ddTossError kaTossError kbTossError kcTossError kdTossError keTossError "ValueError.__new__"))
    (nUnknownName : PySem.W.nsIn K mainGlobals "UnknownName" = some (some (.ref cUnknownName))) (lUnknownName : K.lookup cUnknownName = some (excClassObj nmUnknownName qUnknownName cUnknownName NUnknownName bsUnknownName (.ref cTossError :: veT) true snUnknownName suUnknownName abUnknownName coUnknownName ddUnknownName kaUnknownName kbUnknownName kcUnknownName kdUnknownName keUnknownName "ValueError.__new__"))
    (nUnorderly : PySem.W.nsIn K mainGlobals "Unorderly" = some (some (.ref cUnorderly))) (lUnorderly : K.lookup cUnorderly = some (excClassObj nmUnorderly qUnorderly cUnorderly NUnorderly bsUnorderly (.ref cTossError :: veT) true snUnorderly suUnorderly abUnorderly coUnorderly ddUnorderly kaUnorderly kbUnorderly kcUnorderly kdUnorderly keUnorderly "ValueError.__new__"))
    (nUnreadable : PySem.W.nsIn K mainGlobals "Unreadable" = some (some (.ref cUnreadable))) (lUnreadable : K.lookup cUnreadable = some (excClassObj nmUnreadable qUnreadable cUnreadable NUnreadable bsUnreadable (.ref cTossError :: veT) true snUnreadable suUnreadable abUnreadable coUnreadable ddUnreadable kaUnreadable kbUnreadable kcUnreadable kdUnreadable keUnreadable "ValueError.__new__"))
    (faInvalidGame : PySem.W.findIn K (.ref cInvalidGame) "__init__" = some (some (.ref gI))) (fbInvalidGame : PySem.W.findIn K (.ref cInvalidGame) "__setattr__" = some (some (.builtin "object.__setattr__"))) (fcInvalidGame : PySem.W.findIn K (.ref cInvalidGame) "value" = some none) (fdInvalidGame : PySem.W.findIn K (.ref cInvalidGame) "__getattribute__" = some (some (.builtin "BaseException.__getattribute__"))) (feInvalidGame : PySem.W.findIn K (.ref cInvalidGame) "__getattr__" = some none) (ffInvalidGame : PySem.W.findIn K (.ref cInvalidGame) "__class__" = some (some (.builtin "object.__class__"))) (fgInvalidGame : PySem.W.keepIn K (.ref cInvalidGame) = true)
    (faInvalidLot : PySem.W.findIn K (.ref cInvalidLot) "__init__" = some (some (.ref gI))) (fbInvalidLot : PySem.W.findIn K (.ref cInvalidLot) "__setattr__" = some (some (.builtin "object.__setattr__"))) (fcInvalidLot : PySem.W.findIn K (.ref cInvalidLot) "value" = some none) (fdInvalidLot : PySem.W.findIn K (.ref cInvalidLot) "__getattribute__" = some (some (.builtin "BaseException.__getattribute__"))) (feInvalidLot : PySem.W.findIn K (.ref cInvalidLot) "__getattr__" = some none) (ffInvalidLot : PySem.W.findIn K (.ref cInvalidLot) "__class__" = some (some (.builtin "object.__class__"))) (fgInvalidLot : PySem.W.keepIn K (.ref cInvalidLot) = true)
    (faInvalidPays : PySem.W.findIn K (.ref cInvalidPays) "__init__" = some (some (.ref gI))) (fbInvalidPays : PySem.W.findIn K (.ref cInvalidPays) "__setattr__" = some (some (.builtin "object.__setattr__"))) (fcInvalidPays : PySem.W.findIn K (.ref cInvalidPays) "value" = some none) (fdInvalidPays : PySem.W.findIn K (.ref cInvalidPays) "__getattribute__" = some (some (.builtin "BaseException.__getattribute__"))) (feInvalidPays : PySem.W.findIn K (.ref cInvalidPays) "__getattr__" = some none) (ffInvalidPays : PySem.W.findIn K (.ref cInvalidPays) "__class__" = some (some (.builtin "object.__class__"))) (fgInvalidPays : PySem.W.keepIn K (.ref cInvalidPays) = true)
    (faInvalidPrizes : PySem.W.findIn K (.ref cInvalidPrizes) "__init__" = some (some (.ref gI))) (fbInvalidPrizes : PySem.W.findIn K (.ref cInvalidPrizes) "__setattr__" = some (some (.builtin "object.__setattr__"))) (fcInvalidPrizes : PySem.W.findIn K (.ref cInvalidPrizes) "value" = some none) (fdInvalidPrizes : PySem.W.findIn K (.ref cInvalidPrizes) "__getattribute__" = some (some (.builtin "BaseException.__getattribute__"))) (feInvalidPrizes : PySem.W.findIn K (.ref cInvalidPrizes) "__getattr__" = some none) (ffInvalidPrizes : PySem.W.findIn K (.ref cInvalidPrizes) "__class__" = some (some (.builtin "object.__class__"))) (fgInvalidPrizes : PySem.W.keepIn K (.ref cInvalidPrizes) = true)
    (faInvalidRule : PySem.W.findIn K (.ref cInvalidRule) "__init__" = some (some (.ref gI))) (fbInvalidRule : PySem.W.findIn K (.ref cInvalidRule) "__setattr__" = some (some (.builtin "object.__setattr__"))) (fcInvalidRule : PySem.W.findIn K (.ref cInvalidRule) "value" = some none) (fdInvalidRule : PySem.W.findIn K (.ref cInvalidRule) "__getattribute__" = some (some (.builtin "BaseException.__getattribute__"))) (feInvalidRule : PySem.W.findIn K (.ref cInvalidRule) "__getattr__" = some none) (ffInvalidRule : PySem.W.findIn K (.ref cInvalidRule) "__class__" = some (some (.builtin "object.__class__"))) (fgInvalidRule : PySem.W.keepIn K (.ref cInvalidRule) = true)
    (faInvalidSource : PySem.W.findIn K (.ref cInvalidSource) "__init__" = some (some (.ref gI))) (fbInvalidSource : PySem.W.findIn K (.ref cInvalidSource) "__setattr__" = some (some (.builtin "object.__setattr__"))) (fcInvalidSource : PySem.W.findIn K (.ref cInvalidSource) "value" = some none) (fdInvalidSource : PySem.W.findIn K (.ref cInvalidSource) "__getattribute__" = some (some (.builtin "BaseException.__getattribute__"))) (feInvalidSource : PySem.W.findIn K (.ref cInvalidSource) "__getattr__" = some none) (ffInvalidSource : PySem.W.findIn K (.ref cInvalidSource) "__class__" = some (some (.builtin "object.__class__"))) (fgInvalidSource : PySem.W.keepIn K (.ref cInvalidSource) = true)
    (faInvalidWord : PySem.W.findIn K (.ref cInvalidWord) "__init__" = some (some (.ref gI))) (fbInvalidWord : PySem.W.findIn K (.ref cInvalidWord) "__setattr__" = some (some (.builtin "object.__setattr__"))) (fcInvalidWord : PySem.W.findIn K (.ref cInvalidWord) "value" = some none) (fdInvalidWord : PySem.W.findIn K (.ref cInvalidWord) "__getattribute__" = some (some (.builtin "BaseException.__getattribute__"))) (feInvalidWord : PySem.W.findIn K (.ref cInvalidWord) "__getattr__" = some none) (ffInvalidWord : PySem.W.findIn K (.ref cInvalidWord) "__class__" = some (some (.builtin "object.__class__"))) (fgInvalidWord : PySem.W.keepIn K (.ref cInvalidWord) = true)
    (faNotEnding : PySem.W.findIn K (.ref cNotEnding) "__init__" = some (some (.ref gI))) (fbNotEnding : PySem.W.findIn K (.ref cNotEnding) "__setattr__" = some (some (.builtin "object.__setattr__"))) (fcNotEnding : PySem.W.findIn K (.ref cNotEnding) "value" = some none) (fdNotEnding : PySem.W.findIn K (.ref cNotEnding) "__getattribute__" = some (some (.builtin "BaseException.__getattribute__"))) (feNotEnding : PySem.W.findIn K (.ref cNotEnding) "__getattr__" = some none) (ffNotEnding : PySem.W.findIn K (.ref cNotEnding) "__class__" = some (some (.builtin "object.__class__"))) (fgNotEnding : PySem.W.keepIn K (.ref cNotEnding) = true)
    (faNotSolo : PySem.W.findIn K (.ref cNotSolo) "__init__" = some (some (.ref gI))) (fbNotSolo : PySem.W.findIn K (.ref cNotSolo) "__setattr__" = some (some (.builtin "object.__setattr__"))) (fcNotSolo : PySem.W.findIn K (.ref cNotSolo) "value" = some none) (fdNotSolo : PySem.W.findIn K (.ref cNotSolo) "__getattribute__" = some (some (.builtin "BaseException.__getattribute__"))) (feNotSolo : PySem.W.findIn K (.ref cNotSolo) "__getattr__" = some none) (ffNotSolo : PySem.W.findIn K (.ref cNotSolo) "__class__" = some (some (.builtin "object.__class__"))) (fgNotSolo : PySem.W.keepIn K (.ref cNotSolo) = true)
    (lI : K.lookup gI = some ⟨ocI, odI, .func (PySem.W.fnOf "__init__" "TossError.__init__" (defArgs s_init) (defBody s_init) (defScope s_init) .none kVI dcI pmI anI cdI ctI), slI⟩) (cI : PySem.W.codeIn K cdI "TossError.__init__" = true) (kI : PySem.W.keepIn K (.ref gI) = true) (tI : PySem.W.typeIn K (.ref gI) = some (.type "function"))
    (ndp : [cInvalidDice, cInvalidFigures, cInvalidGame, cInvalidLeaves, cInvalidLot, cInvalidMachine, cInvalidName, cInvalidNumber, cInvalidPair, cInvalidPays, cInvalidPrizes, cInvalidReader, cInvalidRow, cInvalidRule, cInvalidShares, cInvalidSource, cInvalidTable, cInvalidThing, cInvalidWord, cNeverEnds, cNoTable, cNotDrawn, cNotEnding, cNotSolo, cNothingToUndo, cTossError, cUnknownName, cUnorderly, cUnreadable].Nodup) :
    ∃ fd : FuncData, (∀ (s : Shared) (u : Value), BindsTo s fd ⟨[u], []⟩ [("script", u)]) ∧ ∀ base : Heap, K.In base → base.Ns mainGlobals mg → FnOk l.prog w K mg base (L2.CX l.prog w) 7 fa fd ["script"] (toSp K sp_law) := by
  exact all_of {
    a_law_take := g0, fd_law_take := _, m_law_take := PySem.W.mg_of X G a0, F_law_take := fun_mk (st := s_law_take) l0 c0 k0, d_law_take := (fun_mk (st := s_law_take) l0 c0 k0).binds (ps := ["pot", "many"]) (fun _ _ _ _ _ _ us hl => match us, hl with | [_, _], _ => rfl),
    a_law_same := g1, fd_law_same := _, m_law_same := PySem.W.mg_of X G a1, F_law_same := fun_mk (st := s_law_same) l1 c1 k1, d_law_same := (fun_mk (st := s_law_same) l1 c1 k1).binds (ps := ["got", "due"]) (fun _ _ _ _ _ _ us hl => match us, hl with | [_, _], _ => rfl),
    a_law_raised := g2, fd_law_raised := _, m_law_raised := PySem.W.mg_of X G a2, F_law_raised := fun_mk (st := s_law_raised) l2 c2 k2, d_law_raised := (fun_mk (st := s_law_raised) l2 c2 k2).binds (ps := ["which", "given"]) (fun _ _ _ _ _ _ us hl => match us, hl with | [_, _], _ => rfl),
    a_law_raised_named := g3, fd_law_raised_named := _, m_law_raised_named := PySem.W.mg_of X G a3, F_law_raised_named := fun_mk (st := s_law_raised_named) l3 c3 k3, d_law_raised_named := (fun_mk (st := s_law_raised_named) l3 c3 k3).binds (ps := ["which", "given"]) (fun _ _ _ _ _ _ us hl => match us, hl with | [_, _], _ => rfl),
    a_law_kinds := g4, fd_law_kinds := _, m_law_kinds := PySem.W.mg_of X G a4, F_law_kinds := fun_mk (st := s_law_kinds) l4 c4 k4, d_law_kinds := (fun_mk (st := s_law_kinds) l4 c4 k4).binds (ps := ["e"]) (fun _ _ _ _ _ _ us hl => match us, hl with | [_], _ => rfl),
    a_law_given := g5, fd_law_given := _, m_law_given := PySem.W.mg_of X G a5, F_law_given := fun_mk (st := s_law_given) l5 c5 k5, d_law_given := (fun_mk (st := s_law_given) l5 c5 k5).binds (ps := ["pot"]) (fun _ _ _ _ _ _ us hl => match us, hl with | [_], _ => rfl),
    a_law_caught := g6, fd_law_caught := _, m_law_caught := PySem.W.mg_of X G a6, F_law_caught := fun_mk (st := s_law_caught) l6 c6 k6, d_law_caught := (fun_mk (st := s_law_caught) l6 c6 k6).binds (ps := ["which", "given", "named"]) (fun _ _ _ _ _ _ us hl => match us, hl with | [_, _, _], _ => rfl),
    a_law_right := g7, fd_law_right := _, m_law_right := PySem.W.mg_of X G a7, F_law_right := fun_mk (st := s_law_right) l7 c7 k7, d_law_right := (fun_mk (st := s_law_right) l7 c7 k7).binds (ps := ["caught", "which", "given"]) (fun _ _ _ _ _ _ us hl => match us, hl with | [_, _, _], _ => rfl),
    a_law := g8, fd_law := _, m_law := PySem.W.mg_of X G a8, F_law := fun_mk (st := s_law) l8 c8 k8, d_law := (fun_mk (st := s_law) l8 c8 k8).binds (ps := ["script"]) (fun _ _ _ _ _ _ us hl => match us, hl with | [_], _ => rfl),
    b_ValueError := PySem.W.mg_none_of X G z_ValueError,
    b_all := PySem.W.mg_none_of X G z_all,
    b_bool := PySem.W.mg_none_of X G z_bool,
    b_int := PySem.W.mg_none_of X G z_int,
    b_isinstance := PySem.W.mg_none_of X G z_isinstance,
    b_len := PySem.W.mg_none_of X G z_len,
    b_list := PySem.W.mg_none_of X G z_list,
    b_max := PySem.W.mg_none_of X G z_max,
    b_min := PySem.W.mg_none_of X G z_min,
    b_range := PySem.W.mg_none_of X G z_range,
    b_str := PySem.W.mg_none_of X G z_str,
    b_tuple := PySem.W.mg_none_of X G z_tuple,
    C_InvalidDice := cInvalidDice, m_InvalidDice := PySem.W.mg_of X G nInvalidDice, o_InvalidDice := ⟨_, _, _, _, _, _, _, _, _, _, _, _, _, _, lInvalidDice⟩,
    C_InvalidFigures := cInvalidFigures, m_InvalidFigures := PySem.W.mg_of X G nInvalidFigures, o_InvalidFigures := ⟨_, _, _, _, _, _, _, _, _, _, _, _, _, _, lInvalidFigures⟩,
    C_InvalidGame := cInvalidGame, m_InvalidGame := PySem.W.mg_of X G nInvalidGame, o_InvalidGame := ⟨_, _, _, _, _, _, _, _, _, _, _, _, _, _, lInvalidGame⟩,
    C_InvalidLeaves := cInvalidLeaves, m_InvalidLeaves := PySem.W.mg_of X G nInvalidLeaves, o_InvalidLeaves := ⟨_, _, _, _, _, _, _, _, _, _, _, _, _, _, lInvalidLeaves⟩,
    C_InvalidLot := cInvalidLot, m_InvalidLot := PySem.W.mg_of X G nInvalidLot, o_InvalidLot := ⟨_, _, _, _, _, _, _, _, _, _, _, _, _, _, lInvalidLot⟩,
    C_InvalidMachine := cInvalidMachine, m_InvalidMachine := PySem.W.mg_of X G nInvalidMachine, o_InvalidMachine := ⟨_, _, _, _, _, _, _, _, _, _, _, _, _, _, lInvalidMachine⟩,
    C_InvalidName := cInvalidName, m_InvalidName := PySem.W.mg_of X G nInvalidName, o_InvalidName := ⟨_, _, _, _, _, _, _, _, _, _, _, _, _, _, lInvalidName⟩,
    C_InvalidNumber := cInvalidNumber, m_InvalidNumber := PySem.W.mg_of X G nInvalidNumber, o_InvalidNumber := ⟨_, _, _, _, _, _, _, _, _, _, _, _, _, _, lInvalidNumber⟩,
    C_InvalidPair := cInvalidPair, m_InvalidPair := PySem.W.mg_of X G nInvalidPair, o_InvalidPair := ⟨_, _, _, _, _, _, _, _, _, _, _, _, _, _, lInvalidPair⟩,
    C_InvalidPays := cInvalidPays, m_InvalidPays := PySem.W.mg_of X G nInvalidPays, o_InvalidPays := ⟨_, _, _, _, _, _, _, _, _, _, _, _, _, _, lInvalidPays⟩,
    C_InvalidPrizes := cInvalidPrizes, m_InvalidPrizes := PySem.W.mg_of X G nInvalidPrizes, o_InvalidPrizes := ⟨_, _, _, _, _, _, _, _, _, _, _, _, _, _, lInvalidPrizes⟩,
    C_InvalidReader := cInvalidReader, m_InvalidReader := PySem.W.mg_of X G nInvalidReader, o_InvalidReader := ⟨_, _, _, _, _, _, _, _, _, _, _, _, _, _, lInvalidReader⟩,
    C_InvalidRow := cInvalidRow, m_InvalidRow := PySem.W.mg_of X G nInvalidRow, o_InvalidRow := ⟨_, _, _, _, _, _, _, _, _, _, _, _, _, _, lInvalidRow⟩,
    C_InvalidRule := cInvalidRule, m_InvalidRule := PySem.W.mg_of X G nInvalidRule, o_InvalidRule := ⟨_, _, _, _, _, _, _, _, _, _, _, _, _, _, lInvalidRule⟩,
    C_InvalidShares := cInvalidShares, m_InvalidShares := PySem.W.mg_of X G nInvalidShares, o_InvalidShares := ⟨_, _, _, _, _, _, _, _, _, _, _, _, _, _, lInvalidShares⟩,
    C_InvalidSource := cInvalidSource, m_InvalidSource := PySem.W.mg_of X G nInvalidSource, o_InvalidSource := ⟨_, _, _, _, _, _, _, _, _, _, _, _, _, _, lInvalidSource⟩,
    C_InvalidTable := cInvalidTable, m_InvalidTable := PySem.W.mg_of X G nInvalidTable, o_InvalidTable := ⟨_, _, _, _, _, _, _, _, _, _, _, _, _, _, lInvalidTable⟩,
    C_InvalidThing := cInvalidThing, m_InvalidThing := PySem.W.mg_of X G nInvalidThing, o_InvalidThing := ⟨_, _, _, _, _, _, _, _, _, _, _, _, _, _, lInvalidThing⟩,
    C_InvalidWord := cInvalidWord, m_InvalidWord := PySem.W.mg_of X G nInvalidWord, o_InvalidWord := ⟨_, _, _, _, _, _, _, _, _, _, _, _, _, _, lInvalidWord⟩,
    C_NeverEnds := cNeverEnds, m_NeverEnds := PySem.W.mg_of X G nNeverEnds, o_NeverEnds := ⟨_, _, _, _, _, _, _, _, _, _, _, _, _, _, lNeverEnds⟩,
    C_NoTable := cNoTable, m_NoTable := PySem.W.mg_of X G nNoTable, o_NoTable := ⟨_, _, _, _, _, _, _, _, _, _, _, _, _, _, lNoTable⟩,
    C_NotDrawn := cNotDrawn, m_NotDrawn := PySem.W.mg_of X G nNotDrawn, o_NotDrawn := ⟨_, _, _, _, _, _, _, _, _, _, _, _, _, _, lNotDrawn⟩,
    C_NotEnding := cNotEnding, m_NotEnding := PySem.W.mg_of X G nNotEnding, o_NotEnding := ⟨_, _, _, _, _, _, _, _, _, _, _, _, _, _, lNotEnding⟩,
    C_NotSolo := cNotSolo, m_NotSolo := PySem.W.mg_of X G nNotSolo, o_NotSolo := ⟨_, _, _, _, _, _, _, _, _, _, _, _, _, _, lNotSolo⟩,
    C_NothingToUndo := cNothingToUndo, m_NothingToUndo := PySem.W.mg_of X G nNothingToUndo, o_NothingToUndo := ⟨_, _, _, _, _, _, _, _, _, _, _, _, _, _, lNothingToUndo⟩,
    C_TossError := cTossError, m_TossError := PySem.W.mg_of X G nTossError, o_TossError := ⟨_, _, _, _, _, _, _, _, _, _, _, _, _, _, lTossError⟩,
    C_UnknownName := cUnknownName, m_UnknownName := PySem.W.mg_of X G nUnknownName, o_UnknownName := ⟨_, _, _, _, _, _, _, _, _, _, _, _, _, _, lUnknownName⟩,
    C_Unorderly := cUnorderly, m_Unorderly := PySem.W.mg_of X G nUnorderly, o_Unorderly := ⟨_, _, _, _, _, _, _, _, _, _, _, _, _, _, lUnorderly⟩,
    C_Unreadable := cUnreadable, m_Unreadable := PySem.W.mg_of X G nUnreadable, o_Unreadable := ⟨_, _, _, _, _, _, _, _, _, _, _, _, _, _, lUnreadable⟩,
    x_InvalidGame := ⟨faInvalidGame, fbInvalidGame, fcInvalidGame, fdInvalidGame, feInvalidGame, ffInvalidGame, fgInvalidGame⟩,
    x_InvalidLot := ⟨faInvalidLot, fbInvalidLot, fcInvalidLot, fdInvalidLot, feInvalidLot, ffInvalidLot, fgInvalidLot⟩,
    x_InvalidPays := ⟨faInvalidPays, fbInvalidPays, fcInvalidPays, fdInvalidPays, feInvalidPays, ffInvalidPays, fgInvalidPays⟩,
    x_InvalidPrizes := ⟨faInvalidPrizes, fbInvalidPrizes, fcInvalidPrizes, fdInvalidPrizes, feInvalidPrizes, ffInvalidPrizes, fgInvalidPrizes⟩,
    x_InvalidRule := ⟨faInvalidRule, fbInvalidRule, fcInvalidRule, fdInvalidRule, feInvalidRule, ffInvalidRule, fgInvalidRule⟩,
    x_InvalidSource := ⟨faInvalidSource, fbInvalidSource, fcInvalidSource, fdInvalidSource, feInvalidSource, ffInvalidSource, fgInvalidSource⟩,
    x_InvalidWord := ⟨faInvalidWord, fbInvalidWord, fcInvalidWord, fdInvalidWord, feInvalidWord, ffInvalidWord, fgInvalidWord⟩,
    x_NotEnding := ⟨faNotEnding, fbNotEnding, fcNotEnding, fdNotEnding, feNotEnding, ffNotEnding, fgNotEnding⟩,
    x_NotSolo := ⟨faNotSolo, fbNotSolo, fcNotSolo, fdNotSolo, feNotSolo, ffNotSolo, fgNotSolo⟩,
    a_init := gI, fd_init := _, F_init := fun_mk (st := s_init) lI cI kI, d_init := (fun_mk (st := s_init) lI cI kI).binds (ps := ["self", "value"]) (fun _ _ _ _ _ _ us hl => match us, hl with | [_, _], _ => rfl), t_init := tI,
    nd := ndp } hfa
theorem walk {l : PySem.W.OpenLaw} {q : Program} {loose : List Str} {XP : (Str → Option Value) → Heap → Prop} {YP : World → Heap → Prop} {d : DefRec} {K : Params → PySem.W.Frag} (hn : l.most = some 63) (hdf : d.params.defaults = [])
    (hY : ∀ (w : World) (h : Heap), YP w h → (K w.params).In h)
    (F : ∀ (w : World) (mg : Str → Option Value) (fa : Addr) (h : Heap), (K w.params).In h → h.Ns mainGlobals mg → mg d.name = some (.ref fa) →
      ∃ fd : FuncData, (∀ (s : Shared) (u : Value), BindsTo s fd ⟨[u], []⟩ [("script", u)]) ∧ ∀ base : Heap, (K w.params).In base → base.Ns mainGlobals mg → FnOk l.prog w (K w.params) mg base (L2.CX l.prog w) 7 fa fd ["script"] (toSp (K w.params) sp_law)) :
    PySem.W.WalkO q loose XP YP l.row.toRowW d [] (fun f vs => PySem.call f vs) :=
  L2.walk_of (n := 63) (k := 7) (x := "script") (CX := fun w => L2.CX l.prog w) (sp := fun w => toSp (K w.params) sp_law) hn (by decide) hdf ⟨rfl, by decide, by decide⟩ hY F (fun _ _ a ns hl hO hS => law_end hO hS (end_law ns hl)) fun w H s e s' => cx_end l.prog w H s e s'
end K57
open PySem PySem.W PyProof.Rows in
set_option maxRecDepth 100000 in
set_option maxHeartbeats 0 in
theorem PySem.Challenge.cw_wholeplays_k57_errors_of_games_and_sourc_holds : PySem.Challenge.rw_wholeplays_k57_errors_of_games_and_sourc.Holds := by
  w_on; o_law; k_head; (case hw => w_witness2)
  k_fill
  refine K57.walk (l := PySem.Challenge.rw_wholeplays_k57_errors_of_games_and_sourc) rfl rfl (fun w h Y => PySem.W.kIn_of Y) ?F
  case F =>
    intro w mg fa h KX G hmg
    refine' K57.all_mk KX G hmg ?a0 ?l0 ?c0 ?k0 ?a1 ?l1 ?c1 ?k1 ?a2 ?l2 ?c2 ?k2 ?a3 ?l3 ?c3 ?k3 ?a4 ?l4 ?c4 ?k4 ?a5 ?l5 ?c5 ?k5 ?a6 ?l6 ?c6 ?k6 ?a7 ?l7 ?c7 ?k7 ?a8 ?l8 ?c8 ?k8 ?z_ValueError ?z_all ?z_bool ?z_int ?z_isinstance ?z_len ?z_list ?z_max ?z_min ?z_range ?z_str ?z_tuple ?nTossError ?lTossError ?nInvalidDice ?lInvalidDice ?nInvalidFigures ?lInvalidFigures ?nInvalidGame ?lInvalidGame ?nInvalidLeaves ?lInvalidLeaves ?nInvalidLot ?lInvalidLot ?nInvalidMachine ?lInvalidMachine ?nInvalidName ?lInvalidName ?nInvalidNumber ?lInvalidNumber ?nInvalidPair ?lInvalidPair ?nInvalidPays ?lInvalidPays ?nInvalidPrizes ?lInvalidPrizes ?nInvalidReader ?lInvalidReader ?nInvalidRow ?lInvalidRow ?nInvalidRule ?lInvalidRule ?nInvalidShares ?lInvalidShares ?nInvalidSource ?lInvalidSource ?nInvalidTable ?lInvalidTable ?nInvalidThing ?lInvalidThing ?nInvalidWord ?lInvalidWord ?nNeverEnds ?lNeverEnds ?nNoTable ?lNoTable ?nNotDrawn ?lNotDrawn ?nNotEnding ?lNotEnding ?nNotSolo ?lNotSolo ?nNothingToUndo ?lNothingToUndo ?nUnknownName ?lUnknownName ?nUnorderly ?lUnorderly ?nUnreadable ?lUnreadable ?faInvalidGame ?fbInvalidGame ?fcInvalidGame ?fdInvalidGame ?feInvalidGame ?ffInvalidGame ?fgInvalidGame ?faInvalidLot ?fbInvalidLot ?fcInvalidLot ?fdInvalidLot ?feInvalidLot ?ffInvalidLot ?fgInvalidLot ?faInvalidPays ?fbInvalidPays ?fcInvalidPays ?fdInvalidPays ?feInvalidPays ?ffInvalidPays ?fgInvalidPays ?faInvalidPrizes ?fbInvalidPrizes ?fcInvalidPrizes ?fdInvalidPrizes ?feInvalidPrizes ?ffInvalidPrizes ?fgInvalidPrizes ?faInvalidRule ?fbInvalidRule ?fcInvalidRule ?fdInvalidRule ?feInvalidRule ?ffInvalidRule ?fgInvalidRule ?faInvalidSource ?fbInvalidSource ?fcInvalidSource ?fdInvalidSource ?feInvalidSource ?ffInvalidSource ?fgInvalidSource ?faInvalidWord ?fbInvalidWord ?fcInvalidWord ?fdInvalidWord ?feInvalidWord ?ffInvalidWord ?fgInvalidWord ?faNotEnding ?fbNotEnding ?fcNotEnding ?fdNotEnding ?feNotEnding ?ffNotEnding ?fgNotEnding ?faNotSolo ?fbNotSolo ?fcNotSolo ?fdNotSolo ?feNotSolo ?ffNotSolo ?fgNotSolo ?lI ?cI ?kI ?tI ?ndp
    (case a0 => k_is)
    (case l0 => k_is)
    (case c0 => k_is)
    (case k0 => k_is)
    (case a1 => k_is)
    (case l1 => k_is)
    (case c1 => k_is)
    (case k1 => k_is)
    (case a2 => k_is)
    (case l2 => k_is)
    (case c2 => k_is)
    (case k2 => k_is)
    (case a3 => k_is)
    (case l3 => k_is)
    (case c3 => k_is)
    (case k3 => k_is)
    (case a4 => k_is)
    (case l4 => k_is)
    (case c4 => k_is)
    (case k4 => k_is)
    (case a5 => k_is)
    (case l5 => k_is)
    (case c5 => k_is)
    (case k5 => k_is)
    (case a6 => k_is)
    (case l6 => k_is)
    (case c6 => k_is)
    (case k6 => k_is)
    (case a7 => k_is)
    (case l7 => k_is)
    (case c7 => k_is)
    (case k7 => k_is)
    (case a8 => k_is)
    (case l8 => k_is)
    (case c8 => k_is)
    (case k8 => k_is)
    (case z_ValueError => k_is)
    (case z_all => k_is)
    (case z_bool => k_is)
    (case z_int => k_is)
    (case z_isinstance => k_is)
    (case z_len => k_is)
    (case z_list => k_is)
    (case z_max => k_is)
    (case z_min => k_is)
    (case z_range => k_is)
    (case z_str => k_is)
    (case z_tuple => k_is)
    (case nTossError => k_is)
    (case lTossError => k_is)
    (case nInvalidDice => k_is)
    (case lInvalidDice => k_is)
    (case nInvalidFigures => k_is)
    (case lInvalidFigures => k_is)
    (case nInvalidGame => k_is)
    (case lInvalidGame => k_is)
    (case nInvalidLeaves => k_is)
    (case lInvalidLeaves => k_is)
    (case nInvalidLot => k_is)
    (case lInvalidLot => k_is)
    (case nInvalidMachine => k_is)
    (case lInvalidMachine => k_is)
    (case nInvalidName => k_is)
    (case lInvalidName => k_is)
    (case nInvalidNumber => k_is)
    (case lInvalidNumber => k_is)
    (case nInvalidPair => k_is)
    (case lInvalidPair => k_is)
    (case nInvalidPays => k_is)
    (case lInvalidPays => k_is)
    (case nInvalidPrizes => k_is)
    (case lInvalidPrizes => k_is)
    (case nInvalidReader => k_is)
    (case lInvalidReader => k_is)
    (case nInvalidRow => k_is)
    (case lInvalidRow => k_is)
    (case nInvalidRule => k_is)
    (case lInvalidRule => k_is)
    (case nInvalidShares => k_is)
    (case lInvalidShares => k_is)
    (case nInvalidSource => k_is)
    (case lInvalidSource => k_is)
    (case nInvalidTable => k_is)
    (case lInvalidTable => k_is)
    (case nInvalidThing => k_is)
    (case lInvalidThing => k_is)
    (case nInvalidWord => k_is)
    (case lInvalidWord => k_is)
    (case nNeverEnds => k_is)
    (case lNeverEnds => k_is)
    (case nNoTable => k_is)
    (case lNoTable => k_is)
    (case nNotDrawn => k_is)
    (case lNotDrawn => k_is)
    (case nNotEnding => k_is)
    (case lNotEnding => k_is)
    (case nNotSolo => k_is)
    (case lNotSolo => k_is)
    (case nNothingToUndo => k_is)
    (case lNothingToUndo => k_is)
    (case nUnknownName => k_is)
    (case lUnknownName => k_is)
    (case nUnorderly => k_is)
    (case lUnorderly => k_is)
    (case nUnreadable => k_is)
    (case lUnreadable => k_is)
    (case faInvalidGame => k_is)
    (case fbInvalidGame => k_is)
    (case fcInvalidGame => k_is)
    (case fdInvalidGame => k_is)
    (case feInvalidGame => k_is)
    (case ffInvalidGame => k_is)
    (case fgInvalidGame => k_is)
    (case faInvalidLot => k_is)
    (case fbInvalidLot => k_is)
    (case fcInvalidLot => k_is)
    (case fdInvalidLot => k_is)
    (case feInvalidLot => k_is)
    (case ffInvalidLot => k_is)
    (case fgInvalidLot => k_is)
    (case faInvalidPays => k_is)
    (case fbInvalidPays => k_is)
    (case fcInvalidPays => k_is)
    (case fdInvalidPays => k_is)
    (case feInvalidPays => k_is)
    (case ffInvalidPays => k_is)
    (case fgInvalidPays => k_is)
    (case faInvalidPrizes => k_is)
    (case fbInvalidPrizes => k_is)
    (case fcInvalidPrizes => k_is)
    (case fdInvalidPrizes => k_is)
    (case feInvalidPrizes => k_is)
    (case ffInvalidPrizes => k_is)
    (case fgInvalidPrizes => k_is)
    (case faInvalidRule => k_is)
    (case fbInvalidRule => k_is)
    (case fcInvalidRule => k_is)
    (case fdInvalidRule => k_is)
    (case feInvalidRule => k_is)
    (case ffInvalidRule => k_is)
    (case fgInvalidRule => k_is)
    (case faInvalidSource => k_is)
    (case fbInvalidSource => k_is)
    (case fcInvalidSource => k_is)
    (case fdInvalidSource => k_is)
    (case feInvalidSource => k_is)
    (case ffInvalidSource => k_is)
    (case fgInvalidSource => k_is)
    (case faInvalidWord => k_is)
    (case fbInvalidWord => k_is)
    (case fcInvalidWord => k_is)
    (case fdInvalidWord => k_is)
    (case feInvalidWord => k_is)
    (case ffInvalidWord => k_is)
    (case fgInvalidWord => k_is)
    (case faNotEnding => k_is)
    (case fbNotEnding => k_is)
    (case fcNotEnding => k_is)
    (case fdNotEnding => k_is)
    (case feNotEnding => k_is)
    (case ffNotEnding => k_is)
    (case fgNotEnding => k_is)
    (case faNotSolo => k_is)
    (case fbNotSolo => k_is)
    (case fcNotSolo => k_is)
    (case fdNotSolo => k_is)
    (case feNotSolo => k_is)
    (case ffNotSolo => k_is)
    (case fgNotSolo => k_is)
    (case lI => k_is)
    (case cI => k_is)
    (case kI => k_is)
    (case tI => k_is)
    (case ndp => decide)
