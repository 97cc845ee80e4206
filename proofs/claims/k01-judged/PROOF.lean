import PyProof.Rows.All
import Wide.All
import OpenK.AllK
import Wide.FinOn
import HandS.ForMost
import HandS.Exc
import HandS.ExcOwn
import HandS.Wide
import HandS.WordsExc
import HandS.ExcInit
import HandS.Gcd
import HandS.IsInst
import HandS.TupAny
import HandS.More
import HandS.Conv
import HandS.WideBits
import KE.KMathGC
import HandS.Style
import HandS.Iter
import KE.GoesEnum
import HandS.SetFor
import HandS.Strs
import HandS.TupMul
import HandS.Zip
import HandS.Dict
import PySem.Challenge.RW_wholeplays_k01_whole_shares_judged_and_m
set_option Elab.async false
set_option linter.all false
set_option maxRecDepth 100000
set_option maxHeartbeats 4000000
/-! DL: a layer of plain values over HandS: tuples (and what never changes) by their contents, lists and dicts by address in a small store. -/
namespace DL
open PySem PySem.Spec PyProof.Rows L2

/-! ### values -/
inductive D where
  | non | bl (b : Bool) | int (i : Int) | str (x : Str) | ty (n : String) | ref (a : Addr)
  | tup (xs : List D)
  | fro (xs : List D)
  | exc (C : Addr) (d : D)
  deriving Inhabited

/-- a list that never changes: locked, or of the written part -/
def StL (K : PySem.W.Frag) (H : Hp) (a : Addr) (xs : List V) : Prop :=
  (∃ o, H a = some (.frz o (.lst xs))) ∨
    ∃ (o : Obj) (its : Array Value) (n : Nat), K.lookup a = some o ∧ o.cls = .type "list" ∧ o.dict = none ∧ o.data = .seq its n ∧ its.size ≤ sizeLine ∧ Vals xs its.toList
theorem StL.sq {K : PySem.W.Frag} {H : Hp} {a : Addr} {xs : List V} (h : StL K H a xs) : SqL K H a xs := by
  rcases h with ⟨o, h⟩ | h
  · exact .inl (.inr ⟨o, h⟩)
  · exact .inr h
/-- a tuple -/
def StT (K : PySem.W.Frag) (H : Hp) (a : Addr) (xs : List V) : Prop :=
  H a = some (.tup xs) ∨
    ∃ (o : Obj) (its : Array Value) (n : Nat), K.lookup a = some o ∧ o.cls = .type "tuple" ∧ o.data = .seq its n ∧ its.size ≤ sizeLine ∧ Vals xs its.toList
theorem StT.sq {K : PySem.W.Frag} {H : Hp} {a : Addr} {xs : List V} (h : StT K H a xs) : SqT K H a xs := by
  rcases h with h | h
  · exact .inl (.inl h)
  · exact .inr h
/-- an exception object -/
def XO (a C dx : Addr) : HO := .ext fun h => ∃ oe vs, h.get? a = some oe ∧ Zc (.ref C) (some dx) oe ∧ oe.data = .fields vs

mutual
def DV (K : PySem.W.Frag) (H : Hp) : D → V → Prop
  | .non, v => v = .non
  | .bl b, v => v = .bl b
  | .int i, v => v = .int i
  | .str x, v => v = .str x
  | .ty n, v => v = .ty n
  | .ref a, v => v = .ref a
  | .tup xs, v => ∃ a vs, v = .ref a ∧ StT K H a vs ∧ DVs K H xs vs
  | .fro xs, v => ∃ a vs, v = .ref a ∧ StL K H a vs ∧ DVs K H xs vs
  | .exc C d, v => ∃ a dx w, v = .ref a ∧ H a = some (XO a C dx) ∧ H dx = some (.xd [(("value" : Str), w)]) ∧ DV K H d w
def DVs (K : PySem.W.Frag) (H : Hp) : List D → List V → Prop
  | [], vs => vs = []
  | d :: ds, vs => ∃ v ws, vs = v :: ws ∧ DV K H d v ∧ DVs K H ds ws
end

/-! ### the store -/
inductive Cell where
  | lst (xs : List D)
  | dK (kvs : List (Key × D))
abbrev Sto := Addr → Option Cell
def sup (S : Sto) (a : Addr) (c : Cell) : Sto := fun b => if b = a then some c else S b
theorem sup_same {S : Sto} {a : Addr} {c : Cell} : sup S a c a = some c := by unfold sup; rw [if_pos rfl]
theorem sup_ne {S : Sto} {a b : Addr} {c : Cell} (h : b ≠ a) : sup S a c b = S b := by unfold sup; rw [if_neg h]
theorem sup_sup {S : Sto} {a : Addr} {c c' : Cell} : sup (sup S a c) a c' = sup S a c' := by
  funext b; unfold sup; split <;> rfl
inductive DKs (K : PySem.W.Frag) (H : Hp) : List (Key × D) → List (Key × V) → Prop
  | nil : DKs K H [] []
  | cons {k : Key} {d : D} {v : V} {ds : List (Key × D)} {vs : List (Key × V)} : DV K H d v → DKs K H ds vs → DKs K H ((k, d) :: ds) ((k, v) :: vs)
def CellOk (K : PySem.W.Frag) (H : Hp) (a : Addr) : Cell → Prop
  | .lst xs => ∃ vs, H a = some (.lst vs) ∧ DVs K H xs vs
  | .dK kvs => ∃ vs, H a = some (.dK vs) ∧ DKs K H kvs vs
def SOk (K : PySem.W.Frag) (H : Hp) (S : Sto) : Prop := ∀ a c, S a = some c → CellOk K H a c
theorem SOk.free {K : PySem.W.Frag} {H : Hp} {S : Sto} (h : SOk K H S) {a : Addr} (e : H a = none) : S a = none := by
  cases q : S a with
  | none => rfl
  | some c =>
    have := h a c q
    cases c with
    | lst xs => obtain ⟨vs, e2, _⟩ := this; rw [e] at e2; cases e2
    | dK kvs => obtain ⟨vs, e2, _⟩ := this; rw [e] at e2; cases e2
/-- whatever is tracked and is not a cell's kind is not in the store -/
theorem SOk.out {K : PySem.W.Frag} {H : Hp} {S : Sto} (h : SOk K H S) {a : Addr} {o : HO} (e : H a = some o) (h1 : ∀ xs, o ≠ .lst xs) (h2 : ∀ xs, o ≠ .dK xs) : S a = none := by
  cases q : S a with
  | none => rfl
  | some c =>
    have := h a c q
    cases c with
    | lst xs => obtain ⟨vs, e2, _⟩ := this; rw [e] at e2; exact absurd (Option.some.inj e2) (h1 _)
    | dK kvs => obtain ⟨vs, e2, _⟩ := this; rw [e] at e2; exact absurd (Option.some.inj e2) (h2 _)

/-- the step from one heap and store to another: what is tracked beside the store stays; the store grows at new places alone -/
structure Go (K : PySem.W.Frag) (H : Hp) (S : Sto) (H' : Hp) (S' : Sto) : Prop where
  ok0 : SOk K H S
  ok : SOk K H' S'
  frame : ∀ a o, S a = none → H a = some o → H' a = some o
  ex : ∀ a o, S a = none → H a = some o → S' a = none
section
variable {K : PySem.W.Frag} {H H1 H2 : Hp} {S S1 S2 : Sto}
theorem Go.refl (h : SOk K H S) : Go K H S H S := ⟨h, h, fun _ _ _ e => e, fun _ _ e _ => e⟩
theorem Go.trans (g : Go K H S H1 S1) (g' : Go K H1 S1 H2 S2) : Go K H S H2 S2 :=
  ⟨g.ok0, g'.ok, fun a o e h => g'.frame a o (g.ex a o e h) (g.frame a o e h), fun a o e h => g'.ex a o (g.ex a o e h) (g.frame a o e h)⟩
theorem Go.tup (g : Go K H S H1 S1) {a : Addr} {vs : List V} (h : StT K H a vs) : StT K H1 a vs := by
  rcases h with h | h
  · exact .inl (g.frame a _ (g.ok0.out h (fun _ q => by cases q) (fun _ q => by cases q)) h)
  · exact .inr h
theorem Go.fro (g : Go K H S H1 S1) {a : Addr} {vs : List V} (h : StL K H a vs) : StL K H1 a vs := by
  rcases h with ⟨o, h⟩ | h
  · exact .inl ⟨o, g.frame a _ (g.ok0.out h (fun _ q => by cases q) (fun _ q => by cases q)) h⟩
  · exact .inr h
mutual
theorem DV.go (g : Go K H S H1 S1) : ∀ (d : D) (v : V), DV K H d v → DV K H1 d v
  | .non, _, h => h
  | .bl _, _, h => h
  | .int _, _, h => h
  | .str _, _, h => h
  | .ty _, _, h => h
  | .ref _, _, h => h
  | .tup xs, v, h => by
    obtain ⟨a, vs, e, q, r⟩ := h
    exact ⟨a, vs, e, g.tup q, DVs.go g xs vs r⟩
  | .fro xs, v, h => by
    obtain ⟨a, vs, e, q, r⟩ := h
    exact ⟨a, vs, e, g.fro q, DVs.go g xs vs r⟩
  | .exc C d, v, h => by
    obtain ⟨a, dx, w, e, q1, q2, r⟩ := h
    exact ⟨a, dx, w, e, g.frame a _ (g.ok0.out q1 (fun _ q => by cases q) (fun _ q => by cases q)) q1, g.frame dx _ (g.ok0.out q2 (fun _ q => by cases q) (fun _ q => by cases q)) q2, DV.go g d w r⟩
theorem DVs.go (g : Go K H S H1 S1) : ∀ (ds : List D) (vs : List V), DVs K H ds vs → DVs K H1 ds vs
  | [], _, h => h
  | d :: ds, vs, h => by
    obtain ⟨v, ws, e, r, q⟩ := h
    exact ⟨v, ws, e, DV.go g d v r, DVs.go g ds ws q⟩
end
theorem DKs.go (g : Go K H S H1 S1) {ds : List (Key × D)} {vs : List (Key × V)} (h : DKs K H ds vs) : DKs K H1 ds vs := by
  induction h with
  | nil => exact .nil
  | cons r _ ih => exact .cons (DV.go g _ _ r) ih

theorem DVs.length : ∀ {ds : List D} {vs : List V}, DVs K H ds vs → ds.length = vs.length
  | [], _, h => by cases (show _ = [] from h); rfl
  | d :: ds, vs, h => by
    obtain ⟨v, ws, rfl, _, q⟩ := h
    rw [List.length_cons, List.length_cons, DVs.length q]
theorem DVs.get : ∀ {ds : List D} {vs : List V} {i : Nat} {d : D}, DVs K H ds vs → ds[i]? = some d → ∃ v, vs[i]? = some v ∧ DV K H d v
  | [], _, _, _, _, e => by simp at e
  | d :: ds, vs, 0, x, h, e => by
    obtain ⟨v, ws, rfl, r, q⟩ := h
    have e : d = x := by simpa using e
    subst e
    exact ⟨v, rfl, r⟩
  | d :: ds, vs, i + 1, x, h, e => by
    obtain ⟨v, ws, rfl, r, q⟩ := h
    exact DVs.get (i := i) q (by simpa using e)
theorem DVs.nil : DVs K H [] [] := rfl
theorem DVs.cons {d : D} {v : V} {ds : List D} {vs : List V} (h : DV K H d v) (t : DVs K H ds vs) : DVs K H (d :: ds) (v :: vs) := ⟨v, vs, rfl, h, t⟩
theorem DVs.append : ∀ {ds es : List D} {vs ws : List V}, DVs K H ds vs → DVs K H es ws → DVs K H (ds ++ es) (vs ++ ws)
  | [], _, _, _, h, t => by cases (show _ = [] from h); exact t
  | d :: ds, es, vs, ws, h, t => by
    obtain ⟨v, us, rfl, r, q⟩ := h
    exact DVs.cons r (DVs.append q t)
theorem DVs.take : ∀ {ds : List D} {vs : List V} (n : Nat), DVs K H ds vs → DVs K H (ds.take n) (vs.take n)
  | _, _, 0, _ => by simp [DVs]
  | [], _, _ + 1, h => by cases (show _ = [] from h); exact DVs.nil
  | d :: ds, vs, n + 1, h => by
    obtain ⟨v, us, rfl, r, q⟩ := h
    exact DVs.cons r (DVs.take n q)
theorem DVs.drop : ∀ {ds : List D} {vs : List V} (n : Nat), DVs K H ds vs → DVs K H (ds.drop n) (vs.drop n)
  | _, _, 0, h => h
  | [], _, _ + 1, h => by cases (show _ = [] from h); exact DVs.nil
  | d :: ds, vs, n + 1, h => by
    obtain ⟨v, us, rfl, r, q⟩ := h
    exact DVs.drop n q
theorem DVs.set : ∀ {ds : List D} {vs : List V} {d : D} {v : V} (i : Nat), DVs K H ds vs → DV K H d v → DVs K H (ds.set i d) (vs.set i v)
  | [], _, _, _, _, h, _ => by cases (show _ = [] from h); exact DVs.nil
  | d :: ds, vs, x, y, 0, h, t => by
    obtain ⟨v, us, rfl, r, q⟩ := h
    exact DVs.cons t q
  | d :: ds, vs, x, y, i + 1, h, t => by
    obtain ⟨v, us, rfl, r, q⟩ := h
    exact DVs.cons r (DVs.set i q t)
theorem DVs.rev : ∀ {ds : List D} {vs : List V}, DVs K H ds vs → DVs K H ds.reverse vs.reverse
  | [], _, h => by cases (show _ = [] from h); exact DVs.nil
  | d :: ds, vs, h => by
    obtain ⟨v, us, rfl, r, q⟩ := h
    rw [List.reverse_cons, List.reverse_cons]
    exact DVs.append (DVs.rev q) (DVs.cons r DVs.nil)
theorem DVs.ints : ∀ {ns : List Int} {vs : List V}, DVs K H (ns.map D.int) vs → vs = ns.map V.int
  | [], _, h => h
  | n :: ns, vs, h => by
    obtain ⟨v, us, rfl, r, q⟩ := h
    rw [List.map_cons, ← DVs.ints q, show v = V.int n from r]
theorem DVs.of_ints : ∀ {ns : List Int}, DVs K H (ns.map D.int) (ns.map V.int)
  | [] => DVs.nil
  | n :: ns => DVs.cons (show DV K H (.int n) (.int n) from rfl) DVs.of_ints
theorem DVs.bls : ∀ {ns : List Bool} {vs : List V}, DVs K H (ns.map D.bl) vs → vs = ns.map V.bl
  | [], _, h => h
  | n :: ns, vs, h => by
    obtain ⟨v, us, rfl, r, q⟩ := h
    rw [List.map_cons, ← DVs.bls q, show v = V.bl n from r]
theorem DVs.strs : ∀ {ns : List Str} {vs : List V}, DVs K H (ns.map D.str) vs → vs = ns.map V.str
  | [], _, h => h
  | n :: ns, vs, h => by
    obtain ⟨v, us, rfl, r, q⟩ := h
    rw [List.map_cons, ← DVs.strs q, show v = V.str n from r]

/-- a new object beside the store -/
theorem Go.new (h : SOk K H S) {p : Addr} {o : HO} (hp : H p = none) : Go K H S (upd H p o) S := by
  have sok : ∀ a c, S a = some c → a ≠ p := fun a c e z => by
    subst z
    rw [h.free hp] at e
    cases e
  have g0 : ∀ a u, H a = some u → upd H p o a = some u := fun a u e => by rw [upd_ne (ne_of_none e hp)]; exact e
  -- through an empty store
  have gE : Go K H (fun _ => none) (upd H p o) (fun _ => none) := ⟨fun _ _ e => by simp at e, fun _ _ e => by simp at e, fun a u _ e => g0 a u e, fun _ _ _ _ => rfl⟩
  refine ⟨h, fun a c e => ?_, fun a u _ e => g0 a u e, fun _ _ e _ => e⟩
  have := h a c e
  cases c with
  | lst xs => obtain ⟨vs, e1, r⟩ := this; exact ⟨vs, g0 _ _ e1, DVs.go gE _ _ r⟩
  | dK kvs => obtain ⟨vs, e1, r⟩ := this; exact ⟨vs, g0 _ _ e1, DKs.go gE r⟩
theorem Go.newLst (h : SOk K H S) {p : Addr} {xs : List D} {vs : List V} (hp : H p = none) (r : DVs K H xs vs) : Go K H S (upd H p (.lst vs)) (sup S p (.lst xs)) := by
  have g := Go.new (o := .lst vs) h hp
  refine ⟨h, fun a c e => ?_, g.frame, fun a o e q => by rw [sup_ne (ne_of_none q hp)]; exact e⟩
  by_cases ha : a = p
  · subst ha
    rw [sup_same] at e; cases e
    exact ⟨vs, upd_same, DVs.go g _ _ r⟩
  · rw [sup_ne ha] at e
    exact g.ok a c e
theorem Go.newDK (h : SOk K H S) {p : Addr} {xs : List (Key × D)} {vs : List (Key × V)} (hp : H p = none) (r : DKs K H xs vs) : Go K H S (upd H p (.dK vs)) (sup S p (.dK xs)) := by
  have g := Go.new (o := .dK vs) h hp
  refine ⟨h, fun a c e => ?_, g.frame, fun a o e q => by rw [sup_ne (ne_of_none q hp)]; exact e⟩
  by_cases ha : a = p
  · subst ha
    rw [sup_same] at e; cases e
    exact ⟨vs, upd_same, DKs.go g r⟩
  · rw [sup_ne ha] at e
    exact g.ok a c e
theorem tup_wr {p : Addr} {o o' : HO} (hp : H p = some o) (hc : (∃ xs, o = .lst xs) ∨ ∃ xs, o = .dK xs) {a : Addr} {vs : List V} (h : StT K H a vs) : StT K (upd H p o') a vs := by
  have ne : ∀ {b u}, H b = some u → (∀ xs, u ≠ .lst xs) → (∀ xs, u ≠ .dK xs) → b ≠ p := fun {b u} e h1 h2 z => by
    subst z
    rw [hp] at e
    rcases hc with ⟨xs, q⟩ | ⟨xs, q⟩
    · exact h1 xs ((Option.some.inj e).symm.trans q)
    · exact h2 xs ((Option.some.inj e).symm.trans q)
  rcases h with h | h
  · exact .inl (by rw [upd_ne (ne h (fun _ q => by cases q) (fun _ q => by cases q))]; exact h)
  · exact .inr h
mutual
theorem DV.wr {p : Addr} {o o' : HO} (hp : H p = some o) (hc : (∃ xs, o = .lst xs) ∨ ∃ xs, o = .dK xs) : ∀ (d : D) (v : V), DV K H d v → DV K (upd H p o') d v
  | .non, _, h => h
  | .bl _, _, h => h
  | .int _, _, h => h
  | .str _, _, h => h
  | .ty _, _, h => h
  | .ref _, _, h => h
  | .tup xs, v, h => by
    obtain ⟨a, vs, e, q, r⟩ := h
    exact ⟨a, vs, e, tup_wr hp hc q, DVs.wr hp hc xs vs r⟩
  | .fro xs, v, h => by
    obtain ⟨a, vs, e, q, r⟩ := h
    refine ⟨a, vs, e, ?_, DVs.wr hp hc xs vs r⟩
    rcases q with ⟨u, q⟩ | q
    · refine .inl ⟨u, ?_⟩
      rw [upd_ne (fun z => ?_)]
      · exact q
      · subst z
        rw [hp] at q
        rcases hc with ⟨xs, z⟩ | ⟨xs, z⟩ <;> (rw [z] at q; cases q)
    · exact .inr q
  | .exc C d, v, h => by
    obtain ⟨a, dx, w, e, q1, q2, r⟩ := h
    refine ⟨a, dx, w, e, ?_, ?_, DV.wr hp hc d w r⟩
    · rw [upd_ne (fun z => ?_)]
      · exact q1
      · subst z
        rw [hp] at q1
        rcases hc with ⟨xs, z⟩ | ⟨xs, z⟩ <;> (rw [z] at q1; cases q1)
    · rw [upd_ne (fun z => ?_)]
      · exact q2
      · subst z
        rw [hp] at q2
        rcases hc with ⟨xs, z⟩ | ⟨xs, z⟩ <;> (rw [z] at q2; cases q2)
theorem DVs.wr {p : Addr} {o o' : HO} (hp : H p = some o) (hc : (∃ xs, o = .lst xs) ∨ ∃ xs, o = .dK xs) : ∀ (ds : List D) (vs : List V), DVs K H ds vs → DVs K (upd H p o') ds vs
  | [], _, h => h
  | d :: ds, vs, h => by
    obtain ⟨v, ws, e, r, q⟩ := h
    exact ⟨v, ws, e, DV.wr hp hc d v r, DVs.wr hp hc ds ws q⟩
end
theorem DKs.wr {p : Addr} {o o' : HO} (hp : H p = some o) (hc : (∃ xs, o = .lst xs) ∨ ∃ xs, o = .dK xs) {ds : List (Key × D)} {vs : List (Key × V)} (h : DKs K H ds vs) : DKs K (upd H p o') ds vs := by
  induction h with
  | nil => exact .nil
  | cons r _ ih => exact .cons (DV.wr hp hc _ _ r) ih
theorem Go.setLst (h : SOk K H S) {p : Addr} {xs0 xs : List D} {vs : List V} (hp : S p = some (.lst xs0)) (r : DVs K H xs vs) : Go K H S (upd H p (.lst vs)) (sup S p (.lst xs)) := by
  obtain ⟨vs0, e0, _⟩ := h p _ hp
  refine ⟨h, fun a c e => ?_, fun a o e q => ?_, fun a o e q => ?_⟩
  · by_cases ha : a = p
    · subst ha
      rw [sup_same] at e; cases e
      exact ⟨vs, upd_same, DVs.wr e0 (.inl ⟨_, rfl⟩) _ _ r⟩
    · rw [sup_ne ha] at e
      have := h a c e
      cases c with
      | lst xs => obtain ⟨ws, e1, r⟩ := this; exact ⟨ws, by rw [upd_ne ha]; exact e1, DVs.wr e0 (.inl ⟨_, rfl⟩) _ _ r⟩
      | dK kvs => obtain ⟨ws, e1, r⟩ := this; exact ⟨ws, by rw [upd_ne ha]; exact e1, DKs.wr e0 (.inl ⟨_, rfl⟩) r⟩
  · rw [upd_ne (fun z => ?_)]
    · exact q
    · subst z; rw [hp] at e; cases e
  · rw [sup_ne (fun z => ?_)]
    · exact e
    · subst z; rw [hp] at e; cases e
theorem Go.setDK (h : SOk K H S) {p : Addr} {xs0 xs : List (Key × D)} {vs : List (Key × V)} (hp : S p = some (.dK xs0)) (r : DKs K H xs vs) : Go K H S (upd H p (.dK vs)) (sup S p (.dK xs)) := by
  obtain ⟨vs0, e0, _⟩ := h p _ hp
  refine ⟨h, fun a c e => ?_, fun a o e q => ?_, fun a o e q => ?_⟩
  · by_cases ha : a = p
    · subst ha
      rw [sup_same] at e; cases e
      exact ⟨vs, upd_same, DKs.wr e0 (.inr ⟨_, rfl⟩) r⟩
    · rw [sup_ne ha] at e
      have := h a c e
      cases c with
      | lst xs => obtain ⟨ws, e1, r⟩ := this; exact ⟨ws, by rw [upd_ne ha]; exact e1, DVs.wr e0 (.inr ⟨_, rfl⟩) _ _ r⟩
      | dK kvs => obtain ⟨ws, e1, r⟩ := this; exact ⟨ws, by rw [upd_ne ha]; exact e1, DKs.wr e0 (.inr ⟨_, rfl⟩) r⟩
  · rw [upd_ne (fun z => ?_)]
    · exact q
    · subst z; rw [hp] at e; cases e
  · rw [sup_ne (fun z => ?_)]
    · exact e
    · subst z; rw [hp] at e; cases e
/-- a list that is read: a cell, or one that never changes -/
def RdL (S : Sto) (d : D) (xs : List D) : Prop := (∃ a, d = .ref a ∧ S a = some (.lst xs)) ∨ d = .fro xs
theorem RdL.sq (h : SOk K H S) {d : D} {xs : List D} {v : V} (r : RdL S d xs) (dv : DV K H d v) : ∃ a vs, v = .ref a ∧ SqL K H a vs ∧ DVs K H xs vs := by
  rcases r with ⟨a, rfl, e⟩ | rfl
  · obtain ⟨vs, e1, q⟩ := h a _ e
    exact ⟨a, vs, dv, SqL.of e1, q⟩
  · obtain ⟨a, vs, e, q, r⟩ := dv
    exact ⟨a, vs, e, q.sq, r⟩
/-- a slot map -/
def SRv (K : PySem.W.Frag) (σ : L2.St) (H : Hp) (ρ : List (Option D)) : Prop := ρ.length = σ.length ∧ ∀ (i : Nat) (d : D), ρ[i]? = some (some d) → ∃ v, σ[i]? = some (some v) ∧ DV K H d v
theorem SRv.go {σ : L2.St} {ρ : List (Option D)} (r : SRv K σ H ρ) (g : Go K H S H1 S1) : SRv K σ H1 ρ := ⟨r.1, fun i d e => by
  obtain ⟨v, e1, q⟩ := r.2 i d e
  exact ⟨v, e1, DV.go g _ _ q⟩⟩
theorem SRv.set {σ : L2.St} {ρ : List (Option D)} (r : SRv K σ H ρ) {d : D} {v : V} (q : DV K H d v) (i : Nat) : SRv K (σ.set i (some v)) H (ρ.set i (some d)) := by
  refine ⟨by rw [List.length_set, List.length_set]; exact r.1, fun j e h => ?_⟩
  by_cases hj : i = j
  · subst hj
    have hl : i < ρ.length := by
      have := (List.getElem?_eq_some_iff.mp h).1
      rwa [List.length_set] at this
    rw [List.getElem?_set_self hl] at h
    have e2 : d = e := Option.some.inj (Option.some.inj h)
    subst e2
    exact ⟨v, by rw [List.getElem?_set_self (by rw [← r.1]; exact hl)], q⟩
  · rw [List.getElem?_set_ne hj] at h
    obtain ⟨u, e1, q1⟩ := r.2 j e h
    exact ⟨u, by rw [List.getElem?_set_ne hj]; exact e1, q1⟩
end
end DL
set_option Elab.async false
set_option linter.all false
set_option maxRecDepth 100000
set_option maxHeartbeats 4000000
namespace DL
open PySem PySem.Spec PyProof.Rows L2

/-! ### readings of plain values -/
abbrev Ro := List (Option D)
abbrev RE := Ro → Sto → (D → Sto → Prop) → Prop
abbrev RT := Ro → Sto → (Bool → Sto → Prop) → Prop
abbrev RA := Ro → Sto → (List D → Sto → Prop) → Prop
/-- what is wanted of an exception: its class, its value, the slots, the store -/
abbrev DWX := Addr → D → Ro → Sto → Prop
structure DXw where
  W : WX
  d : DWX
def XOk (K : PySem.W.Frag) (y : DXw) (H : Hp) (S : Sto) : Prop := ∀ C d ρ S' dx w σ H', Go K H S H' S' → SRv K σ H' ρ → H' dx = some (.xd [(("value" : Str), w)]) → DV K H' d w → y.d C d ρ S' → y.W (.ref C) (some dx) σ H'
structure SX (K : PySem.W.Frag) (y : DXw) (H : Hp) (S : Sto) : Prop where
  so : SOk K H S
  xo : XOk K y H S
theorem SX.go {K : PySem.W.Frag} {y : DXw} {H H' : Hp} {S S' : Sto} (h : SX K y H S) (g : Go K H S H' S') : SX K y H' S' :=
  ⟨g.ok, fun C d ρ S2 dx w σ H2 g2 => h.xo C d ρ S2 dx w σ H2 (g.trans g2)⟩
def lE (K : PySem.W.Frag) (y : DXw) (t : RE) : TE := fun σ H Q => ∃ ρ S R, SRv K σ H ρ ∧ SX K y H S ∧ t ρ S R ∧ ∀ d S' v H', Go K H S H' S' → DV K H' d v → R d S' → Q v H'
def lT (K : PySem.W.Frag) (y : DXw) (t : RT) : TT := fun σ H Q => ∃ ρ S R, SRv K σ H ρ ∧ SX K y H S ∧ t ρ S R ∧ ∀ b S' H', Go K H S H' S' → R b S' → Q b H'
def lA (K : PySem.W.Frag) (y : DXw) (n : Nat) (t : RA) : TA := fun σ H Q => ∃ ρ S R, SRv K σ H ρ ∧ SX K y H S ∧ t ρ S R ∧ ∀ ds S' vs H', Go K H S H' S' → DVs K H' ds vs → ds.length = n → R ds S' → Q vs H'
def PD (X : Cx) (y : DXw) (e : Expr) (t : RE) : Prop := PE X e (lE X.K y t)
def PDT (X : Cx) (y : DXw) (e : Expr) (t : RT) : Prop := PT X e (lT X.K y t)
def PDW (X : Cx) (y : DXw) (e : Expr) (t : RT) : Prop := PW X e (lT X.K y t)
def PDA (X : Cx) (y : DXw) (es : List Expr) (t : RA) : Prop := PA X es (lA X.K y es.length t)
/-- an if that stands still until it is looked at -/
@[irreducible] def IFB (b : Bool) (A B : Prop) : Prop := if b = true then A else B
theorem IFB.mk {b : Bool} {A B : Prop} (h1 : b = true → A) (h2 : b = false → B) : IFB b A B := by
  unfold IFB
  cases b with
  | true => rw [if_pos rfl]; exact h1 rfl
  | false => rw [if_neg Bool.false_ne_true]; exact h2 rfl
theorem IFB.t {b : Bool} {A B : Prop} (h : b = true) (h1 : A) : IFB b A B := IFB.mk (fun _ => h1) fun z => by rw [h] at z; cases z
theorem IFB.f {b : Bool} {A B : Prop} (h : b = false) (h1 : B) : IFB b A B := IFB.mk (fun z => by rw [h] at z; cases z) fun _ => h1
theorem IFB.of {b : Bool} {A B : Prop} (h : IFB b A B) : (b = true → A) ∧ (b = false → B) := by
  unfold IFB at h
  cases b with
  | true => rw [if_pos rfl] at h; exact ⟨fun _ => h, fun z => (by cases z)⟩
  | false => rw [if_neg Bool.false_ne_true] at h; exact ⟨fun z => (by cases z), fun _ => h⟩
theorem IFB.p {p : Prop} [Decidable p] {A B : Prop} (h1 : p → A) (h2 : ¬ p → B) : IFB (decide p) A B := IFB.mk (fun z => h1 (of_decide_eq_true z)) fun z => h2 (of_decide_eq_false z)
theorem IFB.np {p : Prop} [Decidable p] {A B : Prop} (h1 : ¬ p → A) (h2 : p → B) : IFB (!decide p) A B := IFB.mk (fun z => h1 (by simpa using z)) fun z => h2 (by simpa using z)

section
variable {X : Cx} {y : DXw}
theorem PD.of {e : Expr} {t0 : TE} {t : RE} (h : PE X e t0) (w : ∀ σ H Q, lE X.K y t σ H Q → t0 σ H Q) : PD X y e t := ⟨fun pins s σ H Q I q => h.run pins s σ H Q I (w σ H Q q)⟩
theorem PDT.of {e : Expr} {t0 : TT} {t : RT} (h : PT X e t0) (w : ∀ σ H Q, lT X.K y t σ H Q → t0 σ H Q) : PDT X y e t := ⟨fun pins s σ H Q I q => h.run pins s σ H Q I (w σ H Q q)⟩
theorem PDA.of {e : List Expr} {t0 : TA} {t : RA} (h : PA X e t0) (w : ∀ σ H Q, lA X.K y e.length t σ H Q → t0 σ H Q) : PDA X y e t := ⟨fun pos pins s σ H Q I q => h.run pos pins s σ H Q I (w σ H Q q)⟩

/-! ### names, constants -/
def rVar (i : Nat) : RE := fun ρ S Q => match ρ[i]? with
  | some (some d) => Q d S
  | _ => False
def rC (d : D) : RE := fun _ S Q => Q d S
theorem pd_var (i : Nat) {x : Str} {pos : Pos} (hN : X.N[i]? = some x := by rfl) (hv : Vis X.env.scope x := by first | exact Or.inl rfl | exact Or.inr (Or.inl rfl) | exact Or.inr (Or.inr rfl)) (hd : (x == ("__debug__" : Str)) = false := by decide)
    (hcd : (x == ("__classdict__" : Str)) = false := by decide) : PD X y (.Name x pos) (rVar i) := by
  refine PD.of (pe_var hN hv hd hcd) fun σ H Q h => ?_
  obtain ⟨ρ, S, R, sr, so, h, k⟩ := h
  unfold rVar at h
  split at h
  · rename_i d e
    obtain ⟨v, e1, q⟩ := sr.2 i d e
    exact ⟨v, e1, k d S v H (Go.refl so.so) q h⟩
  · exact h.elim
theorem pd_c {e : Expr} {v : V} {d : D} (h : PE X e (tC v)) (hd : ∀ H, DV X.K H d v) : PD X y e (rC d) := by
  refine PD.of h fun σ H Q h => ?_
  obtain ⟨ρ, S, R, sr, so, h, k⟩ := h
  exact k d S v H (Go.refl so.so) (hd H) h
theorem pd_int {i j pos} : PD X y (.Constant (.int i) j pos) (rC (.int i)) := pd_c pe_int fun _ => rfl
theorem pd_bl {i j pos} : PD X y (.Constant (.bool i) j pos) (rC (.bl i)) := pd_c pe_bl fun _ => rfl
theorem pd_non {j pos} : PD X y (.Constant .none j pos) (rC .non) := pd_c pe_non fun _ => rfl
theorem pd_str {x j pos} : PD X y (.Constant (.str x) j pos) (rC (.str x)) := pd_c pe_str fun _ => rfl
/-- a module's constant -/
theorem pd_glob {x : Str} {v : V} {u : Value} {d : D} {pos : Pos} (hm : X.mg x = some u) (r : RelV v u) (hd' : ∀ H, DV X.K H d v) (hg : Gl X x := by rfl) (hd : (x == ("__debug__" : Str)) = false := by decide) : PD X y (.Name x pos) (rC d) :=
  pd_c (pe_glob hg hm r hd) hd'

/-! ### two-place operators, by values -/
abbrev ROp := D → D → Sto → (D → Sto → Prop) → Prop
def lop (K : PySem.W.Frag) (p : ROp) : R2 := fun v w H Q => ∃ x y S R, DV K H x v ∧ DV K H y w ∧ SOk K H S ∧ p x y S R ∧ ∀ d S' z H', Go K H S H' S' → DV K H' d z → R d S' → Q z H'
def rBin (p : ROp) (ta tb : RE) : RE := fun ρ S Q => ta ρ S fun x S1 => tb ρ S1 fun y S2 => p x y S2 Q
theorem bin_of {r : R2} {p : ROp} {ta tb : RE} {σ : L2.St} {H : Hp} {Q : VK} (hr : ∀ v w H Q, lop X.K p v w H Q → r v w H Q) (h : lE X.K y (rBin p ta tb) σ H Q) : tOp r (lE X.K y ta) (lE X.K y tb) σ H Q := by
  obtain ⟨ρ, S, R, sr, so, h, k⟩ := h
  refine ⟨ρ, S, _, sr, so, h, fun x S1 v H1 g1 dv1 h1 => ⟨ρ, S1, _, sr.go g1, so.go g1, h1, fun y S2 w H2 g2 dv2 h2 => ?_⟩⟩
  exact hr _ _ _ _ ⟨x, y, S2, R, DV.go g2 _ _ dv1, dv2, g2.ok, h2, fun d S' z H' g dz hz => k d S' z H' (g1.trans (g2.trans g)) dz hz⟩
theorem pd_bin {op : Operator} {p : ROp} {a b : Expr} {ta tb : RE} {pos : Pos} (ho : OpR X (binaryOp op) (lop X.K p)) (ha : PD X y a ta) (hb : PD X y b tb) : PD X y (.BinOp a op b pos) (rBin p ta tb) :=
  PD.of (pe_op ho ha hb) fun _ _ _ h => bin_of (fun _ _ _ _ z => z) h
theorem pd_cmp {op : CmpOp} {p : ROp} {a b : Expr} {ta tb : RE} {pos : Pos} (ho : OpR X (compareOp op) (lop X.K p)) (ha : PD X y a ta) (hb : PD X y b tb) (hm : behindInMarks op b = false := by first | rfl | exact nomark _) : PD X y (.Compare a [op] [b] pos) (rBin p ta tb) :=
  PD.of (pe_cmpR ho ha hb hm) fun _ _ _ h => bin_of (fun _ _ _ _ z => z) h
/-- a value's truth, where it is a bool -/
def dBl : D → (Bool → Prop) → Prop
  | .bl b, k => k b
  | _, _ => False
def rTst (t : RE) : RT := fun ρ S Q => t ρ S fun d S1 => dBl d fun b => Q b S1
theorem tst_of {t0 : TE} {t : RE} {σ : L2.St} {H : Hp} {Q : Bool → Hp → Prop} (ht : ∀ σ H Q, lE X.K y t σ H Q → t0 σ H Q) (h : lT X.K y (rTst t) σ H Q) : t0 σ H (fun x H' => ∃ k, x = .bl k ∧ Q k H') := by
  obtain ⟨ρ, S, R, sr, so, h, k⟩ := h
  refine ht _ _ _ ⟨ρ, S, _, sr, so, h, fun d S' v H' g dv hd => ?_⟩
  cases d with
  | bl b => exact ⟨b, dv, k b S' H' g hd⟩
  | _ => exact False.elim hd
theorem pdt_cmp {op : CmpOp} {p : ROp} {a b : Expr} {ta tb : RE} {pos : Pos} (ho : OpR X (compareOp op) (lop X.K p)) (ha : PD X y a ta) (hb : PD X y b tb) (hm : behindInMarks op b = false := by first | rfl | exact nomark _) : PDT X y (.Compare a [op] [b] pos) (rTst (rBin p ta tb)) :=
  PDT.of (pt_cmpR ho ha hb hm) fun _ _ _ h => tst_of (fun _ _ _ h => bin_of (fun _ _ _ _ z => z) h) h
theorem pdt_val {e : Expr} {t : RE} (h : PD X y e t) (he : ∀ whole, isTrue e X.env whole = (do let v ← whole; standAt e.pos; holding [v] (truthy v)) := by intro _; rfl) : PDT X y e (rTst t) :=
  PDT.of (pt_val h he) fun _ _ _ h => tst_of (fun _ _ _ h => h) h
/-- a value's truth -/
def dTru : D → Sto → (Bool → Prop) → Prop
  | .non, _, k => k false
  | .bl b, _, k => k b
  | .int i, _, k => k (i != 0)
  | .str x, _, k => x.length ≤ sizeLine ∧ k ((x.length : Int) != 0)
  | .tup xs, _, k => k (!xs.isEmpty)
  | .fro xs, _, k => k (!xs.isEmpty)
  | .ref a, S, k => (∃ xs, S a = some (.lst xs) ∧ k (!xs.isEmpty)) ∨ ∃ kvs, S a = some (.dK kvs) ∧ k (!kvs.isEmpty)
  | _, _, _ => False
theorem DVs.empty {K : PySem.W.Frag} {H : Hp} {ds : List D} {vs : List V} (h : DVs K H ds vs) : ds.isEmpty = vs.isEmpty := by
  have := h.length
  cases ds <;> cases vs <;> simp_all
theorem DKs.length {K : PySem.W.Frag} {H : Hp} {ds : List (Key × D)} {vs : List (Key × V)} (h : DKs K H ds vs) : ds.length = vs.length := by
  induction h with
  | nil => rfl
  | cons _ _ ih => simp [ih]
theorem DKs.empty {K : PySem.W.Frag} {H : Hp} {ds : List (Key × D)} {vs : List (Key × V)} (h : DKs K H ds vs) : ds.isEmpty = vs.isEmpty := by
  cases h <;> rfl
theorem dTru_of {K : PySem.W.Frag} {H : Hp} {S : Sto} (so : SOk K H S) : ∀ {d : D} {v : V} {k : Bool → Prop}, DV K H d v → dTru d S k → ∃ b, TruV K v H b ∧ k b
  | .non, _, _, h, q => by cases (show _ = V.non from h); exact ⟨false, rfl, q⟩
  | .bl b, _, _, h, q => by cases (show _ = V.bl b from h); exact ⟨b, rfl, q⟩
  | .int i, _, _, h, q => by cases (show _ = V.int i from h); exact ⟨_, rfl, q⟩
  | .str x, _, _, h, q => by cases (show _ = V.str x from h); exact ⟨_, ⟨q.1, rfl⟩, q.2⟩
  | .tup xs, _, _, h, q => by
    obtain ⟨a, vs, rfl, e, r⟩ := h
    exact ⟨_, .inr (.inl ⟨vs, e.sq, rfl⟩), by rw [← r.empty]; exact q⟩
  | .fro xs, _, _, h, q => by
    obtain ⟨a, vs, rfl, e, r⟩ := h
    exact ⟨_, .inl ⟨vs, e.sq, rfl⟩, by rw [← r.empty]; exact q⟩
  | .ref a, _, _, h, q => by
    cases (show _ = V.ref a from h)
    rcases q with ⟨xs, e, q⟩ | ⟨xs, e, q⟩
    · obtain ⟨vs, e1, r⟩ := so a _ e
      exact ⟨_, .inl ⟨vs, SqL.of e1, rfl⟩, by rw [← r.empty]; exact q⟩
    · obtain ⟨vs, e1, r⟩ := so a _ e
      exact ⟨_, .inr (.inr ⟨vs, e1, rfl⟩), by rw [← r.empty]; exact q⟩
  | .ty _, _, _, _, q => q.elim
  | .exc _ _, _, _, _, q => q.elim
def rTru (t : RE) : RT := fun ρ S Q => t ρ S fun d S1 => dTru d S1 fun b => Q b S1
theorem pdt_tru {e : Expr} {t : RE} (h : PD X y e t) (he : ∀ whole, isTrue e X.env whole = (do let v ← whole; standAt e.pos; holding [v] (truthy v)) := by intro _; rfl) : PDT X y e (rTru t) := by
  refine PDT.of (pt_truth h he) fun σ H Q h => ?_
  obtain ⟨ρ, S, R, sr, so, h, k⟩ := h
  refine ⟨ρ, S, _, sr, so, h, fun d S' v H' g dv hd => ?_⟩
  obtain ⟨b, h1, h2⟩ := dTru_of g.ok dv hd
  exact ⟨b, h1, k b S' H' g h2⟩

/-! ### and, or, not, if -/
def rAnd (t u : RT) : RT := fun ρ S Q => t ρ S fun c S1 => IFB c (u ρ S1 Q) (Q false S1)
def rOr (t u : RT) : RT := fun ρ S Q => t ρ S fun c S1 => IFB c (Q true S1) (u ρ S1 Q)
def rNot (t : RT) : RT := fun ρ S Q => t ρ S fun c S1 => Q (!c) S1
theorem ite_of_IFB {b : Bool} {A B A' B' : Prop} (h : IFB b A B) (h1 : A → A') (h2 : B → B') : if b = true then A' else B' := by
  have q := h.of
  cases b with
  | true => rw [if_pos rfl]; exact h1 (q.1 rfl)
  | false => rw [if_neg Bool.false_ne_true]; exact h2 (q.2 rfl)
variable {a b : Expr} {rest : List Expr} {pos : Pos}
theorem pdw_and1 {t : RT} (h : PDT X y a t) : PDW X y (.BoolOp .And [a] pos) t := pw_and1 h
theorem pdw_or1 {t : RT} (h : PDT X y a t) : PDW X y (.BoolOp .Or [a] pos) t := pw_or1 h
theorem PDW.of {e : Expr} {t0 : TT} {t : RT} (h : PW X e t0) (w : ∀ σ H Q, lT X.K y t σ H Q → t0 σ H Q) : PDW X y e t := ⟨fun wh pins s σ H Q I q => h.run wh pins s σ H Q I (w σ H Q q)⟩
theorem pdw_and {t u : RT} (ha : PDT X y a t) (hb : PDW X y (.BoolOp .And (b :: rest) pos) u) : PDW X y (.BoolOp .And (a :: b :: rest) pos) (rAnd t u) := by
  refine PDW.of (pw_and ha hb) fun σ H Q h => ?_
  obtain ⟨ρ, S, R, sr, so, h, k⟩ := h
  refine ⟨ρ, S, _, sr, so, h, fun c S' H' g hd => ?_⟩
  exact ite_of_IFB hd (fun z => ⟨ρ, S', R, sr.go g, so.go g, z, fun b S2 H2 g2 q => k b S2 H2 (g.trans g2) q⟩) fun z => k false S' H' g z
theorem pdw_or {t u : RT} (ha : PDT X y a t) (hb : PDW X y (.BoolOp .Or (b :: rest) pos) u) : PDW X y (.BoolOp .Or (a :: b :: rest) pos) (rOr t u) := by
  refine PDW.of (pw_or ha hb) fun σ H Q h => ?_
  obtain ⟨ρ, S, R, sr, so, h, k⟩ := h
  refine ⟨ρ, S, _, sr, so, h, fun c S' H' g hd => ?_⟩
  exact ite_of_IFB hd (fun z => k true S' H' g z) fun z => ⟨ρ, S', R, sr.go g, so.go g, z, fun b S2 H2 g2 q => k b S2 H2 (g.trans g2) q⟩
theorem PDW.pt {e : Expr} {t : RT} (h : PDW X y e t) : PDT X y e t := PW.pt h
theorem pdt_not {t : RT} (ha : PDT X y a t) : PDT X y (.UnaryOp .Not a pos) (rNot t) := by
  refine PDT.of (pt_not ha) fun σ H Q h => ?_
  obtain ⟨ρ, S, R, sr, so, h, k⟩ := h
  exact ⟨ρ, S, _, sr, so, h, fun c S' H' g hd => k _ S' H' g hd⟩
def rAndV (t u : RE) : RE := fun ρ S Q => t ρ S fun d S1 => dBl d fun c => IFB c (u ρ S1 Q) (Q (.bl false) S1)
def rOrV (t u : RE) : RE := fun ρ S Q => t ρ S fun d S1 => dBl d fun c => IFB c (Q (.bl true) S1) (u ρ S1 Q)
def rNotV (t : RE) : RE := fun ρ S Q => t ρ S fun d S1 => dBl d fun c => Q (.bl (!c)) S1
theorem pd_one {op : BoolOp} {t : RE} (h : PD X y a t) : PD X y (.BoolOp op [a] pos) t := pe_one h
theorem pd_and {t u : RE} (ha : PD X y a t) (hb : PD X y (.BoolOp .And (b :: rest) pos) u) : PD X y (.BoolOp .And (a :: b :: rest) pos) (rAndV t u) := by
  refine PD.of (pe_and ha hb) fun σ H Q h => ?_
  obtain ⟨ρ, S, R, sr, so, h, k⟩ := h
  refine ⟨ρ, S, _, sr, so, h, fun d S' v H' g dv hd => ?_⟩
  cases d with
  | bl c =>
    refine ⟨c, dv, ite_of_IFB hd (fun z => ⟨ρ, S', R, sr.go g, so.go g, z, fun d S2 v H2 g2 dv q => k d S2 v H2 (g.trans g2) dv q⟩) fun z => k (.bl false) S' _ H' g rfl z⟩
  | _ => exact False.elim hd
theorem pd_or {t u : RE} (ha : PD X y a t) (hb : PD X y (.BoolOp .Or (b :: rest) pos) u) : PD X y (.BoolOp .Or (a :: b :: rest) pos) (rOrV t u) := by
  refine PD.of (pe_or ha hb) fun σ H Q h => ?_
  obtain ⟨ρ, S, R, sr, so, h, k⟩ := h
  refine ⟨ρ, S, _, sr, so, h, fun d S' v H' g dv hd => ?_⟩
  cases d with
  | bl c =>
    refine ⟨c, dv, ite_of_IFB hd (fun z => k (.bl true) S' _ H' g rfl z) fun z => ⟨ρ, S', R, sr.go g, so.go g, z, fun d S2 v H2 g2 dv q => k d S2 v H2 (g.trans g2) dv q⟩⟩
  | _ => exact False.elim hd
theorem pd_not {t : RE} (ha : PD X y a t) : PD X y (.UnaryOp .Not a pos) (rNotV t) := by
  refine PD.of (pe_not ha) fun σ H Q h => ?_
  obtain ⟨ρ, S, R, sr, so, h, k⟩ := h
  refine ⟨ρ, S, _, sr, so, h, fun d S' v H' g dv hd => ?_⟩
  cases d with
  | bl c => exact ⟨c, dv, k (.bl (!c)) S' _ H' g rfl hd⟩
  | _ => exact False.elim hd
def rIf (t : RT) (u w : RE) : RE := fun ρ S Q => t ρ S fun c S1 => IFB c (u ρ S1 Q) (w ρ S1 Q)
theorem pd_if {c : Expr} {t : RT} {u w : RE} (hc : PDT X y c t) (ha : PD X y a u) (hb : PD X y b w) : PD X y (.IfExp c a b pos) (rIf t u w) := by
  refine PD.of (pe_ifExp hc ha hb) fun σ H Q h => ?_
  obtain ⟨ρ, S, R, sr, so, h, k⟩ := h
  refine ⟨ρ, S, _, sr, so, h, fun c S' H' g hd => ?_⟩
  exact ite_of_IFB hd (fun z => ⟨ρ, S', R, sr.go g, so.go g, z, fun d S2 v H2 g2 dv q => k d S2 v H2 (g.trans g2) dv q⟩) fun z => ⟨ρ, S', R, sr.go g, so.go g, z, fun d S2 v H2 g2 dv q => k d S2 v H2 (g.trans g2) dv q⟩

/-! ### arguments, displays -/
def rNil : RA := fun _ S Q => Q [] S
def rCons (t : RE) (u : RA) : RA := fun ρ S Q => t ρ S fun d S1 => u ρ S1 fun ds S2 => Q (d :: ds) S2
variable {e : Expr} {es : List Expr}
theorem pda_nil : PDA X y [] rNil := PDA.of pa_nil fun σ H Q h => by
  obtain ⟨ρ, S, R, sr, so, h, k⟩ := h
  exact k [] S [] H (Go.refl so.so) DVs.nil rfl h
theorem pda_cons {t : RE} {u : RA} (he : PD X y e t) (hr : PDA X y es u) (hs : starEach (e :: es) X.env = (false, eval e X.env) :: starEach es X.env := by rfl) : PDA X y (e :: es) (rCons t u) := by
  refine PDA.of (pa_cons he hr hs) fun σ H Q h => ?_
  obtain ⟨ρ, S, R, sr, so, h, k⟩ := h
  refine ⟨ρ, S, _, sr, so, h, fun d S1 v H1 g1 dv h1 => ⟨ρ, S1, _, sr.go g1, so.go g1, h1, fun ds S2 vs H2 g2 dvs hn h2 => ?_⟩⟩
  exact k _ S2 _ H2 (g1.trans g2) (DVs.cons (DV.go g2 _ _ dv) dvs) (by rw [List.length_cons, List.length_cons, hn]) h2
def rTup (t : RA) : RE := fun ρ S Q => t ρ S fun ds S1 => Q (.tup ds) S1
def rLst (t : RA) : RE := fun ρ S Q => t ρ S fun ds S1 => ∀ p, S1 p = none → Q (.ref p) (sup S1 p (.lst ds))
theorem pd_tup {t : RA} {k : Nat} (h : PDA X y es t) (hl : es.length ≤ sizeLine := by decide) : PD X y (.Tuple es k pos) (rTup t) := by
  refine PD.of (pe_tup h) fun σ H Q h => ?_
  obtain ⟨ρ, S, R, sr, so, h, k⟩ := h
  refine ⟨ρ, S, _, sr, so, h, fun ds S1 vs H1 g1 dvs hn h1 => ⟨by rw [← dvs.length, hn]; exact hl, fun p hp => ?_⟩⟩
  have g2 := Go.new (o := .tup vs) g1.ok hp
  exact k (.tup ds) S1 _ _ (g1.trans g2) ⟨p, vs, rfl, .inl upd_same, DVs.go g2 _ _ dvs⟩ h1
theorem pd_lst {t : RA} (h : PDA X y es t) (hl : es.length ≤ sizeLine := by decide) : PD X y (.List es pos) (rLst t) := by
  refine PD.of (pe_lst h) fun σ H Q h => ?_
  obtain ⟨ρ, S, R, sr, so, h, k⟩ := h
  refine ⟨ρ, S, _, sr, so, h, fun ds S1 vs H1 g1 dvs hn h1 => ⟨by rw [← dvs.length, hn]; exact hl, fun p hp => ?_⟩⟩
  have g2 := Go.newLst g1.ok hp dvs
  exact k (.ref p) _ _ _ (g1.trans g2) rfl (h1 p (g1.ok.free hp))
end
end DL
set_option Elab.async false
set_option linter.all false
set_option maxRecDepth 100000
set_option maxHeartbeats 4000000
namespace DL
open PySem PySem.Spec PyProof.Rows L2

/-! ### statements -/
structure DEnds where
  nx : Ro → Sto → Prop
  rt : D → Sto → Prop
  bk : Ro → Sto → Prop := fun _ _ => False
  ct : Ro → Sto → Prop := fun _ _ => False
abbrev RS := DEnds → Ro → Sto → Prop
structure EOk (K : PySem.W.Frag) (H : Hp) (S : Sto) (E : DEnds) (D : Ends) : Prop where
  nx : ∀ ρ S' σ H', Go K H S H' S' → SRv K σ H' ρ → E.nx ρ S' → D.nx σ H'
  rt : ∀ d S' v H', Go K H S H' S' → DV K H' d v → E.rt d S' → D.rt v H'
  bk : ∀ ρ S' σ H', Go K H S H' S' → SRv K σ H' ρ → E.bk ρ S' → D.bk σ H'
  ct : ∀ ρ S' σ H', Go K H S H' S' → SRv K σ H' ρ → E.ct ρ S' → D.ct σ H'
theorem EOk.go {K : PySem.W.Frag} {H H1 : Hp} {S S1 : Sto} {E : DEnds} {D : Ends} (h : EOk K H S E D) (g : Go K H S H1 S1) : EOk K H1 S1 E D :=
  ⟨fun ρ S' σ H' g' => h.nx ρ S' σ H' (g.trans g'), fun d S' v H' g' => h.rt d S' v H' (g.trans g'), fun ρ S' σ H' g' => h.bk ρ S' σ H' (g.trans g'), fun ρ S' σ H' g' => h.ct ρ S' σ H' (g.trans g')⟩
def lS (K : PySem.W.Frag) (y : DXw) (t : RS) : TS := fun D σ H => ∃ ρ S E, SRv K σ H ρ ∧ SX K y H S ∧ t E ρ S ∧ EOk K H S E D
def PDS (X : Cx) (y : DXw) (st : Stmt) (t : RS) : Prop := PS X st (lS X.K y t)
def PDSs (X : Cx) (y : DXw) (st : List Stmt) (t : RS) : Prop := PSs X st (lS X.K y t)
section
variable {X : Cx} {y : DXw} {st : Stmt} {rest : List Stmt} {t u : RS} {e : Expr} {te : RE} {pos : Pos}
theorem PDS.of {t0 : TS} (h : PS X st t0) (w : ∀ D σ H, lS X.K y t D σ H → t0 D σ H) : PDS X y st t := ⟨fun pins s σ H D I q => h.run pins s σ H D I (w D σ H q)⟩
theorem PDSs.of {sts : List Stmt} {t0 : TS} (h : PSs X sts t0) (w : ∀ D σ H, lS X.K y t D σ H → t0 D σ H) : PDSs X y sts t := ⟨fun pins s σ H D I q => h.run pins s σ H D I (w D σ H q)⟩
def rNext : RS := fun E ρ S => E.nx ρ S
def rSeq (t u : RS) : RS := fun E ρ S => t { E with nx := u E } ρ S
def rBreak : RS := fun E ρ S => E.bk ρ S
def rCont : RS := fun E ρ S => E.ct ρ S
def rNever : RS := fun _ _ _ => False
theorem pds_nil : PDSs X y [] rNext := PDSs.of pss_nil fun D σ H h => by
  obtain ⟨ρ, S, E, sr, so, h, eo⟩ := h
  exact eo.nx ρ S σ H (Go.refl so.so) sr h
theorem pds_one (h : PDS X y st t) : PDSs X y [st] t := pss_one h
theorem pds_cons (h1 : PDS X y st t) (h2 : PDSs X y rest u) : PDSs X y (st :: rest) (rSeq t u) := PDSs.of (pss_cons h1 h2) fun D σ H h => by
  obtain ⟨ρ, S, E, sr, so, h, eo⟩ := h
  exact ⟨ρ, S, { E with nx := u E }, sr, so, h, ⟨fun ρ' S' σ' H' g sr' q => ⟨ρ', S', E, sr', so.go g, q, eo.go g⟩, eo.rt, eo.bk, eo.ct⟩⟩
theorem pd_pass : PDS X y (.Pass pos) rNext := PDS.of ps_pass fun D σ H h => by
  obtain ⟨ρ, S, E, sr, so, h, eo⟩ := h
  exact eo.nx ρ S σ H (Go.refl so.so) sr h
theorem pd_break : PDS X y (.Break pos) rBreak := PDS.of ps_break fun D σ H h => by
  obtain ⟨ρ, S, E, sr, so, h, eo⟩ := h
  exact eo.bk ρ S σ H (Go.refl so.so) sr h
theorem pd_cont : PDS X y (.Continue pos) rCont := PDS.of ps_continue fun D σ H h => by
  obtain ⟨ρ, S, E, sr, so, h, eo⟩ := h
  exact eo.ct ρ S σ H (Go.refl so.so) sr h
theorem pd_never : PDS X y st rNever := PDS.of ps_never fun D σ H h => by
  obtain ⟨ρ, S, E, sr, so, h, eo⟩ := h
  exact h
theorem pds_never {sts : List Stmt} : PDSs X y sts rNever := PDSs.of pss_never fun D σ H h => by
  obtain ⟨ρ, S, E, sr, so, h, eo⟩ := h
  exact h
def rDrop (te : RE) : RS := fun E ρ S => te ρ S fun _ S1 => E.nx ρ S1
theorem pd_expr (he : PD X y e te) (hs : swapsWith e none pos.line X.env = pure false := by rfl) : PDS X y (.Expr e pos) (rDrop te) := PDS.of (ps_expr he hs) fun D σ H h => by
  obtain ⟨ρ, S, E, sr, so, h, eo⟩ := h
  exact ⟨ρ, S, _, sr, so, h, fun d S' v H' g dv q => eo.nx ρ S' σ H' g (sr.go g) q⟩
def rRet (te : RE) : RS := fun E ρ S => te ρ S E.rt
theorem pd_ret (he : PD X y e te) : PDS X y (.Return (some e) pos) (rRet te) := PDS.of (ps_ret he) fun D σ H h => by
  obtain ⟨ρ, S, E, sr, so, h, eo⟩ := h
  exact ⟨ρ, S, _, sr, so, h, fun d S' v H' g dv q => eo.rt d S' v H' g dv q⟩
def rRetN : RS := fun E _ S => E.rt .non S
theorem pd_retN : PDS X y (.Return none pos) rRetN := PDS.of ps_retN fun D σ H h => by
  obtain ⟨ρ, S, E, sr, so, h, eo⟩ := h
  exact eo.rt .non S .non H (Go.refl so.so) rfl h
def rIfS (c : RT) (t u : RS) : RS := fun E ρ S => c ρ S fun b S1 => IFB b (t E ρ S1) (u E ρ S1)
theorem pd_ifS {c : Expr} {a b : List Stmt} {tc : RT} (hc : PDT X y c tc) (ha : PDSs X y a t) (hb : PDSs X y b u) : PDS X y (.If c a b pos) (rIfS tc t u) := PDS.of (ps_if hc ha hb) fun D σ H h => by
  obtain ⟨ρ, S, E, sr, so, h, eo⟩ := h
  refine ⟨ρ, S, _, sr, so, h, fun b S' H' g q => ?_⟩
  exact ite_of_IFB q (fun z => ⟨ρ, S', E, sr.go g, so.go g, z, eo.go g⟩) fun z => ⟨ρ, S', E, sr.go g, so.go g, z, eo.go g⟩

/-! ### targets -/
abbrev RG := D → Ro → Sto → (Ro → Sto → Prop) → Prop
abbrev RGs := List D → Ro → Sto → (Ro → Sto → Prop) → Prop
def lG (K : PySem.W.Frag) (y : DXw) (t : RG) : TG := fun v σ H Q => ∃ d ρ S R, DV K H d v ∧ SRv K σ H ρ ∧ SX K y H S ∧ t d ρ S R ∧ ∀ ρ' S' σ' H', Go K H S H' S' → SRv K σ' H' ρ' → R ρ' S' → Q σ' H'
def lGs (K : PySem.W.Frag) (y : DXw) (t : RGs) : TGs := fun vs σ H Q => ∃ ds ρ S R, DVs K H ds vs ∧ SRv K σ H ρ ∧ SX K y H S ∧ t ds ρ S R ∧ ∀ ρ' S' σ' H', Go K H S H' S' → SRv K σ' H' ρ' → R ρ' S' → Q σ' H'
def PDG (X : Cx) (y : DXw) (tg : Expr) (t : RG) : Prop := PG X tg (lG X.K y t)
def PDGs (X : Cx) (y : DXw) (ts : List Expr) (t : RGs) : Prop := PGs X ts (lGs X.K y t)
theorem PDG.of {tg : Expr} {t0 : TG} {t : RG} (h : PG X tg t0) (w : ∀ v σ H Q, lG X.K y t v σ H Q → t0 v σ H Q) : PDG X y tg t := ⟨fun pins s σ H v u Q I r q => h.run pins s σ H v u Q I r (w v σ H Q q)⟩
theorem PDGs.of {ts : List Expr} {t0 : TGs} {t : RGs} (h : PGs X ts t0) (w : ∀ v σ H Q, lGs X.K y t v σ H Q → t0 v σ H Q) : PDGs X y ts t := ⟨fun pins s σ H v u Q I r q => h.run pins s σ H v u Q I r (w v σ H Q q)⟩
def gN (i : Nat) : RG := fun d ρ S Q => Q (ρ.set i (some d)) S
theorem pdg_name (i : Nat) {x : Str} (hN : X.N.Nodup) (hi : X.N[i]? = some x := by rfl) (hx : Loc X.env.scope x := by first | exact Or.inl rfl | exact Or.inr rfl) (hf : X.fn x = true ∨ X.env.scope.names.lookup x = some .local := by first | exact .inl rfl | exact .inr rfl) : PDG X y (.Name x pos) (gN i) :=
  PDG.of (pg_name hN hi hx hf) fun v σ H Q h => by
    obtain ⟨d, ρ, S, R, dv, sr, so, h, k⟩ := h
    exact k _ S _ H (Go.refl so.so) (sr.set dv i) h
def gNl : RGs := fun ds ρ S Q => match ds with
  | [] => Q ρ S
  | _ => False
def gCs (t : RG) (u : RGs) : RGs := fun ds ρ S Q => match ds with
  | d :: r => t d ρ S fun ρ' S' => u r ρ' S' Q
  | [] => False
theorem pdgs_nil : PDGs X y [] gNl := PDGs.of pgs_nil fun vs σ H Q h => by
  obtain ⟨ds, ρ, S, R, dv, sr, so, h, k⟩ := h
  cases ds with
  | nil => exact ⟨dv, k ρ S σ H (Go.refl so.so) sr h⟩
  | cons d r => exact h.elim
theorem pdgs_cons {es : List Expr} {t : RG} {u : RGs} (h1 : PDG X y e t) (h2 : PDGs X y es u) (hs : (assignEach (e :: es) X.env).map (·.2) = assign e X.env :: (assignEach es X.env).map (·.2) := by rfl) : PDGs X y (e :: es) (gCs t u) := PDGs.of (pgs_cons h1 h2 hs) fun vs σ H Q h => by
  obtain ⟨ds, ρ, S, R, dv, sr, so, h, k⟩ := h
  cases ds with
  | nil => exact h.elim
  | cons d r =>
    obtain ⟨v, ws, rfl, dv1, dv2⟩ := dv
    exact ⟨v, ws, rfl, d, ρ, S, _, dv1, sr, so, h, fun ρ1 S1 σ1 H1 g1 sr1 h1 => ⟨r, ρ1, S1, R, DVs.go g1 _ _ dv2, sr1, so.go g1, h1, fun ρ2 S2 σ2 H2 g2 sr2 h2 => k ρ2 S2 σ2 H2 (g1.trans g2) sr2 h2⟩⟩
def gTp (n : Nat) (t : RGs) : RG := fun d ρ S Q => match d with
  | .tup xs => xs.length = n ∧ t xs ρ S Q
  | _ => False
theorem pdg_tup {es : List Expr} {k : Nat} {t : RGs} {n : Nat} (hc : X.calm = true) (h : PDGs X y es t) (hn : (assignEach es X.env).length = n := by rfl) (hst : (assignEach es X.env).findIdx? (·.1) = none := by rfl) : PDG X y (.Tuple es k pos) (gTp n t) :=
  PDG.of (pg_tup hc h hn hst) fun v σ H Q h => by
    obtain ⟨d, ρ, S, R, dv, sr, so, h, k⟩ := h
    cases d with
    | tup xs =>
      obtain ⟨a, vs, rfl, q, r⟩ := dv
      exact ⟨a, vs, rfl, q.sq, r.length.symm.trans h.1, xs, ρ, S, R, r, sr, so, h.2, k⟩
    | _ => exact False.elim h
/-- o[i] = d, by values -/
abbrev RSet := D → D → D → Sto → (Sto → Prop) → Prop
def lset (K : PySem.W.Frag) (p : RSet) : TSet := fun o i v H Q => ∃ x k d S R, DV K H x o ∧ DV K H k i ∧ DV K H d v ∧ SOk K H S ∧ p x k d S R ∧ ∀ S' H', Go K H S H' S' → R S' → Q H'
def gSb (to ti : RE) (p : RSet) : RG := fun d ρ S Q => to ρ S fun o S1 => ti ρ S1 fun i S2 => p o i d S2 fun S3 => Q ρ S3
theorem pdg_sub {o i : Expr} {to ti : RE} {p : RSet} (hs : PSet X (lset X.K p)) (ho : PD X y o to) (hi : PD X y i ti)
    (ha : ∀ v, assign (.Subscript o i pos) X.env v = (do
      let ov ← holding [v] (eval o X.env)
      let iv ← holding [v, ov] (eval i X.env)
      standAt pos
      holding [v, ov, iv] (setItem ov iv v)
      release [v, ov, iv] []) := by intro _; rfl) : PDG X y (.Subscript o i pos) (gSb to ti p) := PDG.of (pg_sub ho hi hs ha) fun v σ H Q h => by
  obtain ⟨d, ρ, S, R, dv, sr, so, h, k⟩ := h
  refine ⟨ρ, S, _, sr, so, h, fun x S1 v1 H1 g1 dv1 h1 => ⟨ρ, S1, _, sr.go g1, so.go g1, h1, fun i S2 v2 H2 g2 dv2 h2 => ?_⟩⟩
  exact ⟨x, i, d, S2, _, DV.go g2 _ _ dv1, dv2, DV.go (g1.trans g2) _ _ dv, g2.ok, h2, fun S3 H3 g3 h3 => k ρ S3 σ H3 (g1.trans (g2.trans g3)) (sr.go (g1.trans (g2.trans g3))) h3⟩
def rAsg (te : RE) (g : RG) : RS := fun E ρ S => te ρ S fun d S1 => g d ρ S1 E.nx
theorem asg_of {te : RE} {g : RG} {D : Ends} {σ : L2.St} {H : Hp} (h : lS X.K y (rAsg te g) D σ H) : tAsg (lE X.K y te) (lG X.K y g) D σ H := by
  obtain ⟨ρ, S, E, sr, so, h, eo⟩ := h
  exact ⟨ρ, S, _, sr, so, h, fun d S1 v H1 g1 dv h1 => ⟨d, ρ, S1, _, dv, sr.go g1, so.go g1, h1, fun ρ2 S2 σ2 H2 g2 sr2 h2 => eo.nx ρ2 S2 σ2 H2 (g1.trans g2) sr2 h2⟩⟩
theorem pd_asg {tg : Expr} {g : RG} (he : PD X y e te) (hg : PDG X y tg g) (hs : swapsWithSole [tg] e pos.line X.env = pure false := by rfl) (hw : swappedStores [tg] e X.env = pure none := by rfl)
    (h1 : (assignEach [tg] X.env).map (·.2) = [assign tg X.env] := by rfl) : PDS X y (.Assign [tg] e pos) (rAsg te g) := PDS.of (ps_asg he hg hs hw h1) fun D σ H h => asg_of h
theorem pd_set (i : Nat) {x : Str} {pos' : Pos} (hN : X.N.Nodup) (he : PD X y e te) (hi : X.N[i]? = some x := by rfl) (hx : Loc X.env.scope x := by first | exact Or.inl rfl | exact Or.inr rfl) (hs : swapsWith e (some (.Name x pos')) pos.line X.env = pure false := by rfl) (hf : X.fn x = true ∨ X.env.scope.names.lookup x = some .local := by first | exact .inl rfl | exact .inr rfl) :
    PDS X y (.Assign [.Name x pos'] e pos) (rAsg te (gN i)) := PDS.of (ps_set hN hi hx he hs hf) fun D σ H h => by
  obtain ⟨ρ, S, E, sr, so, h, eo⟩ := h
  exact ⟨ρ, S, _, sr, so, h, fun d S1 v H1 g1 dv h1 => eo.nx _ S1 _ H1 g1 ((sr.go g1).set dv i) h1⟩
/-- a, b = x, y with plain local names -/
def rPar (i j : Nat) (ta : RA) : RS := fun E ρ S => ta ρ S fun ds S1 => match ds with
  | [d, e] => E.nx ((ρ.set i (some d)).set j (some e)) S1
  | _ => False
theorem pd_par (i j : Nat) {x z : Str} {a b : Expr} {ta : RA} {px py pt : Pos} {kt k2 pt2} (hc : X.calm = true) (hN : X.N.Nodup) (ha : PDA X y [a, b] ta)
    (hw : swappedStores [.Tuple [.Name x px, .Name z py] kt pt] (.Tuple [a, b] k2 pt2) X.env = pure (some [x, z]))
    (hi : X.N[i]? = some x := by rfl) (hj : X.N[j]? = some z := by rfl) (hij : i ≠ j := by decide)
    (hx : X.env.scope.names.lookup x = some .local := by rfl) (hy : X.env.scope.names.lookup z = some .local := by rfl)
    (hs : swapsWithSole [.Tuple [.Name x px, .Name z py] kt pt] (.Tuple [a, b] k2 pt2) pos.line X.env = pure false := by rfl) :
    PDS X y (.Assign [.Tuple [.Name x px, .Name z py] kt pt] (.Tuple [a, b] k2 pt2) pos) (rPar i j ta) := PDS.of (ps_par hc hN hi hj hij hx hy ha hw hs) fun D σ H h => by
  obtain ⟨ρ, S, E, sr, so, h, eo⟩ := h
  refine ⟨ρ, S, _, sr, so, h, fun ds S1 vs H1 g1 dvs hn h1 => ?_⟩
  match ds, dvs, h1 with
  | [d, e], dvs, h1 =>
    obtain ⟨v, ws, rfl, dv1, v2, ws2, rfl, dv2, q⟩ := dvs
    cases (show ws2 = [] from q)
    exact ⟨v, v2, rfl, eo.nx _ S1 _ H1 g1 (((sr.go g1).set dv1 i).set dv2 j) h1⟩
  | [], _, h1 => exact h1.elim
  | [_], _, h1 => exact h1.elim
  | _ :: _ :: _ :: _, _, h1 => exact h1.elim

/-! ### while, for -/
def rWhile (c : RT) (tb : RS) : RS := fun E ρ S => ∃ W : Nat → Ro → Sto → Prop, (∃ m, W m ρ S) ∧ ∀ m ρ S, W m ρ S →
  c ρ S fun b S1 => IFB b (tb { E with nx := fun ρ' S' => ∃ m', m' < m ∧ W m' ρ' S', ct := fun ρ' S' => ∃ m', m' < m ∧ W m' ρ' S', bk := E.nx } ρ S1) (E.nx ρ S1)
theorem pd_while {c : Expr} {body : List Stmt} {tc : RT} {tb : RS} (hp : PassesOwn (model X.prog X.w) X.A X.env X.xe) (hc : PDT X y c tc) (hb : PDSs X y body tb) : PDS X y (.While c body [] pos) (rWhile tc tb) := PDS.of (ps_while hp hc hb) fun D σ H h => by
  obtain ⟨ρ, S, E, sr, so, ⟨W, ⟨m, hW⟩, hs⟩, eo⟩ := h
  refine ⟨fun m σ1 H1 => ∃ ρ1 S1, Go X.K H S H1 S1 ∧ SRv X.K σ1 H1 ρ1 ∧ W m ρ1 S1, ⟨m, ρ, S, Go.refl so.so, sr, hW⟩, ?_⟩
  rintro m σ1 H1 ⟨ρ1, S1, g1, sr1, w1⟩
  refine ⟨ρ1, S1, _, sr1, so.go g1, hs m ρ1 S1 w1, fun b S2 H2 g2 q => ?_⟩
  refine ite_of_IFB q (fun z => ⟨fun σ3 H3 => ∃ m', m' < m ∧ ∃ ρ3 S3, Go X.K H S H3 S3 ∧ SRv X.K σ3 H3 ρ3 ∧ W m' ρ3 S3, fun σ3 H3 h => h, ρ1, S2, _, sr1.go g2, so.go (g1.trans g2), z, ?_⟩) fun z => eo.nx ρ1 S2 σ1 H2 (g1.trans g2) (sr1.go g2) z
  have eo2 := eo.go (g1.trans g2)
  refine ⟨fun ρ3 S3 σ3 H3 g3 sr3 ⟨m', hm, w⟩ => ⟨m', hm, ρ3, S3, (g1.trans g2).trans g3, sr3, w⟩, eo2.rt, eo2.nx, fun ρ3 S3 σ3 H3 g3 sr3 ⟨m', hm, w⟩ => ⟨m', hm, ρ3, S3, (g1.trans g2).trans g3, sr3, w⟩⟩
/-- what is walked: its items; while src stands it goes on so -/
abbrev RI := Ro → Sto → (List D → (Sto → Prop) → Sto → Prop) → Prop
def JOk (K : PySem.W.Frag) (H1 : Hp) (S1 : Sto) (J : It) (xs : List D) (src : Sto → Prop) : Prop :=
  ∀ i H S, Go K H1 S1 H S → src S → (∀ x, xs[i]? = some x → J.go i H ∧ ∀ v H', J.yld i H v H' → Go K H S H' S ∧ DV K H' x v) ∧ (xs[i]? = none → J.stop i H)
def lI (K : PySem.W.Frag) (y : DXw) (wi : RI) : TI := fun σ H R => ∃ ρ S Rd, SRv K σ H ρ ∧ SX K y H S ∧ wi ρ S Rd ∧ ∀ xs src S1 J H1, Go K H S H1 S1 → JOk K H1 S1 J xs src → Rd xs src S1 → R J H1
def PDI (X : Cx) (y : DXw) (tg iter : Expr) (wi : RI) : Prop := PI X tg iter (lI X.K y wi)
theorem PDI.of {tg iter : Expr} {t0 : TI} {t : RI} (h : PI X tg iter t0) (w : ∀ σ H R, lI X.K y t σ H R → t0 σ H R) : PDI X y tg iter t := ⟨fun pins s σ H R I q => h.run pins s σ H R I (w σ H R q)⟩
/-- the turns: W says what holds ahead of turn i -/
def rFor (wi : RI) (g : RG) (tb : RS) : RS := fun E ρ S => wi ρ S fun xs src S1 => ∃ W : Nat → Ro → Sto → Prop, W 0 ρ S1 ∧ ∀ i ρ' S', W i ρ' S' → src S' ∧
  (∀ x, xs[i]? = some x → g x ρ' S' fun ρ2 S2 => tb { E with nx := W (i + 1), ct := W (i + 1), bk := E.nx } ρ2 S2) ∧ (i = xs.length → E.nx ρ' S')
theorem pd_for {tg iter : Expr} {body : List Stmt} {wi : RI} {g : RG} {tb : RS} (hp : PassesOwn (model X.prog X.w) X.A X.env X.xe) (hc : X.calm = true) (hi : PDI X y tg iter wi) (hg : PDG X y tg g) (hb : PDSs X y body tb) (hs : ∀ x, foldedSetIterable iter X.env x = pure x := by intro _; rfl) : PDS X y (.For tg iter body [] pos) (rFor wi g tb) :=
  PDS.of (ps_for hp hc hi hg hb hs) fun D σ H h => by
  obtain ⟨ρ, S, E, sr, so, h, eo⟩ := h
  refine ⟨ρ, S, _, sr, so, h, fun xs src S1 J H1 g1 jo ⟨W, w0, hs⟩ => ?_⟩
  refine ⟨fun i m σ2 H2 => ∃ ρ2 S2, m = xs.length - i ∧ i ≤ xs.length ∧ Go X.K H1 S1 H2 S2 ∧ SRv X.K σ2 H2 ρ2 ∧ W i ρ2 S2, ⟨_, ρ, S1, rfl, Nat.zero_le _, Go.refl g1.ok, sr.go g1, w0⟩, ?_⟩
  rintro i m σ2 H2 ⟨ρ2, S2, rfl, hi, g2, sr2, w2⟩
  obtain ⟨hsrc, hturn, hend⟩ := hs i ρ2 S2 w2
  obtain ⟨j1, j2⟩ := jo i H2 S2 g2 hsrc
  by_cases hlt : i < xs.length
  · have hx : xs[i]? = some xs[i] := List.getElem?_eq_getElem hlt
    obtain ⟨jg, jy⟩ := j1 _ hx
    refine .inr ⟨jg, fun σ3 H3 => ∃ ρ3 S3, Go X.K H1 S1 H3 S3 ∧ SRv X.K σ3 H3 ρ3 ∧ W (i + 1) ρ3 S3, fun σ3 H3 ⟨ρ3, S3, g3, sr3, w3⟩ => ⟨xs.length - (i + 1), by omega, ρ3, S3, rfl, hlt, g3, sr3, w3⟩, fun v H3 hy => ?_⟩
    obtain ⟨g3, dv⟩ := jy v H3 hy
    have gA := g1.trans (g2.trans g3)
    refine ⟨xs[i], ρ2, S2, _, dv, sr2.go g3, so.go gA, hturn _ hx, fun ρ4 S4 σ4 H4 g4 sr4 h4 => ?_⟩
    refine ⟨ρ4, S4, _, sr4, so.go (gA.trans g4), h4, ?_⟩
    have eo2 := eo.go (gA.trans g4)
    have gB := (g2.trans g3).trans g4
    exact ⟨fun ρ5 S5 σ5 H5 g5 sr5 h5 => ⟨ρ5, S5, gB.trans g5, sr5, h5⟩, eo2.rt, eo2.nx, fun ρ5 S5 σ5 H5 g5 sr5 h5 => ⟨ρ5, S5, gB.trans g5, sr5, h5⟩⟩
  · have e : i = xs.length := by omega
    subst e
    exact .inl ⟨j2 (by simp), eo.nx ρ2 S2 σ2 H2 (g1.trans g2) sr2 (hend rfl)⟩

/-! ### what a for or a comprehension walks -/
/-- a list in the store, a list that never changes, a tuple -/
def rIt (t : RE) : RI := fun ρ S R => t ρ S fun d S1 => match d with
  | .tup xs => R xs (fun _ => True) S1
  | _ => ∃ xs, RdL S1 d xs ∧ R xs (fun S' => RdL S' d xs) S1
theorem jok_list {K : PySem.W.Frag} {H1 : Hp} {S1 : Sto} {d : D} {v : V} {a : Addr} {xs : List D} (dv : DV K H1 d v) (e : v = .ref a) : JOk K H1 S1 (Itl K a) xs (fun S' => RdL S' d xs) := by
  intro i H S g hr
  obtain ⟨a', vs, e1, q, r⟩ := RdL.sq g.ok hr (DV.go g _ _ dv)
  rw [e] at e1
  cases e1
  refine ⟨fun x hx => ?_, fun hn => ⟨vs, q, ?_⟩⟩
  · obtain ⟨w, hw, rw'⟩ := r.get hx
    exact ⟨⟨vs, w, q, hw⟩, fun v' H' hy => by
      obtain ⟨rfl, hy⟩ := hy
      have := hy vs q
      rw [hw] at this
      cases this
      exact ⟨Go.refl g.ok, rw'⟩⟩
  · rw [← r.length]
    exact List.getElem?_eq_none_iff.mp hn
theorem jok_tup {K : PySem.W.Frag} {H1 : Hp} {S1 : Sto} {a : Addr} {xs : List D} {vs : List V} (q : StT K H1 a vs) (r : DVs K H1 xs vs) : JOk K H1 S1 (Itt K a) xs (fun _ => True) := by
  intro i H S g _
  have q := g.tup q
  have r := DVs.go g _ _ r
  refine ⟨fun x hx => ?_, fun hn => ⟨vs, q.sq, ?_⟩⟩
  · obtain ⟨w, hw, rw'⟩ := r.get hx
    exact ⟨⟨vs, w, q.sq, hw⟩, fun v' H' hy => by
      obtain ⟨rfl, hy⟩ := hy
      have := hy vs q.sq
      rw [hw] at this
      cases this
      exact ⟨Go.refl g.ok, rw'⟩⟩
  · rw [← r.length]
    exact List.getElem?_eq_none_iff.mp hn
end
end DL
set_option Elab.async false
set_option linter.all false
set_option maxRecDepth 100000
set_option maxHeartbeats 4000000
namespace DL
open PySem PySem.Spec PyProof.Rows L2
section
variable {X : Cx} {y : DXw} {pos : Pos} {e : Expr} {es : List Expr}

/-! ### walks -/
theorem it_list {pins : List (Addr × Obj)} {σ : L2.St} {H : Hp} {s : Shared} {tg : Expr} {R : It → Hp → Prop} {E : Value → Shared → Prop} {a : Addr} {vs : List V} (I : Inv X pins σ H s) (hq : SqL X.K H a vs) (q : R (Itl X.K a) H) :
    wpAny (model X.prog X.w) X.A (pyIter (.ref a)) (PIE X pins σ tg R) E s := by
  obtain ⟨its, rv, p, hz⟩ := I.list hq
  refine wpAny_pyIter_list p.isList ?_
  refine ⟨s.heap.objs.size, [s.heap.objs.size], _, _, H, rfl, I.kept (t' := s.toks) fun b o e => Heap.get?_push_of_some _ e, turn_list a _, ⟨_, Heap.get?_push_size _ rfl, rfl, rfl⟩, fun b hb => ?_, q⟩
  have e : b = s.heap.objs.size := by simpa using hb
  subst e
  exact I.fpOk (Nat.le_refl _) (I.hok.fresh (Nat.le_refl _))
theorem it_tup {pins : List (Addr × Obj)} {σ : L2.St} {H : Hp} {s : Shared} {tg : Expr} {R : It → Hp → Prop} {E : Value → Shared → Prop} {a : Addr} {vs : List V} (I : Inv X pins σ H s) (hq : SqT X.K H a vs) (q : R (Itt X.K a) H) :
    wpAny (model X.prog X.w) X.A (pyIter (.ref a)) (PIE X pins σ tg R) E s := by
  obtain ⟨its, rv, p, hz⟩ := I.tuple hq
  refine wpAny_pyIter_tuple (show s.heap.IsTuple a its.toArray from p) ?_
  refine ⟨s.heap.objs.size, [s.heap.objs.size], _, _, H, rfl, I.kept (t' := s.toks) fun b o e => Heap.get?_push_of_some _ e, turn_tuple a _, ⟨_, Heap.get?_push_size _ rfl, rfl, rfl⟩, fun b hb => ?_, q⟩
  have e : b = s.heap.objs.size := by simpa using hb
  subst e
  exact I.fpOk (Nat.le_refl _) (I.hok.fresh (Nat.le_refl _))
theorem pdi_it {tg l : Expr} {t : RE} (hl : PD X y l t) : PDI X y tg l (rIt t) := by
  refine ⟨fun pins s σ H R I h => ?_⟩
  obtain ⟨ρ, S, Rd, sr, so, h, k⟩ := h
  refine thn (hl.run pins s σ H (fun v H1 => ∃ d S1, Go X.K H S H1 S1 ∧ DV X.K H1 d v ∧ (match d with
    | .tup xs => Rd xs (fun _ => True) S1
    | _ => ∃ xs, RdL S1 d xs ∧ Rd xs (fun S' => RdL S' d xs) S1)) I ⟨ρ, S, _, sr, so, h, fun d S1 v H1 g dv q => ⟨d, S1, g, dv, q⟩⟩) fun u s1 ⟨v, H1, I1, r1, d, S1, g, dv, q⟩ => ?_
  have lst : ∀ xs, RdL S1 d xs → Rd xs (fun S' => RdL S' d xs) S1 → wpAny (model X.prog X.w) X.A (pyIter u) (PIE X pins σ tg R) X.xe s1 := fun xs hx q => by
    obtain ⟨a, vs, rfl, hq, r⟩ := RdL.sq g.ok hx dv
    cases (show u = Value.ref a from r1)
    exact it_list I1 hq (k _ _ _ _ _ g (jok_list dv rfl) q)
  cases d with
  | tup xs =>
    obtain ⟨a, vs, rfl, hq, r⟩ := dv
    cases (show u = Value.ref a from r1)
    exact it_tup I1 hq.sq (k _ _ _ _ _ g (jok_tup hq r) q)
  | _ => obtain ⟨xs, h1, h2⟩ := q; exact lst xs h1 h2
/-- range -/
def rgI (lo : Int) (n : Nat) : List D := (List.range n).map fun (i : Nat) => D.int (lo + (i : Int))
theorem rgI_len {lo : Int} {n : Nat} : (rgI lo n).length = n := by unfold rgI; simp
theorem rgI_get {lo : Int} {n i : Nat} (h : i < n) : (rgI lo n)[i]? = some (D.int (lo + (i : Int))) := by unfold rgI; simp [h]
theorem rgI_inv {lo : Int} {n i : Nat} {x : D} (h : (rgI lo n)[i]? = some x) : i < n ∧ x = D.int (lo + (i : Int)) := by
  have hl := (List.getElem?_eq_some_iff.mp h).1
  rw [rgI_len] at hl
  rw [rgI_get hl] at h
  exact ⟨hl, (Option.some.inj h).symm⟩
theorem jok_range {K : PySem.W.Frag} {H1 : Hp} {S1 : Sto} {lo : Int} {n : Nat} : JOk K H1 S1 (Itr lo n) (rgI lo n) (fun _ => True) := by
  intro i H S g _
  refine ⟨fun x hx => ?_, fun hn => ?_⟩
  · obtain ⟨hl, rfl⟩ := rgI_inv hx
    exact ⟨hl, fun v H' ⟨e1, e2⟩ => by subst e1 e2; exact ⟨Go.refl g.ok, rfl⟩⟩
  · have := List.getElem?_eq_none_iff.mp hn
    rw [rgI_len] at this
    exact this
def rRng1 (ta : RA) : RI := fun ρ S R => ta ρ S fun ds S1 => match ds with
  | [.int j] => (j < 2 ^ 62 ∧ -(2 ^ 62) ≤ j) ∧ R (rgI 0 j.toNat) (fun _ => True) S1
  | _ => False
def rRng2 (ta : RA) : RI := fun ρ S R => ta ρ S fun ds S1 => match ds with
  | [.int i, .int j] => (-(2 ^ 62) ≤ i ∧ i < 2 ^ 62 ∧ -(2 ^ 62) ≤ j ∧ j < 2 ^ 62) ∧ R (rgI i (j - i).toNat) (fun _ => True) S1
  | _ => False
theorem pdi_range1 {tg a : Expr} {ta : RA} {p : Pos} (hm : X.mg "range" = none) (ha : PDA X y [a] ta) (hg : Gl X "range" := by rfl) (hs : starEach [a] X.env = [(false, eval a X.env)] := by rfl) : PDI X y tg (.Call (.Name "range" p) [a] [] pos) (rRng1 ta) := by
  refine PDI.of (pi_range1 hg hm ha hs) fun σ H R h => ?_
  obtain ⟨ρ, S, Rd, sr, so, h, k⟩ := h
  refine ⟨ρ, S, _, sr, so, h, fun ds S1 vs H1 g dvs hn h1 => ?_⟩
  split at h1
  · rename_i j
    obtain ⟨v, ws, rfl, dv, q⟩ := dvs
    cases (show ws = [] from q)
    cases (show v = V.int j from dv)
    exact ⟨j, rfl, h1.1.2, h1.1.1, k _ _ _ _ _ g jok_range h1.2⟩
  · exact h1.elim
theorem pdi_range2 {tg a b : Expr} {ta : RA} {p : Pos} (hm : X.mg "range" = none) (ha : PDA X y [a, b] ta) (hg : Gl X "range" := by rfl) (hs : starEach [a, b] X.env = [(false, eval a X.env), (false, eval b X.env)] := by rfl) (hs2 : starEach [b] X.env = [(false, eval b X.env)] := by rfl) : PDI X y tg (.Call (.Name "range" p) [a, b] [] pos) (rRng2 ta) := by
  refine PDI.of (pi_range2 hg hm ha hs hs2) fun σ H R h => ?_
  obtain ⟨ρ, S, Rd, sr, so, h, k⟩ := h
  refine ⟨ρ, S, _, sr, so, h, fun ds S1 vs H1 g dvs hn h1 => ?_⟩
  split at h1
  · rename_i i j
    obtain ⟨v, ws, rfl, dv, v2, ws2, rfl, dv2, q⟩ := dvs
    cases (show ws2 = [] from q)
    cases (show v = V.int i from dv)
    cases (show v2 = V.int j from dv2)
    exact ⟨i, j, rfl, h1.1, k _ _ _ _ _ g jok_range h1.2⟩
  · exact h1.elim

/-! ### comprehensions -/
def dwipe (ρ : Ro) : List Nat → Ro
  | [] => ρ
  | v :: vs => (dwipe ρ vs).set v none
theorem dwipe_length (ρ : Ro) : ∀ vs : List Nat, (dwipe ρ vs).length = ρ.length
  | [] => rfl
  | v :: vs => by unfold dwipe; rw [List.length_set, dwipe_length ρ vs]
theorem dwipe_some {ρ : Ro} {i : Nat} {x : D} : ∀ {vs : List Nat}, (dwipe ρ vs)[i]? = some (some x) → ρ[i]? = some (some x) ∧ i ∉ vs
  | [], h => ⟨h, by simp⟩
  | v :: vs, h => by
    unfold dwipe at h
    by_cases hi : v = i
    · subst hi
      by_cases hv : v < (dwipe ρ vs).length
      · rw [List.getElem?_set_self hv] at h; cases h
      · rw [List.getElem?_eq_none (by simpa using hv)] at h; cases h
    · rw [List.getElem?_set_ne hi] at h
      obtain ⟨h1, h2⟩ := dwipe_some h
      exact ⟨h1, by simp only [List.mem_cons, not_or]; exact ⟨fun e => hi e.symm, h2⟩⟩
theorem wipe_out' {σ : L2.St} {i : Nat} : ∀ {vs : List Nat}, i ∉ vs → (wipe σ vs)[i]? = σ[i]?
  | [], _ => rfl
  | v :: vs, h => by
    simp only [List.mem_cons, not_or] at h
    unfold wipe
    rw [List.getElem?_set_ne (Ne.symm h.1)]
    exact wipe_out' h.2
theorem SRv.wipe {K : PySem.W.Frag} {σ : L2.St} {H : Hp} {ρ : Ro} (r : SRv K σ H ρ) (vs : List Nat) : SRv K (L2.wipe σ vs) H (dwipe ρ vs) :=
  ⟨by rw [dwipe_length, wipe_length]; exact r.1, fun i d e => by
    obtain ⟨e1, hn⟩ := dwipe_some e
    obtain ⟨v, e2, q⟩ := r.2 i d e1
    exact ⟨v, by rw [wipe_out' hn]; exact e2, q⟩⟩
theorem wipe_set {σ : L2.St} {i : Nat} {o : Option V} : ∀ {vs : List Nat}, i ∈ vs → L2.wipe (σ.set i o) vs = L2.wipe σ vs
  | v :: vs, h => by
    have gen : ∀ (vs : List Nat), L2.wipe (σ.set i o) vs = (if i ∈ vs then L2.wipe σ vs else (L2.wipe σ vs).set i o) := by
      intro vs
      induction vs with
      | nil => simp [L2.wipe]
      | cons w ws ih =>
        unfold L2.wipe
        rw [ih]
        by_cases hw : i ∈ ws
        · rw [if_pos hw, if_pos (List.mem_cons_of_mem _ hw)]
        · rw [if_neg hw]
          by_cases hi : i = w
          · subst hi
            rw [if_pos (by simp), List.set_set]
          · rw [if_neg (by simp [hi, hw]), List.set_comm _ _ hi]
    rw [gen, if_pos h]
/-- a comprehension's targets: names, tuples of names -/
inductive Pat where
  | n (i : Nat)
  | t (ps : List Pat)
mutual
def Pat.g (K : PySem.W.Frag) : Pat → TG
  | .n i => gName i
  | .t ps => gTup K ps.length (Pat.gs K ps)
def Pat.gs (K : PySem.W.Frag) : List Pat → TGs
  | [] => gNil
  | p :: ps => gCons (Pat.g K p) (Pat.gs K ps)
end
mutual
def Pat.put : Pat → D → Ro → (Ro → Prop) → Prop
  | .n i, d, ρ, k => k (ρ.set i (some d))
  | .t ps, d, ρ, k => match d with
    | .tup xs => Pat.puts ps xs ρ k
    | _ => False
def Pat.puts : List Pat → List D → Ro → (Ro → Prop) → Prop
  | [], ds, ρ, k => match ds with
    | [] => k ρ
    | _ => False
  | p :: ps, ds, ρ, k => match ds with
    | d :: ds => Pat.put p d ρ fun ρ' => Pat.puts ps ds ρ' k
    | [] => False
end
mutual
def Pat.all (vs : List Nat) : Pat → Bool
  | .n i => vs.contains i
  | .t ps => Pat.alls vs ps
def Pat.alls (vs : List Nat) : List Pat → Bool
  | [] => true
  | p :: ps => Pat.all vs p && Pat.alls vs ps
end
theorem puts_len : ∀ {ps : List Pat} {ds : List D} {ρ : Ro} {k : Ro → Prop}, Pat.puts ps ds ρ k → ps.length = ds.length ∨ True := fun _ => .inr trivial
mutual
theorem Pat.ok {K : PySem.W.Frag} {vs : List Nat} {H : Hp} {Q : L2.St → Hp → Prop} : ∀ (p : Pat) (d : D) (v : V) (σ : L2.St) (ρ : Ro) (k : Ro → Prop), Pat.all vs p = true → DV K H d v → SRv K σ H ρ → Pat.put p d ρ k →
    (∀ ρ' σ', SRv K σ' H ρ' → L2.wipe σ' vs = L2.wipe σ vs → k ρ' → Q σ' H) → Pat.g K p v σ H Q
  | .n i, d, v, σ, ρ, k, ha, dv, sr, h, hk => by
    refine hk _ _ (sr.set dv i) (wipe_set (by simpa [Pat.all] using ha)) h
  | .t ps, d, v, σ, ρ, k, ha, dv, sr, h, hk => by
    cases d with
    | tup xs =>
      obtain ⟨a, ws, rfl, q, r⟩ := dv
      obtain ⟨hl, hh⟩ := Pat.oks ps xs ws σ ρ k (by simpa [Pat.all] using ha) r sr h hk
      exact ⟨a, ws, rfl, q.sq, hl.symm, hh⟩
    | _ => exact False.elim h
theorem Pat.oks {K : PySem.W.Frag} {vs : List Nat} {H : Hp} {Q : L2.St → Hp → Prop} : ∀ (ps : List Pat) (ds : List D) (us : List V) (σ : L2.St) (ρ : Ro) (k : Ro → Prop), Pat.alls vs ps = true → DVs K H ds us → SRv K σ H ρ → Pat.puts ps ds ρ k →
    (∀ ρ' σ', SRv K σ' H ρ' → L2.wipe σ' vs = L2.wipe σ vs → k ρ' → Q σ' H) → ps.length = us.length ∧ Pat.gs K ps us σ H Q
  | [], ds, us, σ, ρ, k, ha, dv, sr, h, hk => by
    cases ds with
    | nil =>
      cases (show us = [] from dv)
      exact ⟨rfl, rfl, hk ρ σ sr rfl h⟩
    | cons _ _ => exact False.elim h
  | p :: ps, ds, us, σ, ρ, k, ha, dv, sr, h, hk => by
    cases ds with
    | nil => exact False.elim h
    | cons d ds =>
      obtain ⟨v, ws, rfl, dv1, dv2⟩ := dv
      have ha2 : Pat.all vs p = true ∧ Pat.alls vs ps = true := by simpa [Pat.alls] using ha
      -- the length is told by any run of the rest
      have key := Pat.ok (K := K) (vs := vs) (H := H) (Q := fun σ' H' => H' = H ∧ ps.length = ws.length ∧ Pat.gs K ps ws σ' H Q) p d v σ ρ (fun ρ' => Pat.puts ps ds ρ' k) ha2.1 dv1 sr h (fun ρ' σ' sr' hw h' => by
        obtain ⟨hl, hg⟩ := Pat.oks ps ds ws σ' ρ' k ha2.2 dv2 sr' h' (fun ρ'' σ'' sr'' hw' h'' => hk ρ'' σ'' sr'' (hw'.trans hw) h'')
        exact ⟨rfl, hl, hg⟩)
      have len : ps.length = ws.length := by
        have dl := dv2.length
        rw [← dl]
        -- from the D-level readings
        exact Pat.lens ps ds p d ρ k h
      refine ⟨by simp [len], v, ws, rfl, ?_⟩
      exact Pat.mono p v σ H _ _ (fun σ' H' q => by obtain ⟨e, _, q⟩ := q; rw [e]; exact q) key
theorem Pat.lens : ∀ (ps : List Pat) (ds : List D) (p : Pat) (d : D) (ρ : Ro) (k : Ro → Prop), Pat.put p d ρ (fun ρ' => Pat.puts ps ds ρ' k) → ps.length = ds.length := by
  intro ps ds p d ρ k h
  have h2 : ∃ ρ', Pat.puts ps ds ρ' k := Pat.exi p d ρ _ h
  obtain ⟨ρ', h2⟩ := h2
  exact Pat.len2 ps ds ρ' k h2
theorem Pat.exi : ∀ (p : Pat) (d : D) (ρ : Ro) (k : Ro → Prop), Pat.put p d ρ k → ∃ ρ', k ρ'
  | .n i, d, ρ, k, h => ⟨_, h⟩
  | .t ps, d, ρ, k, h => by
    cases d with
    | tup xs => exact Pat.exis ps xs ρ k h
    | _ => exact False.elim h
theorem Pat.exis : ∀ (ps : List Pat) (ds : List D) (ρ : Ro) (k : Ro → Prop), Pat.puts ps ds ρ k → ∃ ρ', k ρ'
  | [], ds, ρ, k, h => by
    cases ds with
    | nil => exact ⟨_, h⟩
    | cons _ _ => exact False.elim h
  | p :: ps, ds, ρ, k, h => by
    cases ds with
    | nil => exact False.elim h
    | cons d ds =>
      obtain ⟨ρ', h'⟩ := Pat.exi p d ρ _ h
      exact Pat.exis ps ds ρ' k h'
theorem Pat.len2 : ∀ (ps : List Pat) (ds : List D) (ρ : Ro) (k : Ro → Prop), Pat.puts ps ds ρ k → ps.length = ds.length
  | [], ds, ρ, k, h => by
    cases ds with
    | nil => rfl
    | cons _ _ => exact False.elim h
  | p :: ps, ds, ρ, k, h => by
    cases ds with
    | nil => exact False.elim h
    | cons d ds =>
      obtain ⟨ρ', h'⟩ := Pat.exi p d ρ _ h
      simp [Pat.len2 ps ds ρ' k h']
theorem Pat.mono {K : PySem.W.Frag} : ∀ (p : Pat) (v : V) (σ : L2.St) (H : Hp) (Q Q' : L2.St → Hp → Prop), (∀ σ' H', Q σ' H' → Q' σ' H') → Pat.g K p v σ H Q → Pat.g K p v σ H Q'
  | .n i, v, σ, H, Q, Q', m, h => m _ _ h
  | .t ps, v, σ, H, Q, Q', m, h => by
    obtain ⟨a, xs, e, q, l, h⟩ := h
    exact ⟨a, xs, e, q, l, Pat.monos ps xs σ H Q Q' m h⟩
theorem Pat.monos {K : PySem.W.Frag} : ∀ (ps : List Pat) (vs : List V) (σ : L2.St) (H : Hp) (Q Q' : L2.St → Hp → Prop), (∀ σ' H', Q σ' H' → Q' σ' H') → Pat.gs K ps vs σ H Q → Pat.gs K ps vs σ H Q'
  | [], vs, σ, H, Q, Q', m, h => ⟨h.1, m _ _ h.2⟩
  | p :: ps, vs, σ, H, Q, Q', m, h => by
    obtain ⟨v, r, e, h⟩ := h
    exact ⟨v, r, e, Pat.mono p v σ H _ _ (fun σ' H' q => Pat.monos ps r σ' H' Q Q' m q) h⟩
end

def PDTs (X : Cx) (y : DXw) (ifs : List Expr) (t : RT) : Prop := PTs X ifs (lT X.K y t)
def rYes : RT := fun _ S Q => Q true S
theorem pdts_nil : PDTs X y [] rYes := ⟨fun pins s σ H Q I h => by
  obtain ⟨ρ, S, R, sr, so, h, k⟩ := h
  exact pts_nil.run pins s σ H Q I (k true S H (Go.refl so.so) h)⟩
theorem pdts_one {c : Expr} {t : RT} (h : PDT X y c t) : PDTs X y [c] t := pts_one h
/-- no exception is wanted -/
def y0 : DXw := ⟨fun _ _ _ _ => False, fun _ _ _ _ => False⟩
theorem sx0 {K : PySem.W.Frag} {H : Hp} {S : Sto} (h : SOk K H S) : SX K y0 H S := ⟨h, fun _ _ _ _ _ _ _ _ _ _ _ _ z => z⟩
def rLc (wi : RI) (p : Pat) (tt : RT) (te : RE) (vs : List Nat) : RE := fun ρ S Q => wi ρ S fun xs src S1 => ∃ W : Nat → List D → Sto → Prop, W 0 [] S1 ∧ ∀ i acc S', W i acc S' → src S' ∧
  (∀ x, xs[i]? = some x → Pat.put p x (dwipe ρ vs) fun ρ2 => tt ρ2 S' fun b S3 => IFB b (te ρ2 S3 fun d S4 => acc.length < sizeLine ∧ W (i + 1) (acc ++ [d]) S4) (W (i + 1) acc S3)) ∧
  (i = xs.length → ∀ p, S' p = none → Q (.ref p) (sup S' p (.lst acc)))
theorem lc_of {wi : RI} {p : Pat} {tt : RT} {te : RE} {vs : List Nat} {σ : L2.St} {H : Hp} {Q : VK} (ha : Pat.all vs p = true) (h : lE X.K y (rLc wi p tt te vs) σ H Q) : tLc (lI X.K y wi) (Pat.g X.K p) (lT X.K y0 tt) (lE X.K y0 te) vs σ H Q := by
  obtain ⟨ρ, S, R, sr, so, h, k⟩ := h
  refine ⟨ρ, S, _, sr, so, h, fun xs src S1 J H1 g1 jo ⟨W, w0, hs⟩ D hD => ?_⟩
  -- the new list lies beside the store
  have base : ∀ {H2 : Hp} {S2 : Sto} {ws : List V}, Go X.K H1 S1 H2 S2 → H2 D = some (.lst ws) → S2 D = none → True := fun _ _ _ => trivial
  have gD := Go.new (K := X.K) (o := .lst []) g1.ok hD
  have swap : ∀ {H2 : Hp} {S2 : Sto} {ws ws' : List V}, SOk X.K H2 S2 → S2 D = none → H2 D = some (.lst ws) → SOk X.K (upd H2 D (.lst ws')) S2 := fun {H2 S2 ws ws'} so2 e e2 a c q => by
    have ne : a ≠ D := fun z => by rw [z, e] at q; cases q
    have := so2 a c q
    cases c with
    | lst xs => obtain ⟨us, e1, r⟩ := this; exact ⟨us, by rw [upd_ne ne]; exact e1, DVs.wr e2 (.inl ⟨_, rfl⟩) _ _ r⟩
    | dK kvs => obtain ⟨us, e1, r⟩ := this; exact ⟨us, by rw [upd_ne ne]; exact e1, DKs.wr e2 (.inl ⟨_, rfl⟩) r⟩
  -- what stands beside the store, but the new list, from H1 on
  refine ⟨fun i m H2 => ∃ S2 acc ws, m = xs.length - i ∧ i ≤ xs.length ∧ Go X.K H1 S1 H2 S2 ∧ H2 D = some (.lst ws) ∧ S2 D = none ∧ DVs X.K H2 acc ws ∧ W i acc S2, ⟨_, S1, [], [], rfl, Nat.zero_le _, gD, upd_same, g1.ok.free hD, DVs.nil, w0⟩, ?_⟩
  rintro i m H2 ⟨S2, acc, ws, rfl, hi, g2, hD2, sD2, r2, w2⟩
  obtain ⟨hsrc, hturn, hend⟩ := hs i acc S2 w2
  obtain ⟨j1, j2⟩ := jo i H2 S2 g2 hsrc
  by_cases hlt : i < xs.length
  · have hx : xs[i]? = some xs[i] := List.getElem?_eq_getElem hlt
    obtain ⟨jg, jy⟩ := j1 _ hx
    refine .inr ⟨jg, fun H3 => ∃ S3 acc3 ws3, Go X.K H1 S1 H3 S3 ∧ H3 D = some (.lst ws3) ∧ S3 D = none ∧ DVs X.K H3 acc3 ws3 ∧ W (i + 1) acc3 S3, fun H3 ⟨S3, acc3, ws3, g3, a1, a2, a3, a4⟩ => ⟨xs.length - (i + 1), by omega, S3, acc3, ws3, rfl, hlt, g3, a1, a2, a3, a4⟩, fun v H3 hy => ?_⟩
    obtain ⟨g3, dv⟩ := jy v H3 hy
    have gA := g2.trans g3
    have hD3 : H3 D = some (.lst ws) := g3.frame D _ sD2 hD2
    refine Pat.ok p _ v _ _ _ ha dv (((sr.go g1).go gA).wipe vs) (hturn _ hx) fun ρ3 σ3 sr3 hw h3 => ⟨by
      have e : ∀ (l : List Nat), L2.wipe (L2.wipe σ l) l = L2.wipe σ l := by
        intro l
        have gen : ∀ (l l' : List Nat), (∀ i ∈ l, i ∈ l') → L2.wipe (L2.wipe σ l') l = L2.wipe σ l' := by
          intro l
          induction l with
          | nil => intro l' _; rfl
          | cons a l ih =>
            intro l' hl
            show (L2.wipe (L2.wipe σ l') l).set a none = L2.wipe σ l'
            rw [ih l' fun i hi => hl i (List.mem_cons_of_mem _ hi)]
            have ha' := hl a List.mem_cons_self
            apply List.ext_getElem?
            intro j
            by_cases hj : a = j
            · subst hj
              by_cases hb : a < (L2.wipe σ l').length
              · rw [List.getElem?_set_self hb]
                cases q : (L2.wipe σ l')[a]? with
                | none => rw [List.getElem?_eq_none_iff] at q; omega
                | some o =>
                  cases o with
                  | none => rfl
                  | some x => exact absurd ha' (wipe_some q).2
              · rw [List.getElem?_eq_none (by simpa using hb), List.getElem?_eq_none (by simpa using hb)]
            · rw [List.getElem?_set_ne hj]
        exact gen l l fun _ h => h
      rw [hw, e], ?_⟩
    refine ⟨ρ3, S2, _, sr3, sx0 gA.ok, h3, fun b S4 H4 g4 h4 => ?_⟩
    have hD4 : H4 D = some (.lst ws) := g4.frame D _ sD2 hD3
    have sD4 : S4 D = none := g4.ex D _ sD2 hD3
    refine ite_of_IFB h4 (fun z => ⟨ρ3, S4, _, sr3.go g4, sx0 g4.ok, z, fun d S5 w H5 g5 dv5 h5 => ?_⟩) fun z => ?_
    · have hD5 : H5 D = some (.lst ws) := g5.frame D _ sD4 hD4
      have sD5 : S5 D = none := g5.ex D _ sD4 hD4
      have gB := (gA.trans g4).trans g5
      have r5 : DVs X.K H5 acc ws := DVs.go ((g3.trans g4).trans g5) _ _ r2
      refine ⟨ws, hD5, by rw [← r5.length]; exact h5.1, S5, acc ++ [d], ws ++ [w], ⟨g1.ok, swap gB.ok sD5 hD5, fun a o e q => ?_, gB.ex⟩, upd_same, sD5, DVs.wr hD5 (.inl ⟨_, rfl⟩) _ _ (r5.append (DVs.cons dv5 DVs.nil)), h5.2⟩
      rw [upd_ne (ne_of_none q hD)]
      exact gB.frame a o e q
    · exact ⟨S4, acc, ws, gA.trans g4, hD4, sD4, DVs.go (g3.trans g4) _ _ r2, z⟩
  · have e : i = xs.length := by omega
    subst e
    refine .inl ⟨j2 (by simp), ?_⟩
    have sok : SOk X.K H2 (sup S2 D (.lst acc)) := fun a c q => by
      by_cases ha : a = D
      · subst ha
        rw [sup_same] at q; cases q
        exact ⟨ws, hD2, r2⟩
      · rw [sup_ne ha] at q
        exact g2.ok a c q
    have gE : Go X.K H1 S1 H2 (sup S2 D (.lst acc)) := ⟨g1.ok, sok, g2.frame, fun a o e q => by rw [sup_ne (ne_of_none q hD)]; exact g2.ex a o e q⟩
    exact k (.ref D) _ _ _ (g1.trans gE) rfl (hend rfl D sD2)
theorem pd_lc {elt tg iter : Expr} {ifs : List Expr} {scope : Scope} {own : List (Str × Nat)} {wi : RI} {p : Pat} {tt : RT} {te : RE} (hc : X.calm = true) (hN : X.N.Nodup) (hi : PDI X y tg iter wi) (ok : BlkOk X.N X.env.scope scope own)
    (hg : ∀ (s : Shared) (H : Hp) (C : Addr) (cl : List (Str × Addr)) (fp : List Addr), PG (X.blk s H scope (compEnvC scope cl C X.env) fp) tg (Pat.g X.K p)) (ht : ∀ (s : Shared) (H : Hp) (C : Addr) (cl : List (Str × Addr)) (fp : List Addr), PDTs (X.blk s H scope (compEnvC scope cl C X.env) fp) y0 ifs tt)
    (he : ∀ (s : Shared) (H : Hp) (C : Addr) (cl : List (Str × Addr)) (fp : List Addr), PD (X.blk s H scope (compEnvC scope cl C X.env) fp) y0 elt te) (hv : Pat.all (own.map (·.2)) p = true := by rfl) (hs : ∀ x, foldedSetIterable iter X.env x = pure x := by intro _; rfl) :
    PD X y (.ListComp elt [⟨tg, iter, ifs, 0⟩] scope pos) (rLc wi p tt te (own.map (·.2))) :=
  PD.of (pe_lc (tt := lT X.K y0 tt) (te := lE X.K y0 te) hc hN hi ok hg ht he hs) fun σ H Q h => lc_of hv h
theorem pd_setLc (i : Nat) {yn : Str} {py : Pos} {elt tg iter : Expr} {ifs : List Expr} {scope : Scope} {own : List (Str × Nat)} {spos : Pos} {wi : RI} {p : Pat} {tt : RT} {te : RE} (hc : X.calm = true) (hN : X.N.Nodup) (hy : X.N[i]? = some yn) (hyl : X.env.scope.names.lookup yn = some .local)
    (hsw : swapsWith (.ListComp elt [⟨tg, iter, ifs, 0⟩] scope pos) (some (.Name yn py)) spos.line X.env = pure true) (hi : PDI X y tg iter wi) (ok : BlkOk X.N X.env.scope scope own)
    (hg : ∀ (s : Shared) (H : Hp) (C : Addr) (cl : List (Str × Addr)) (fp : List Addr), PG (X.blk s H scope (compEnvC scope cl C X.env) fp) tg (Pat.g X.K p)) (ht : ∀ (s : Shared) (H : Hp) (C : Addr) (cl : List (Str × Addr)) (fp : List Addr), PDTs (X.blk s H scope (compEnvC scope cl C X.env) fp) y0 ifs tt)
    (he : ∀ (s : Shared) (H : Hp) (C : Addr) (cl : List (Str × Addr)) (fp : List Addr), PD (X.blk s H scope (compEnvC scope cl C X.env) fp) y0 elt te) (hv : Pat.all (own.map (·.2)) p = true := by rfl) (hs : ∀ x, foldedSetIterable iter X.env x = pure x := by intro _; rfl) :
    PDS X y (.Assign [.Name yn py] (.ListComp elt [⟨tg, iter, ifs, 0⟩] scope pos) spos) (rAsg (rLc wi p tt te (own.map (·.2))) (gN i)) :=
  PDS.of (ps_setLc (tt := lT X.K y0 tt) (te := lE X.K y0 te) hc hN hy hyl hsw hi ok hg ht he hs) fun D σ H h => by
    obtain ⟨ρ, S, E, sr, so, h, eo⟩ := h
    exact lc_of hv ⟨ρ, S, _, sr, so, h, fun d S1 v H1 g1 dv h1 => eo.nx _ S1 _ H1 g1 ((sr.go g1).set dv i) h1⟩
end
end DL
set_option Elab.async false
set_option linter.all false
set_option maxRecDepth 100000
set_option maxHeartbeats 4000000
namespace DL
open PySem PySem.Spec PyProof.Rows L2

/-! ### defs -/
abbrev DSp := List D → Sto → (D → Sto → Prop) → (Addr → D → Sto → Prop) → Prop
def toSp (K : PySem.W.Frag) (f : DSp) : Sp := fun vs H Q E => ∃ ds S R RX, DVs K H ds vs ∧ SOk K H S ∧ f ds S R RX ∧ (∀ d S' v H', Go K H S H' S' → DV K H' d v → R d S' → Q v H') ∧
  (∀ C d S' dx w H', Go K H S H' S' → H' dx = some (.xd [(("value" : Str), w)]) → DV K H' d w → RX C d S' → E (.ref C) (some dx) H')
def startD (N : List Str) (ds : List D) : Ro := ds.map some ++ List.replicate (N.length - ds.length) none
theorem start_srv {K : PySem.W.Frag} {H : Hp} {N : List Str} {ds : List D} {vs : List V} (h : DVs K H ds vs) : SRv K (L2.start N vs) H (startD N ds) := by
  have hl := h.length
  refine ⟨by unfold L2.start startD; simp [hl], fun i d e => ?_⟩
  unfold startD at e
  by_cases hi : i < ds.length
  · rw [List.getElem?_append_left (by simpa using hi), List.getElem?_map] at e
    cases q : ds[i]? with
    | none => rw [q] at e; cases e
    | some d' =>
      rw [q] at e
      have e2 : d' = d := Option.some.inj (Option.some.inj e)
      subst e2
      obtain ⟨v, e1, r⟩ := h.get q
      refine ⟨v, ?_, r⟩
      unfold L2.start
      rw [List.getElem?_append_left (by simpa using (hl ▸ hi)), List.getElem?_map, e1]
      rfl
  · rw [List.getElem?_append_right (by simpa using hi), List.getElem?_replicate] at e
    split at e <;> cases e
abbrev yOf (E : XK) (RX : Addr → D → Sto → Prop) : DXw := ⟨fun cls d _ H => E cls d H, fun C d _ S => RX C d S⟩
theorem fnD {P : Program} {w : World} {K : PySem.W.Frag} {mg : Str → Option Value} {base : Heap} {x qual : Str} {st : Stmt} {f : Addr} {fd : FuncData} {N ps : List Str} {k : Nat} {sp : DSp} (F : Fun K x qual st f fd) (S : FnScope N ps (defScope st))
    (len : ∀ ds S Q E, sp ds S Q E → ds.length = ps.length)
    (hbody : ∀ (cdv : Value) (A : Around) (outer : List Env) (s : Shared) (H : Hp) (E : XK) (RX : Addr → D → Sto → Prop), Room k (A.deeper (envOfC qual (defScope st) s.heap.objs.size f cdv)) →
      ∃ t, PDSs (cxOf (L2.CX P w) P w K mg base N qual (defScope st) f cdv A outer s H E) (yOf E RX) (defBody st) t ∧ ∀ ds S Q, sp ds S Q RX → t { nx := fun _ S' => Q .non S', rt := Q } (startD N ds) S) :
    FnOk P w K mg base (L2.CX P w) (k + 1) f fd ps (toSp K sp) := by
  refine F.okX S (fun vs H Q E h => ?_) (fun cdv A outer s H vs Q E hr h => ?_)
  · obtain ⟨ds, S, R, RX, dvs, _, h, _⟩ := h
    rw [← dvs.length]
    exact len _ _ _ _ h
  · obtain ⟨ds, S, R, RX, dvs, so, h, k1, k2⟩ := h
    obtain ⟨t, ht, hq⟩ := hbody cdv A outer s H E RX hr
    refine ⟨_, ht, startD N ds, S, { nx := fun _ S' => R .non S', rt := R }, start_srv dvs, ⟨so, fun C d ρ S' dx w' σ H' g _ e dv q => k2 C d S' dx w' H' g e dv q⟩, hq ds S R h, ?_⟩
    exact ⟨fun ρ S' σ H' g _ q => k1 .non S' .non H' g rfl q, fun d S' v H' g dv q => k1 d S' v H' g dv q, fun _ _ _ _ _ _ z => z, fun _ _ _ _ _ _ z => z⟩
section
variable {X : Cx} {y : DXw} {pos p : Pos} {e : Expr} {es : List Expr} {x : Str} {k : Nat} {f : Addr} {fd : FuncData} {ps : List Str} {spec : DSp}
def rCall (y : DXw) (spec : DSp) (ta : RA) : RE := fun ρ S Q => ta ρ S fun ds S1 => spec ds S1 Q fun C d S' => y.d C d ρ S'
theorem pd_call {ta : RA} (tk : Takes X y.W) (G : FnOk X.prog X.w X.K X.mg X.base (L2.CX X.prog X.w) k f fd ps (toSp X.K spec)) (hr : Room k X.A) (hm : X.mg x = some (.ref f)) (hk : PySem.W.keepIn X.K (.ref f) = true) (hb : Binds X.K fd ps [])
    (ha : PDA X y (e :: es) ta) (hg : Gl X x := by rfl) (hdb : (x == ("__debug__" : Str)) = false := by decide) (he : starEach (e :: es) X.env = (false, eval e X.env) :: starEach es X.env := by rfl) (hpl : (backTo pos (starEach es X.env)).any (·.1) = false := by rfl) :
    PD X y (.Call (.Name x p) (e :: es) [] pos) (rCall y spec ta) :=
  PD.of (pe_callS G hr hg hm hk hb (fun σ => passAt tk σ) ha hdb he hpl) fun σ H Q h => by
    obtain ⟨ρ, S, R, sr, so, h, k⟩ := h
    exact ⟨ρ, S, _, sr, so, h, fun ds S1 vs H1 g1 dvs hn h1 => ⟨ds, S1, R, _, dvs, g1.ok, h1, fun d S2 v H2 g2 dv q => k d S2 v H2 (g1.trans g2) dv q, fun C d S2 dx w H2 g2 e dw q => (so.go g1).xo C d ρ S2 dx w σ H2 g2 (sr.go (g1.trans g2)) e dw q⟩⟩
/-- keywords -/
def RdK (X : Cx) (y : DXw) (kws : List Keyword) (n : Nat) (t : RA) : Prop := PK X kws (lA X.K y n t)
theorem pdk_nil : RdK X y [] 0 rNil := ⟨fun pins pos s σ H Q I h => by
  obtain ⟨ρ, S, R, sr, so, h, k⟩ := h
  exact pk_nil.run pins pos s σ H Q I (k [] S [] H (Go.refl so.so) DVs.nil rfl h)⟩
theorem pdk_cons {nm : Option Str} {kpos : Pos} {kws : List Keyword} {n : Nat} {t : RE} {u : RA} (he : PD X y e t) (hr : RdK X y kws n u) : RdK X y (⟨nm, e, kpos⟩ :: kws) (n + 1) (rCons t u) := ⟨fun pins pos s σ H Q I h => by
  obtain ⟨ρ, S, R, sr, so, h, k⟩ := h
  refine (pk_cons he hr).run pins pos s σ H Q I ⟨ρ, S, _, sr, so, h, fun d S1 v H1 g1 dv h1 => ⟨ρ, S1, _, sr.go g1, so.go g1, h1, fun ds S2 vs H2 g2 dvs hn h2 => ?_⟩⟩
  exact k _ S2 _ H2 (g1.trans g2) (DVs.cons (DV.go g2 _ _ dv) dvs) (by rw [List.length_cons, hn]) h2⟩
end
end DL
set_option Elab.async false
set_option linter.all false
set_option maxRecDepth 100000
set_option maxHeartbeats 4000000
namespace DL
open PySem PySem.Spec PyProof.Rows L2

/-! ### data as PyData -/
mutual
inductive PyR (S : Sto) : D → PyData → Prop
  | non : PyR S .non .none
  | bl (b : Bool) : PyR S (.bl b) (.bool b)
  | int (i : Int) : PyR S (.int i) (.int i)
  | str (x : Str) : PyR S (.str x) (.str x)
  | tup {xs : List D} {ps : List PyData} : PyRs S xs ps → PyR S (.tup xs) (.tuple ps)
  | fro {xs : List D} {ps : List PyData} : PyRs S xs ps → PyR S (.fro xs) (.list ps)
  | lst {a : Addr} {xs : List D} {ps : List PyData} : S a = some (.lst xs) → PyRs S xs ps → PyR S (.ref a) (.list ps)
inductive PyRs (S : Sto) : List D → List PyData → Prop
  | nil : PyRs S [] []
  | cons {x : D} {xs : List D} {p : PyData} {ps : List PyData} : PyR S x p → PyRs S xs ps → PyRs S (x :: xs) (p :: ps)
end
section
variable {K : PySem.W.Frag} {H : Hp} {S : Sto}
mutual
theorem PyR.dp (so : SOk K H S) : ∀ (p : PyData) (x : D) (v : V), PyR S x p → DV K H x v → Dp K H v p
  | .none, _, _, h, r => by cases h; cases (show _ = V.non from r); exact .non
  | .bool b, _, _, h, r => by cases h; cases (show _ = V.bl b from r); exact .bl b
  | .int i, _, _, h, r => by cases h; cases (show _ = V.int i from r); exact .int i
  | .str x, _, _, h, r => by cases h; cases (show _ = V.str x from r); exact .str x
  | .tuple ps, _, _, h, r => by
    cases h with
    | tup hs =>
      obtain ⟨a, vs, rfl, q, r⟩ := r
      exact .tup q.sq (PyR.dps so ps _ _ hs r)
  | .list ps, _, _, h, r => by
    cases h with
    | fro hs =>
      obtain ⟨a, vs, rfl, q, r⟩ := r
      exact .lst q.sq (PyR.dps so ps _ _ hs r)
    | lst e hs =>
      cases (show _ = V.ref _ from r)
      obtain ⟨vs, e1, r⟩ := so _ _ e
      exact .lst (SqL.of e1) (PyR.dps so ps _ _ hs r)
  | .dict _, _, _, h, _ => by cases h
theorem PyR.dps (so : SOk K H S) : ∀ (ps : List PyData) (xs : List D) (vs : List V), PyRs S xs ps → DVs K H xs vs → DpAll K H vs ps
  | [], _, _, h, r => by cases h; cases (show _ = [] from r); exact .nil
  | p :: ps, _, _, h, r => by
    cases h with
    | cons h1 h2 =>
      obtain ⟨v, ws, rfl, r1, r2⟩ := r
      exact .cons (PyR.dp so p _ _ h1 r1) (PyR.dps so ps _ _ h2 r2)
end
end

/-! ### operators -/
def dAdd : ROp
  | .int i, .int j, S, R => R (.int (i + j)) S
  | .str x, .str z, S, R => x.length + z.length ≤ sizeLine ∧ R (.str (x ++ z)) S
  | .tup xs, .tup ys, S, R => xs.length + ys.length ≤ sizeLine ∧ R (.tup (xs ++ ys)) S
  | .ref a, .ref b, S, R => ∃ xs ys, S a = some (.lst xs) ∧ S b = some (.lst ys) ∧ xs.length + ys.length ≤ sizeLine ∧ ∀ p, S p = none → R (.ref p) (sup S p (.lst (xs ++ ys)))
  | _, _, _, _ => False
def dSub : ROp
  | .int i, .int j, S, R => R (.int (i - j)) S
  | _, _, _, _ => False
def dMul : ROp
  | .int i, .int j, S, R => (CMulW i j ∨ CMul i j) ∧ R (.int (i * j)) S
  | .ref a, .int k, S, R => ∃ xs, S a = some (.lst xs) ∧ (0 ≤ k ∧ k < 2 ^ 63) ∧ xs.length * k.toNat ≤ sizeLine ∧ ∀ p, S p = none → R (.ref p) (sup S p (.lst ((List.replicate k.toNat xs).flatten)))
  | _, _, _, _ => False
def dFdiv : ROp
  | .int i, .int j, S, R => CDivW i j ∧ R (.int (i / j)) S
  | _, _, _, _ => False
def dMod : ROp
  | .int i, .int j, S, R => 0 < j ∧ R (.int (i % j)) S
  | _, _, _, _ => False
def dPow : ROp
  | .int i, .int j, S, R => (0 ≤ j ∧ (Builtin.Int.intBits i : Int) * j ≤ 2 ^ 27) ∧ R (.int (i ^ j.toNat)) S
  | _, _, _, _ => False
def dCmpI (f : Int → Int → Bool) : ROp
  | .int i, .int j, S, R => R (.bl (f i j)) S
  | _, _, _, _ => False
def dLt : ROp
  | .int i, .int j, S, R => R (.bl (decide (i < j))) S
  | _, _, _, _ => False
def dLe : ROp
  | .int i, .int j, S, R => R (.bl (decide (i ≤ j))) S
  | _, _, _, _ => False
def dGt : ROp
  | .int i, .int j, S, R => R (.bl (decide (j < i))) S
  | _, _, _, _ => False
def dGe : ROp
  | .int i, .int j, S, R => R (.bl (decide (j ≤ i))) S
  | _, _, _, _ => False
def dEqG (n : Bool) (x y : D) (S : Sto) (R : D → Sto → Prop) : Prop := ∃ p q, PyR S x p ∧ PyR S y q ∧ SeqAt.shaped p = true ∧ SeqAt.shaped q = true ∧ R (.bl (if n then !PyData.eqv p q else PyData.eqv p q)) S
def dEq : ROp
  | .int i, .int j, S, R => R (.bl (decide (i = j))) S
  | .bl i, .bl j, S, R => R (.bl (decide (i = j))) S
  | .str i, .str j, S, R => R (.bl (decide (i = j))) S
  | x, y, S, R => dEqG false x y S R
def dNe : ROp
  | .int i, .int j, S, R => R (.bl (!decide (i = j))) S
  | .bl i, .bl j, S, R => R (.bl (!decide (i = j))) S
  | .str i, .str j, S, R => R (.bl (!decide (i = j))) S
  | x, y, S, R => dEqG true x y S R
def isNone : D → Bool
  | .non => true
  | _ => false
def dIs : ROp
  | x, .non, S, R => R (.bl (isNone x)) S
  | _, _, _, _ => False
def dIsNot : ROp
  | x, .non, S, R => R (.bl (!isNone x)) S
  | _, _, _, _ => False
section
variable {X : Cx}
theorem od_add : OpR X (binaryOp .Add) (lop X.K dAdd) := by
  intro pins s σ H v w vv ww Q I rv rw' h
  obtain ⟨x, y, S, R, dx, dy, so, h, k⟩ := h
  cases x <;> cases y <;> first | exact False.elim h | skip
  case int.int i j =>
    cases (show v = V.int i from dx); cases (show w = V.int j from dy)
    exact op_add pins s σ H _ _ vv ww Q I rv rw' ⟨i, j, rfl, rfl, k (.int (i + j)) S _ H (Go.refl so) rfl h⟩
  case str.str i j =>
    cases (show v = V.str i from dx); cases (show w = V.str j from dy)
    exact op_add_str pins s σ H _ _ vv ww Q I rv rw' ⟨i, j, rfl, rfl, h.1, k (.str (i ++ j)) S _ H (Go.refl so) rfl h.2⟩
  case tup.tup xs ys =>
    obtain ⟨a, vs, rfl, q1, r1⟩ := dx
    obtain ⟨b, ws, rfl, q2, r2⟩ := dy
    obtain ⟨hl, h⟩ := h
    refine op_catA pins s σ H _ _ vv ww Q I rv rw' ⟨a, b, vs, ws, rfl, rfl, q1.sq, q2.sq, by rw [← r1.length, ← r2.length]; exact hl, fun hv => ?_, fun _ hw => ?_, fun _ _ p hp => ?_⟩
    · subst hv
      have e : xs = [] := List.length_eq_zero_iff.mp r1.length
      subst e
      rw [List.nil_append] at h
      exact k (.tup ys) S _ H (Go.refl so) ⟨b, ws, rfl, q2, r2⟩ h
    · subst hw
      have e : ys = [] := List.length_eq_zero_iff.mp r2.length
      subst e
      rw [List.append_nil] at h
      exact k (.tup xs) S _ H (Go.refl so) ⟨a, vs, rfl, q1, r1⟩ h
    · have g := Go.new (o := .tup (vs ++ ws)) so hp
      exact k (.tup (xs ++ ys)) S _ _ g ⟨p, vs ++ ws, rfl, .inl upd_same, DVs.append (DVs.go g _ _ r1) (DVs.go g _ _ r2)⟩ h
  case ref.ref a b =>
    cases (show v = V.ref a from dx); cases (show w = V.ref b from dy)
    obtain ⟨xs, ys, e1, e2, hl, h⟩ := h
    obtain ⟨vs, f1, r1⟩ := so _ _ e1
    obtain ⟨ws, f2, r2⟩ := so _ _ e2
    refine op_cat pins s σ H _ _ vv ww Q I rv rw' ⟨a, b, vs, ws, rfl, rfl, f1, f2, by rw [← r1.length, ← r2.length]; exact hl, fun p hp => ?_⟩
    exact k (.ref p) _ _ _ (Go.newLst so hp (r1.append r2)) rfl (h p (so.free hp))
theorem od_sub : OpR X (binaryOp .Sub) (lop X.K dSub) := by
  intro pins s σ H v w vv ww Q I rv rw' h
  obtain ⟨x, y, S, R, dx, dy, so, h, k⟩ := h
  cases x <;> cases y <;> first | exact False.elim h | skip
  case int.int i j =>
    cases (show v = V.int i from dx); cases (show w = V.int j from dy)
    exact op_sub pins s σ H _ _ vv ww Q I rv rw' ⟨i, j, rfl, rfl, k (.int (i - j)) S _ H (Go.refl so) rfl h⟩
theorem od_mul : OpR X (binaryOp .Mult) (lop X.K dMul) := by
  intro pins s σ H v w vv ww Q I rv rw' h
  obtain ⟨x, y, S, R, dx, dy, so, h, k⟩ := h
  cases x <;> cases y <;> first | exact False.elim h | skip
  case int.int i j =>
    cases (show v = V.int i from dx); cases (show w = V.int j from dy)
    rcases h.1 with hc | hc
    · exact op_mulW pins s σ H _ _ vv ww Q I rv rw' ⟨i, j, rfl, rfl, hc, k (.int (i * j)) S _ H (Go.refl so) rfl h.2⟩
    · exact op_mul pins s σ H _ _ vv ww Q I rv rw' ⟨i, j, rfl, rfl, hc, k (.int (i * j)) S _ H (Go.refl so) rfl h.2⟩
  case ref.int a j =>
    cases (show v = V.ref a from dx); cases (show w = V.int j from dy)
    obtain ⟨xs, e1, ⟨h0, h1⟩, hl, h⟩ := h
    obtain ⟨vs, f1, r1⟩ := so _ _ e1
    refine op_rep pins s σ H _ _ vv ww Q I rv rw' ⟨a, j, vs, rfl, rfl, f1, by omega, h1, by rw [← r1.length]; exact hl, fun p hp => ?_⟩
    have rr : DVs X.K H ((List.replicate j.toNat xs).flatten) ((List.replicate j.toNat vs).flatten) := by
      generalize j.toNat = n
      induction n with
      | zero => exact DVs.nil
      | succ n ih => rw [List.replicate_succ, List.replicate_succ, List.flatten_cons, List.flatten_cons]; exact r1.append ih
    exact k (.ref p) _ _ _ (Go.newLst so hp rr) rfl (h p (so.free hp))
theorem od_fdiv : OpR X (binaryOp .FloorDiv) (lop X.K dFdiv) := by
  intro pins s σ H v w vv ww Q I rv rw' h
  obtain ⟨x, y, S, R, dx, dy, so, h, k⟩ := h
  cases x <;> cases y <;> first | exact False.elim h | skip
  case int.int i j =>
    cases (show v = V.int i from dx); cases (show w = V.int j from dy)
    exact op_fdivW pins s σ H _ _ vv ww Q I rv rw' ⟨i, j, rfl, rfl, h.1, k (.int (i / j)) S _ H (Go.refl so) rfl h.2⟩
theorem od_mod : OpR X (binaryOp .Mod) (lop X.K dMod) := by
  intro pins s σ H v w vv ww Q I rv rw' h
  obtain ⟨x, y, S, R, dx, dy, so, h, k⟩ := h
  cases x <;> cases y <;> first | exact False.elim h | skip
  case int.int i j =>
    cases (show v = V.int i from dx); cases (show w = V.int j from dy)
    exact op_mod pins s σ H _ _ vv ww Q I rv rw' ⟨i, j, rfl, rfl, h.1, k (.int (i % j)) S _ H (Go.refl so) rfl h.2⟩
theorem op_powW : OpR X (binaryOp .Pow) (rI (fun i j => 0 ≤ j ∧ (Builtin.Int.intBits i : Int) * j ≤ 2 ^ 27) fun i j => .int (i ^ j.toNat)) := opI fun _ _ _ _ _ _ _ hc q => PyProof.Rows.pow_int hc.1 hc.2 q
theorem od_pow : OpR X (binaryOp .Pow) (lop X.K dPow) := by
  intro pins s σ H v w vv ww Q I rv rw' h
  obtain ⟨x, y, S, R, dx, dy, so, h, k⟩ := h
  cases x <;> cases y <;> first | exact False.elim h | skip
  case int.int i j =>
    cases (show v = V.int i from dx); cases (show w = V.int j from dy)
    exact op_powW pins s σ H _ _ vv ww Q I rv rw' ⟨i, j, rfl, rfl, h.1, k (.int (i ^ j.toNat)) S _ H (Go.refl so) rfl h.2⟩
theorem od_cmpI {op : CmpOp} {f : Int → Int → Bool} (ho : OpR X (compareOp op) (rI0 fun i j => .bl (f i j))) : OpR X (compareOp op) (lop X.K (dCmpI f)) := by
  intro pins s σ H v w vv ww Q I rv rw' h
  obtain ⟨x, y, S, R, dx, dy, so, h, k⟩ := h
  cases x <;> cases y <;> first | exact False.elim h | skip
  case int.int i j =>
    cases (show v = V.int i from dx); cases (show w = V.int j from dy)
    exact ho pins s σ H _ _ vv ww Q I rv rw' ⟨i, j, rfl, rfl, k (.bl (f i j)) S _ H (Go.refl so) rfl h⟩
theorem od_lt : OpR X (compareOp .Lt) (lop X.K dLt) := od_cmpI op_lt
theorem od_le : OpR X (compareOp .LtE) (lop X.K dLe) := od_cmpI op_le
theorem od_gt : OpR X (compareOp .Gt) (lop X.K dGt) := od_cmpI op_gt
theorem od_ge : OpR X (compareOp .GtE) (lop X.K dGe) := od_cmpI op_ge
theorem eqG_of {n : Bool} {x y : D} {S : Sto} {R : D → Sto → Prop} {H : Hp} {v w : V} {Q : VK} (so : SOk X.K H S) (dx : DV X.K H x v) (dy : DV X.K H y w) (h : dEqG n x y S R) (k : ∀ d S' z H', Go X.K H S H' S' → DV X.K H' d z → R d S' → Q z H') :
    ∃ d e, Dp X.K H v d ∧ Dp X.K H w e ∧ SeqAt.shaped d = true ∧ SeqAt.shaped e = true ∧ Q (.bl (if n then !PyData.eqv d e else PyData.eqv d e)) H := by
  obtain ⟨p, q, h1, h2, s1, s2, h⟩ := h
  exact ⟨p, q, PyR.dp so p x v h1 dx, PyR.dp so q y w h2 dy, s1, s2, k (.bl (if n then !PyData.eqv p q else PyData.eqv p q)) S _ H (Go.refl so) rfl h⟩
theorem dEq_case {x y : D} {S : Sto} {R : D → Sto → Prop} (h : dEq x y S R) : (∃ i j, x = .int i ∧ y = .int j ∧ R (.bl (decide (i = j))) S) ∨ (∃ i j, x = .bl i ∧ y = .bl j ∧ R (.bl (decide (i = j))) S) ∨ (∃ i j, x = .str i ∧ y = .str j ∧ R (.bl (decide (i = j))) S) ∨ dEqG false x y S R := by
  cases x <;> cases y <;> first | exact .inr (.inr (.inr h)) | exact .inl ⟨_, _, rfl, rfl, h⟩ | exact .inr (.inl ⟨_, _, rfl, rfl, h⟩) | exact .inr (.inr (.inl ⟨_, _, rfl, rfl, h⟩))
theorem dNe_case {x y : D} {S : Sto} {R : D → Sto → Prop} (h : dNe x y S R) : (∃ i j, x = .int i ∧ y = .int j ∧ R (.bl (!decide (i = j))) S) ∨ (∃ i j, x = .bl i ∧ y = .bl j ∧ R (.bl (!decide (i = j))) S) ∨ (∃ i j, x = .str i ∧ y = .str j ∧ R (.bl (!decide (i = j))) S) ∨ dEqG true x y S R := by
  cases x <;> cases y <;> first | exact .inr (.inr (.inr h)) | exact .inl ⟨_, _, rfl, rfl, h⟩ | exact .inr (.inl ⟨_, _, rfl, rfl, h⟩) | exact .inr (.inr (.inl ⟨_, _, rfl, rfl, h⟩))
theorem od_eq (hu : X.A.units + 64 < cLine) : OpR X (compareOp .Eq) (lop X.K dEq) := by
  intro pins s σ H v w vv ww Q I rv rw' h
  obtain ⟨x, y, S, R, dx, dy, so, h, k⟩ := h
  rcases dEq_case h with ⟨i, j, rfl, rfl, h⟩ | ⟨i, j, rfl, rfl, h⟩ | ⟨i, j, rfl, rfl, h⟩ | h
  · cases (show v = V.int i from dx); cases (show w = V.int j from dy)
    exact op_eq pins s σ H _ _ vv ww Q I rv rw' ⟨rfl, by rw [show decide (V.int i = V.int j) = decide (i = j) by simp]; exact k (.bl (decide (i = j))) S _ H (Go.refl so) rfl h⟩
  · cases (show v = V.bl i from dx); cases (show w = V.bl j from dy)
    exact op_eq pins s σ H _ _ vv ww Q I rv rw' ⟨rfl, by rw [show decide (V.bl i = V.bl j) = decide (i = j) by simp]; exact k (.bl (decide (i = j))) S _ H (Go.refl so) rfl h⟩
  · cases (show v = V.str i from dx); cases (show w = V.str j from dy)
    exact op_eq pins s σ H _ _ vv ww Q I rv rw' ⟨rfl, by rw [show decide (V.str i = V.str j) = decide (i = j) by simp]; exact k (.bl (decide (i = j))) S _ H (Go.refl so) rfl h⟩
  · exact op_eqD hu pins s σ H _ _ vv ww Q I rv rw' (eqG_of so dx dy h k)
theorem od_ne (hu : X.A.units + 64 < cLine) : OpR X (compareOp .NotEq) (lop X.K dNe) := by
  intro pins s σ H v w vv ww Q I rv rw' h
  obtain ⟨x, y, S, R, dx, dy, so, h, k⟩ := h
  rcases dNe_case h with ⟨i, j, rfl, rfl, h⟩ | ⟨i, j, rfl, rfl, h⟩ | ⟨i, j, rfl, rfl, h⟩ | h
  · cases (show v = V.int i from dx); cases (show w = V.int j from dy)
    exact op_ne pins s σ H _ _ vv ww Q I rv rw' ⟨rfl, by rw [show decide (V.int i = V.int j) = decide (i = j) by simp]; exact k (.bl (!decide (i = j))) S _ H (Go.refl so) rfl h⟩
  · cases (show v = V.bl i from dx); cases (show w = V.bl j from dy)
    exact op_ne pins s σ H _ _ vv ww Q I rv rw' ⟨rfl, by rw [show decide (V.bl i = V.bl j) = decide (i = j) by simp]; exact k (.bl (!decide (i = j))) S _ H (Go.refl so) rfl h⟩
  · cases (show v = V.str i from dx); cases (show w = V.str j from dy)
    exact op_ne pins s σ H _ _ vv ww Q I rv rw' ⟨rfl, by rw [show decide (V.str i = V.str j) = decide (i = j) by simp]; exact k (.bl (!decide (i = j))) S _ H (Go.refl so) rfl h⟩
  · exact op_neD hu pins s σ H _ _ vv ww Q I rv rw' (eqG_of so dx dy h k)
theorem isNone_of {K : PySem.W.Frag} {H : Hp} {x : D} {v : V} (h : DV K H x v) : decide (v = V.non) = isNone x := by
  cases x with
  | non => cases (show v = V.non from h); rfl
  | bl b => cases (show v = V.bl b from h); rfl
  | int b => cases (show v = V.int b from h); rfl
  | str b => cases (show v = V.str b from h); rfl
  | ty b => cases (show v = V.ty b from h); rfl
  | ref b => cases (show v = V.ref b from h); rfl
  | tup b => obtain ⟨a, vs, rfl, _⟩ := h; rfl
  | fro b => obtain ⟨a, vs, rfl, _⟩ := h; rfl
  | exc C d => obtain ⟨a, dx, w, rfl, _⟩ := h; rfl
theorem od_is : OpR X (compareOp .Is) (lop X.K dIs) := by
  intro pins s σ H v w vv ww Q I rv rw' h
  obtain ⟨x, y, S, R, dx, dy, so, h, k⟩ := h
  cases y <;> first | (cases x <;> exact False.elim h) | skip
  cases (show w = V.non from dy)
  have h : R (.bl (isNone x)) S := by cases x <;> exact h
  exact op_isN pins s σ H _ _ vv ww Q I rv rw' ⟨rfl, by rw [isNone_of dx]; exact k (.bl (isNone x)) S _ H (Go.refl so) rfl h⟩
theorem od_isnot : OpR X (compareOp .IsNot) (lop X.K dIsNot) := by
  intro pins s σ H v w vv ww Q I rv rw' h
  obtain ⟨x, y, S, R, dx, dy, so, h, k⟩ := h
  cases y <;> first | (cases x <;> exact False.elim h) | skip
  cases (show w = V.non from dy)
  have h : R (.bl (!isNone x)) S := by cases x <;> exact h
  exact op_notN pins s σ H _ _ vv ww Q I rv rw' ⟨rfl, by rw [isNone_of dx]; exact k (.bl (!isNone x)) S _ H (Go.refl so) rfl h⟩
variable {y : DXw} {a b : Expr} {t : RE} {pos : Pos}
/-- -a -/
def rNeg (t : RE) : RE := fun ρ S Q => t ρ S fun d S1 => match d with
  | .int i => Q (.int (-i)) S1
  | _ => False
theorem pd_neg (ha : PD X y a t) : PD X y (.UnaryOp .USub a pos) (rNeg t) := by
  refine PD.of (pe_un un_neg ha) fun σ H Q h => ?_
  obtain ⟨ρ, S, R, sr, so, h, k⟩ := h
  refine ⟨ρ, S, _, sr, so, h, fun d S' v H' g dv hd => ?_⟩
  cases d with
  | int i => exact ⟨i, dv, k (.int (-i)) S' _ H' g rfl hd⟩
  | _ => exact False.elim hd
end
end DL
set_option Elab.async false
set_option linter.all false
set_option maxRecDepth 100000
set_option maxHeartbeats 4000000
namespace DL
open PySem PySem.Spec PyProof.Rows L2

/-! ### built-ins, by values -/
abbrev RCall := List D → Sto → (D → Sto → Prop) → Prop
def lcl (K : PySem.W.Frag) (p : RCall) : List V → Hp → VK → Prop := fun vs H Q => ∃ ds S R, DVs K H ds vs ∧ SOk K H S ∧ p ds S R ∧ ∀ d S' z H', Go K H S H' S' → DV K H' d z → R d S' → Q z H'
def rCl (p : RCall) (ta : RA) : RE := fun ρ S Q => ta ρ S fun ds S1 => p ds S1 Q
def dvs1 {K : PySem.W.Frag} {H : Hp} {d : D} {vs : List V} (h : DVs K H [d] vs) : ∃ v, vs = [v] ∧ DV K H d v := by
  obtain ⟨v, ws, rfl, r, q⟩ := h
  cases (show ws = [] from q)
  exact ⟨v, rfl, r⟩
def dvs2 {K : PySem.W.Frag} {H : Hp} {d e : D} {vs : List V} (h : DVs K H [d, e] vs) : ∃ v w, vs = [v, w] ∧ DV K H d v ∧ DV K H e w := by
  obtain ⟨v, ws, rfl, r, q⟩ := h
  obtain ⟨w, rfl, r2⟩ := dvs1 q
  exact ⟨v, w, rfl, r, r2⟩
section
variable {X : Cx} {y : DXw} {pos p : Pos} {e : Expr} {es : List Expr} {x : Str} {ta : RA}
theorem cl_of {r : List V → Hp → VK → Prop} {q : RCall} {n : Nat} {σ : L2.St} {H : Hp} {Q : VK} (hr : ∀ vs H Q, lcl X.K q vs H Q → r vs H Q) (h : lE X.K y (rCl q ta) σ H Q) : tCB r (lA X.K y n ta) σ H Q := by
  obtain ⟨ρ, S, R, sr, so, h, k⟩ := h
  exact ⟨ρ, S, _, sr, so, h, fun ds S1 vs H1 g1 dvs hn h1 => hr _ _ _ ⟨ds, S1, R, dvs, g1.ok, h1, fun d S2 z H2 g2 dz q => k d S2 z H2 (g1.trans g2) dz q⟩⟩
theorem pd_blt {id : String} {q : RCall} (hc : CallR X (.builtin id) (lcl X.K q)) (hm : X.mg x = none) (hv : bootBuiltins x = some (.builtin id)) (ha : PDA X y (e :: es) ta) (hg : Gl X x := by rfl) (hn : x ≠ "__name__" := by decide) (hdb : (x == ("__debug__" : Str)) = false := by decide)
    (he : starEach (e :: es) X.env = (false, eval e X.env) :: starEach es X.env := by rfl) (hpl : (backTo pos (starEach es X.env)).any (·.1) = false := by rfl) : PD X y (.Call (.Name x p) (e :: es) [] pos) (rCl q ta) :=
  PD.of (pe_callB hc hg hm hv ha hn hdb he hpl) fun σ H Q h => cl_of (fun _ _ _ z => z) h
theorem pd_bltTy {T : String} {q : RCall} (hc : CallR X (.type T) (lcl X.K q)) (hm : X.mg x = none) (hv : bootBuiltins x = some (.type T)) (ha : PDA X y (e :: es) ta) (hg : Gl X x := by rfl) (hn : x ≠ "__name__" := by decide) (hdb : (x == ("__debug__" : Str)) = false := by decide)
    (he : starEach (e :: es) X.env = (false, eval e X.env) :: starEach es X.env := by rfl) (hpl : (backTo pos (starEach es X.env)).any (·.1) = false := by rfl) : PD X y (.Call (.Name x p) (e :: es) [] pos) (rCl q ta) :=
  PD.of (pe_callTy hc hg hm hv ha hn hdb he hpl) fun σ H Q h => cl_of (fun _ _ _ z => z) h
theorem pd_bltFun {id : String} {q : RCall} (hc : CallR X (.builtin id) (lcl X.K q)) (hm : X.mg x = some (.builtin id)) (ha : PDA X y (e :: es) ta) (hg : Gl X x := by rfl) (hdb : (x == ("__debug__" : Str)) = false := by decide)
    (he : starEach (e :: es) X.env = (false, eval e X.env) :: starEach es X.env := by rfl) (hpl : (backTo pos (starEach es X.env)).any (·.1) = false := by rfl) : PD X y (.Call (.Name x p) (e :: es) [] pos) (rCl q ta) :=
  PD.of (pe_callBfun hc hg hm ha hdb he hpl) fun σ H Q h => cl_of (fun _ _ _ z => z) h

/-- len -/
def dLen : RCall := fun ds S Q => match ds with
  | [.tup xs] => Q (.int xs.length) S
  | [.str x] => x.length ≤ sizeLine ∧ Q (.int x.length) S
  | [d] => ∃ xs, RdL S d xs ∧ Q (.int xs.length) S
  | _ => False
theorem cd_len : CallR X (.builtin "len") (lcl X.K dLen) := by
  intro pins s σ H vs us Q I rv h
  obtain ⟨ds, S, R, dv, so, h, k⟩ := h
  refine call_len pins s σ H vs us Q I rv ?_
  unfold dLen at h
  split at h
  · rename_i xs
    obtain ⟨v, rfl, a, ws, rfl, q, r⟩ := dvs1 dv
    exact ⟨_, _, rfl, .inr ⟨ws, q.sq, rfl⟩, by rw [← r.length]; exact k (.int xs.length) S _ H (Go.refl so) rfl h⟩
  · rename_i z
    obtain ⟨v, rfl, r⟩ := dvs1 dv
    cases (show v = V.str z from r)
    exact ⟨_, _, rfl, ⟨h.1, rfl⟩, k (.int z.length) S _ H (Go.refl so) rfl h.2⟩
  · rename_i d _ _
    obtain ⟨v, rfl, r⟩ := dvs1 dv
    obtain ⟨xs, hx, h⟩ := h
    obtain ⟨a, ws, rfl, q, r⟩ := hx.sq so r
    exact ⟨_, _, rfl, .inl ⟨ws, q, rfl⟩, by rw [← r.length]; exact k (.int xs.length) S _ H (Go.refl so) rfl h⟩
  · exact h.elim
/-- int -/
def dInt : RCall := fun ds S Q => match ds with
  | [.int i] => Q (.int i) S
  | [.bl b] => Q (.int (if b then 1 else 0)) S
  | _ => False
theorem cd_int : CallR X (.type "int") (lcl X.K dInt) := by
  intro pins s σ H vs us Q I rv h
  obtain ⟨ds, S, R, dv, so, h, k⟩ := h
  refine call_int1 pins s σ H vs us Q I rv ?_
  unfold dInt at h
  split at h
  · rename_i i
    obtain ⟨v, rfl, r⟩ := dvs1 dv
    cases (show v = V.int i from r)
    exact .inl ⟨i, rfl, k (.int i) S _ H (Go.refl so) rfl h⟩
  · rename_i b
    obtain ⟨v, rfl, r⟩ := dvs1 dv
    cases (show v = V.bl b from r)
    exact .inr ⟨b, rfl, k (.int (if b then 1 else 0)) S _ H (Go.refl so) rfl h⟩
  · exact h.elim
/-- a built-in of whole numbers -/
def dI1 (f : Int → Int) : RCall := fun ds S Q => match ds with
  | [.int i] => Q (.int (f i)) S
  | _ => False
def dI2 (f : Int → Int → Int) : RCall := fun ds S Q => match ds with
  | [.int i, .int j] => Q (.int (f i j)) S
  | _ => False
theorem cd_I1 {u : Value} {f : Int → Int} (hc : CallR X u (fun xs H Q => ∃ i, xs = [.int i] ∧ Q (.int (f i)) H)) : CallR X u (lcl X.K (dI1 f)) := by
  intro pins s σ H vs us Q I rv h
  obtain ⟨ds, S, R, dv, so, h, k⟩ := h
  refine hc pins s σ H vs us Q I rv ?_
  unfold dI1 at h
  split at h
  · rename_i i
    obtain ⟨v, rfl, r⟩ := dvs1 dv
    cases (show v = V.int i from r)
    exact ⟨i, rfl, k (.int (f i)) S _ H (Go.refl so) rfl h⟩
  · exact h.elim
theorem cd_I2 {u : Value} {f : Int → Int → Int} (hc : CallR X u (fun xs H Q => ∃ i j, xs = [.int i, .int j] ∧ Q (.int (f i j)) H)) : CallR X u (lcl X.K (dI2 f)) := by
  intro pins s σ H vs us Q I rv h
  obtain ⟨ds, S, R, dv, so, h, k⟩ := h
  refine hc pins s σ H vs us Q I rv ?_
  unfold dI2 at h
  split at h
  · rename_i i j
    obtain ⟨v, w, rfl, r1, r2⟩ := dvs2 dv
    cases (show v = V.int i from r1)
    cases (show w = V.int j from r2)
    exact ⟨i, j, rfl, k (.int (f i j)) S _ H (Go.refl so) rfl h⟩
  · exact h.elim
def dAbs : RCall := fun ds S Q => match ds with
  | [.int i] => Q (.int (if i < 0 then -i else i)) S
  | _ => False
def dMax2 : RCall := fun ds S Q => match ds with
  | [.int i, .int j] => Q (.int (if j > i then j else i)) S
  | _ => False
def dMin2 : RCall := fun ds S Q => match ds with
  | [.int i, .int j] => Q (.int (if j < i then j else i)) S
  | _ => False
def dGcd : RCall := fun ds S Q => match ds with
  | [.int i, .int j] => Q (.int ((Nat.gcd i.natAbs j.natAbs : Nat) : Int)) S
  | _ => False
theorem cd_abs : CallR X (.builtin "abs") (lcl X.K dAbs) := cd_I1 call_abs
theorem cd_max2 (hc : X.calm = true) : CallR X (.builtin "max") (lcl X.K dMax2) := cd_I2 (call_max2 hc)
theorem cd_min2 (hc : X.calm = true) : CallR X (.builtin "min") (lcl X.K dMin2) := cd_I2 (call_min2 hc)
theorem cd_gcd : CallR X (.builtin "math.gcd") (lcl X.K dGcd) := cd_I2 cr_gcd
/-- tuple, list -/
def dTuple : RCall := fun ds S Q => match ds with
  | [.tup xs] => Q (.tup xs) S
  | [d] => ∃ xs, RdL S d xs ∧ Q (.tup xs) S
  | _ => False
theorem cd_tuple : CallR X (.type "tuple") (lcl X.K dTuple) := by
  intro pins s σ H vs us Q I rv h
  obtain ⟨ds, S, R, dv, so, h, k⟩ := h
  refine call_tuple_of pins s σ H vs us Q I rv ?_
  unfold dTuple at h
  split at h
  · rename_i xs
    obtain ⟨v, rfl, a, ws, rfl, q, r⟩ := dvs1 dv
    exact ⟨a, ws, rfl, .inr ⟨q.sq, k (.tup xs) S _ H (Go.refl so) ⟨a, ws, rfl, q, r⟩ h⟩⟩
  · rename_i d _
    obtain ⟨v, rfl, r⟩ := dvs1 dv
    obtain ⟨xs, hx, h⟩ := h
    obtain ⟨a, ws, rfl, q, r⟩ := hx.sq so r
    refine ⟨a, ws, rfl, .inl ⟨q, fun l hl => ?_⟩⟩
    have g := Go.new (o := .tup ws) so hl
    exact k (.tup xs) S _ _ g ⟨l, ws, rfl, .inl upd_same, DVs.go g _ _ r⟩ h
  · exact h.elim
def dList : RCall := fun ds S Q => match ds with
  | [.tup xs] => ∀ p, S p = none → Q (.ref p) (sup S p (.lst xs))
  | [d] => ∃ xs, RdL S d xs ∧ ∀ p, S p = none → Q (.ref p) (sup S p (.lst xs))
  | _ => False
theorem cd_list : CallR X (.type "list") (lcl X.K dList) := by
  intro pins s σ H vs us Q I rv h
  obtain ⟨ds, S, R, dv, so, h, k⟩ := h
  refine call_list_of pins s σ H vs us Q I rv ?_
  unfold dList at h
  split at h
  · rename_i xs
    obtain ⟨v, rfl, a, ws, rfl, q, r⟩ := dvs1 dv
    exact ⟨a, ws, rfl, .inr q.sq, fun l hl => k (.ref l) _ _ _ (Go.newLst so hl r) rfl (h l (so.free hl))⟩
  · rename_i d _
    obtain ⟨v, rfl, r⟩ := dvs1 dv
    obtain ⟨xs, hx, h⟩ := h
    obtain ⟨a, ws, rfl, q, r⟩ := hx.sq so r
    exact ⟨a, ws, rfl, .inl q, fun l hl => k (.ref l) _ _ _ (Go.newLst so hl r) rfl (h l (so.free hl))⟩
  · exact h.elim
/-- sum, all, any of a list -/
def dSum : RCall := fun ds S Q => match ds with
  | [d] => ∃ ns : List Int, RdL S d (ns.map D.int) ∧ Q (.int ns.sum) S
  | _ => False
theorem cd_sum (hc : X.calm = true) : CallR X (.builtin "sum") (lcl X.K dSum) := by
  intro pins s σ H vs us Q I rv h
  obtain ⟨ds, S, R, dv, so, h, k⟩ := h
  refine cr_sum hc pins s σ H vs us Q I rv ?_
  unfold dSum at h
  split at h
  · rename_i d
    obtain ⟨v, rfl, r⟩ := dvs1 dv
    obtain ⟨ns, hx, h⟩ := h
    obtain ⟨a, ws, rfl, q, r⟩ := hx.sq so r
    rw [DVs.ints r] at q
    exact ⟨a, ns, rfl, q, k (.int ns.sum) S _ H (Go.refl so) rfl h⟩
  · exact h.elim
def dAll : RCall := fun ds S Q => match ds with
  | [d] => ∃ bs : List Bool, RdL S d (bs.map D.bl) ∧ Q (.bl (bs.all id)) S
  | _ => False
def dAny : RCall := fun ds S Q => match ds with
  | [d] => ∃ bs : List Bool, RdL S d (bs.map D.bl) ∧ Q (.bl (bs.any id)) S
  | _ => False
theorem cd_all (hc : X.calm = true) : CallR X (.builtin "all") (lcl X.K dAll) := by
  intro pins s σ H vs us Q I rv h
  obtain ⟨ds, S, R, dv, so, h, k⟩ := h
  refine cr_all hc pins s σ H vs us Q I rv ?_
  unfold dAll at h
  split at h
  · rename_i d
    obtain ⟨v, rfl, r⟩ := dvs1 dv
    obtain ⟨ns, hx, h⟩ := h
    obtain ⟨a, ws, rfl, q, r⟩ := hx.sq so r
    rw [DVs.bls r] at q
    exact ⟨a, ns, rfl, q, k (.bl (ns.all id)) S _ H (Go.refl so) rfl h⟩
  · exact h.elim
theorem cd_any (hc : X.calm = true) : CallR X (.builtin "any") (lcl X.K dAny) := by
  intro pins s σ H vs us Q I rv h
  obtain ⟨ds, S, R, dv, so, h, k⟩ := h
  refine cr_any hc pins s σ H vs us Q I rv ?_
  unfold dAny at h
  split at h
  · rename_i d
    obtain ⟨v, rfl, r⟩ := dvs1 dv
    obtain ⟨ns, hx, h⟩ := h
    obtain ⟨a, ws, rfl, q, r⟩ := hx.sq so r
    rw [DVs.bls r] at q
    exact ⟨a, ns, rfl, q, k (.bl (ns.any id)) S _ H (Go.refl so) rfl h⟩
  · exact h.elim

/-! ### isinstance -/
inductive Ty where
  | int | bool | none | str | tup | lst | dct
  deriving DecidableEq
def Ty.nm : Ty → String
  | .int => "int" | .bool => "bool" | .none => "NoneType" | .str => "str" | .tup => "tuple" | .lst => "list" | .dct => "dict"
def isi : Ty → Ty → Bool
  | .int, .int => true | .bool, .bool => true | .bool, .int => true | .none, .none => true | .str, .str => true | .tup, .tup => true | .lst, .lst => true | .dct, .dct => true
  | _, _ => false
theorem isi_kit : ∀ t c : Ty, kitB t.nm c.nm = some (isi t c) := by
  intro t c
  cases t <;> cases c <;> decide +kernel
def dTy : D → Sto → (Ty → Prop) → Prop
  | .non, _, k => k .none
  | .bl _, _, k => k .bool
  | .int _, _, k => k .int
  | .str _, _, k => k .str
  | .tup _, _, k => k .tup
  | .fro _, _, k => k .lst
  | .ref a, S, k => (∃ xs, S a = some (.lst xs) ∧ k .lst) ∨ ∃ kvs, S a = some (.dK kvs) ∧ k .dct
  | _, _, _ => False
theorem dTy_of {K : PySem.W.Frag} {H : Hp} {S : Sto} (so : SOk K H S) : ∀ {d : D} {v : V} {k : Ty → Prop}, DV K H d v → dTy d S k → ∃ t : Ty, TyX K H v (.type t.nm) ∧ k t
  | .non, _, _, h, q => by cases (show _ = V.non from h); exact ⟨.none, .base .non, q⟩
  | .bl b, _, _, h, q => by cases (show _ = V.bl b from h); exact ⟨.bool, .base (.bl b), q⟩
  | .int b, _, _, h, q => by cases (show _ = V.int b from h); exact ⟨.int, .base (.int b), q⟩
  | .str b, _, _, h, q => by cases (show _ = V.str b from h); exact ⟨.str, .base (.str b), q⟩
  | .tup b, _, _, h, q => by
    obtain ⟨a, vs, rfl, e, _⟩ := h
    rcases e with e | ⟨o, its, n, e, c, _⟩
    · exact ⟨.tup, .base (.tup e), q⟩
    · exact ⟨.tup, .kTuple e c, q⟩
  | .fro b, _, _, h, q => by
    obtain ⟨a, vs, rfl, e, _⟩ := h
    rcases e with ⟨o, e⟩ | ⟨o, its, n, e, c, _⟩
    · exact ⟨.lst, .base (.frz e), q⟩
    · exact ⟨.lst, .kList e c, q⟩
  | .ref a, _, _, h, q => by
    cases (show _ = V.ref a from h)
    rcases q with ⟨xs, e, q⟩ | ⟨xs, e, q⟩
    · obtain ⟨vs, e1, _⟩ := so a _ e
      exact ⟨.lst, .base (.lst e1), q⟩
    · obtain ⟨vs, e1, _⟩ := so a _ e
      exact ⟨.dct, .base (.dK e1), q⟩
  | .ty _, _, _, _, q => q.elim
  | .exc _ _, _, _, _, q => q.elim
/-- a class's name as a value -/
theorem pd_ty {x : Str} {c : Ty} {pos : Pos} (hm : X.mg x = none) (hv : bootBuiltins x = some (.type c.nm)) (hg : Gl X x := by rfl) (hn : x ≠ "__name__" := by decide) (hd : (x == ("__debug__" : Str)) = false := by decide) : PD X y (.Name x pos) (rC (.ty c.nm)) :=
  pd_c (pe_bltn (v := .ty c.nm) hg hm hv rfl hn hd) fun _ => rfl
def dIsi : RCall := fun ds S Q => match ds with
  | [d, .ty n] => ∀ c : Ty, c.nm = n → dTy d S fun t => Q (.bl (isi t c)) S
  | [d, .tup [.ty n, .ty m]] => ∀ c c' : Ty, c.nm = n → c'.nm = m → dTy d S fun t => Q (.bl (isi t c || isi t c')) S
  | _ => False
end
end DL
set_option Elab.async false
set_option linter.all false
set_option maxRecDepth 100000
set_option maxHeartbeats 4000000
namespace DL
open PySem PySem.Spec PyProof.Rows L2
section
variable {X : Cx} {y : DXw} {pos p p2 apos : Pos} {e a b o : Expr} {es : List Expr} {x : Str} {ta : RA} {te ti to : RE}

/-! ### isinstance -/
def rIs1 (c : Ty) (te : RE) : RE := fun ρ S Q => te ρ S fun d S1 => dTy d S1 fun t => Q (.bl (isi t c)) S1
def rIs2 (c c' : Ty) (te : RE) : RE := fun ρ S Q => te ρ S fun d S1 => dTy d S1 fun t => Q (.bl (isi t c || isi t c')) S1
theorem pd_isi1 (c : Ty) {cn : Str} (he : PD X y e te) (hm : X.mg "isinstance" = none) (hmc : X.mg cn = none) (hvc : bootBuiltins cn = some (.type c.nm) := by decide +kernel) (hg : Gl X "isinstance" := by rfl) (hgc : Gl X cn := by rfl) (hn : cn ≠ "__name__" := by decide) (hdb : (cn == ("__debug__" : Str)) = false := by decide)
    (h1 : starEach [e, .Name cn p2] X.env = (false, eval e X.env) :: starEach [.Name cn p2] X.env := by rfl) (h2 : starEach [.Name cn p2] X.env = (false, eval (.Name cn p2) X.env) :: starEach [] X.env := by rfl) (hpl : (backTo pos (starEach [.Name cn p2] X.env)).any (·.1) = false := by rfl) :
    PD X y (.Call (.Name "isinstance" p) [e, .Name cn p2] [] pos) (rIs1 c te) := by
  refine PD.of (pe_callB call_isi hg hm (by decide +kernel) (pa_cons he (pa_cons (pe_bltn (v := .ty c.nm) hgc hmc hvc rfl hn hdb) pa_nil h2) h1) (by decide) (by decide) h1 hpl) fun σ H Q h => ?_
  obtain ⟨ρ, S, R, sr, so, h, k⟩ := h
  refine ⟨ρ, S, _, sr, so, h, fun d S1 v H1 g dv hd => ?_⟩
  obtain ⟨t, ht, q⟩ := dTy_of g.ok dv hd
  exact ⟨v, .ty c.nm, .type t.nm, .type c.nm, _, rfl, .ty _, ht, kit_ty (isi_kit t c), k (.bl (isi t c)) S1 _ H1 g rfl q⟩
theorem pd_isi2 (c c' : Ty) {cn cn' : Str} {kk : Nat} {p3 p4 : Pos} (he : PD X y e te) (hm : X.mg "isinstance" = none) (hmc : X.mg cn = none) (hmc' : X.mg cn' = none) (hvc : bootBuiltins cn = some (.type c.nm) := by decide +kernel) (hvc' : bootBuiltins cn' = some (.type c'.nm) := by decide +kernel) (hg : Gl X "isinstance" := by rfl) (hgc : Gl X cn := by rfl) (hgc' : Gl X cn' := by rfl) (hn : cn ≠ "__name__" := by decide) (hdb : (cn == ("__debug__" : Str)) = false := by decide) (hn' : cn' ≠ "__name__" := by decide) (hdb' : (cn' == ("__debug__" : Str)) = false := by decide)
    (h1 : starEach [e, .Tuple [.Name cn p2, .Name cn' p3] kk p4] X.env = (false, eval e X.env) :: starEach [.Tuple [.Name cn p2, .Name cn' p3] kk p4] X.env := by rfl) (h2 : starEach [.Tuple [.Name cn p2, .Name cn' p3] kk p4] X.env = (false, eval (.Tuple [.Name cn p2, .Name cn' p3] kk p4) X.env) :: starEach [] X.env := by rfl) (hpl : (backTo pos (starEach [.Tuple [.Name cn p2, .Name cn' p3] kk p4] X.env)).any (·.1) = false := by rfl)
    (h3 : starEach [.Name cn p2, .Name cn' p3] X.env = (false, eval (.Name cn p2) X.env) :: starEach [.Name cn' p3] X.env := by rfl) (h4 : starEach [.Name cn' p3] X.env = (false, eval (.Name cn' p3) X.env) :: starEach [] X.env := by rfl) :
    PD X y (.Call (.Name "isinstance" p) [e, .Tuple [.Name cn p2, .Name cn' p3] kk p4] [] pos) (rIs2 c c' te) := by
  refine PD.of (pe_callB call_isiT hg hm (by decide +kernel) (pa_cons he (pa_cons (pe_tup (pa_cons (pe_bltn (v := .ty c.nm) hgc hmc hvc rfl hn hdb) (pa_cons (pe_bltn (v := .ty c'.nm) hgc' hmc' hvc' rfl hn' hdb') pa_nil h4) h3)) pa_nil h2) h1) (by decide) (by decide) h1 hpl) fun σ H Q h => ?_
  obtain ⟨ρ, S, R, sr, so, h, k⟩ := h
  refine ⟨ρ, S, _, sr, so, h, fun d S1 v H1 g dv hd => ?_⟩
  refine ⟨by show 2 ≤ sizeLine; decide, fun q hq => ?_⟩
  have g2 := Go.new (K := X.K) (o := .tup [.ty c.nm, .ty c'.nm]) g.ok hq
  obtain ⟨t, ht, hr⟩ := dTy_of g2.ok (DV.go g2 _ _ dv) hd
  refine ⟨v, q, [.ty c.nm, .ty c'.nm], .type t.nm, [.type c.nm, .type c'.nm], isi t c || isi t c', rfl, upd_same, .cons (.ty _) (.cons (.ty _) .nil), ht, ?_, k (.bl (isi t c || isi t c')) S1 _ _ (g.trans g2) rfl hr⟩
  refine kitAny_cons (kit_ty (isi_kit t c)) (fun z => ?_) fun z => by rw [z]; rfl
  rw [z, Bool.false_or]
  exact kitAny_cons (kit_ty (isi_kit t c')) (fun z => by rw [z]; exact kitAny_nil) fun z => z

/-! ### items -/
def dIx : ROp
  | .tup xs, .int i, S, R => ∃ d, atI xs i = some d ∧ R d S
  | .str x, .int i, S, R => ∃ c, x.length ≤ sizeLine ∧ atI x.cps.toList i = some c ∧ R (.str ⟨#[c]⟩) S
  | d, .int i, S, R => ∃ xs v, RdL S d xs ∧ atI xs i = some v ∧ R v S
  | _, _, _, _ => False
theorem atI_dv {K : PySem.W.Frag} {H : Hp} {xs : List D} {vs : List V} {i : Int} {d : D} (r : DVs K H xs vs) (h : atI xs i = some d) : ∃ v, atI vs i = some v ∧ DV K H d v := by
  unfold atI at h ⊢
  rw [← r.length]
  cases e : ixN xs.length i with
  | none => rw [e] at h; cases h
  | some j =>
    rw [e] at h
    exact r.get h
theorem dIx_case {x y : D} {S : Sto} {R : D → Sto → Prop} (h : dIx x y S R) : ∃ i, y = .int i ∧ ((∃ xs d, x = .tup xs ∧ atI xs i = some d ∧ R d S) ∨ (∃ z c, x = .str z ∧ z.length ≤ sizeLine ∧ atI z.cps.toList i = some c ∧ R (.str ⟨#[c]⟩) S) ∨ ∃ xs v, RdL S x xs ∧ atI xs i = some v ∧ R v S) := by
  cases y with
  | int i =>
    refine ⟨i, rfl, ?_⟩
    cases x with
    | tup xs => obtain ⟨d, h1, h2⟩ := (show ∃ d, atI xs i = some d ∧ R d S from h); exact .inl ⟨xs, d, rfl, h1, h2⟩
    | str z => obtain ⟨c, h1, h2, h3⟩ := (show ∃ c, z.length ≤ sizeLine ∧ atI z.cps.toList i = some c ∧ R (.str ⟨#[c]⟩) S from h); exact .inr (.inl ⟨z, c, rfl, h1, h2, h3⟩)
    | _ => exact .inr (.inr h)
  | _ => cases x <;> exact False.elim h
theorem id_seq : IxR X (lop X.K dIx) := by
  intro value slice pins s σ H v w vv ww Q I rv rw' h hs
  obtain ⟨x, z, S, R, dx, dz, so, h, k⟩ := h
  obtain ⟨i, rfl, hc⟩ := dIx_case h
  cases (show w = V.int i from dz)
  refine ix_seq value slice pins s σ H _ _ vv ww Q I rv rw' ?_ hs
  rcases hc with ⟨xs, d, rfl, e, h⟩ | ⟨z, c, rfl, hl, e, h⟩ | ⟨xs, d, hx, e, h⟩
  · obtain ⟨a, vs, rfl, q, r⟩ := dx
    obtain ⟨u, e2, r2⟩ := atI_dv r e
    exact .inr (.inl ⟨a, vs, i, u, rfl, rfl, q.sq, e2, k d S _ H (Go.refl so) r2 h⟩)
  · cases (show v = V.str z from dx)
    exact .inr (.inr ⟨z, i, c, rfl, rfl, hl, e, k (.str ⟨#[c]⟩) S _ H (Go.refl so) rfl h⟩)
  · obtain ⟨a, vs, rfl, q, r⟩ := hx.sq so dx
    obtain ⟨u, e2, r2⟩ := atI_dv r e
    exact .inl ⟨a, vs, i, u, rfl, rfl, q, e2, k d S _ H (Go.refl so) r2 h⟩
theorem pd_ix (ha : PD X y a te) (hb : PD X y b ti) (hs : PlainIx b := by exact fun _ _ => rfl) : PD X y (.Subscript a b pos) (rBin dIx te ti) :=
  PD.of (pe_ix id_seq ha hb hs) fun _ _ _ h => bin_of (fun _ _ _ _ z => z) h
/-- xs[i] = v -/
def dSet : RSet := fun o i v S R => match o, i with
  | .ref a, .int k => ∃ xs j, S a = some (.lst xs) ∧ ixN xs.length k = some j ∧ R (sup S a (.lst (xs.set j v)))
  | _, _ => False
theorem sd_list : PSet X (lset X.K dSet) := by
  intro pins s σ H o i v ov iv u Q I ro ri rv h
  obtain ⟨x, k, d, S, R, dx, dk, dv, so, h, c⟩ := h
  refine set_list pins s σ H o i v ov iv u Q I ro ri rv ?_
  cases x <;> cases k <;> first | exact False.elim h | skip
  case ref.int a j =>
    cases (show o = V.ref a from dx); cases (show i = V.int j from dk)
    obtain ⟨xs, m, e, hj, h⟩ := h
    obtain ⟨vs, e1, r⟩ := so a _ e
    exact ⟨a, vs, j, m, rfl, rfl, e1, by rw [← r.length]; exact hj, c _ _ (Go.setLst so e (r.set m dv)) h⟩

/-! ### slices -/
abbrev RO := Ro → Sto → (Option Int → Sto → Prop) → Prop
def lO (K : PySem.W.Frag) (y : DXw) (t : RO) : TO := fun σ H Q => ∃ ρ S R, SRv K σ H ρ ∧ SX K y H S ∧ t ρ S R ∧ ∀ i S' H', Go K H S H' S' → R i S' → Q i H'
def PDO (X : Cx) (y : DXw) (e : Option Expr) (t : RO) : Prop := PO X e (lO X.K y t)
def rNoP : RO := fun _ S Q => Q none S
def rPart (t : RE) : RO := fun ρ S Q => t ρ S fun d S1 => match d with
  | .int i => Q (some i) S1
  | _ => False
theorem pdo_none : PDO X y none rNoP := ⟨fun pins s σ H Q I h => by
  obtain ⟨ρ, S, R, sr, so, h, k⟩ := h
  exact po_none.run pins s σ H Q I (k none S H (Go.refl so.so) h)⟩
theorem pdo_some (h : PD X y e te) : PDO X y (some e) (rPart te) := ⟨fun pins s σ H Q I q => by
  refine (po_some h).run pins s σ H Q I ?_
  obtain ⟨ρ, S, R, sr, so, h, k⟩ := q
  refine ⟨ρ, S, _, sr, so, h, fun d S' v H' g dv hd => ?_⟩
  cases d with
  | int i => exact ⟨i, dv, k (some i) S' H' g hd⟩
  | _ => exact False.elim hd⟩
def cutD (xs : List D) (lo hi : Option Int) : List D := (xs.drop (HT.sIx xs.length 0 lo)).take (HT.sIx xs.length xs.length hi - HT.sIx xs.length 0 lo)
theorem cutD_dv {K : PySem.W.Frag} {H : Hp} {xs : List D} {vs : List V} (r : DVs K H xs vs) (lo hi : Option Int) : DVs K H (cutD xs lo hi) (cutV vs lo hi) := by
  unfold cutD cutV
  rw [← r.length]
  exact (r.drop _).take _
abbrev RSl := D → Option Int → Option Int → Sto → (D → Sto → Prop) → Prop
def dSl : RSl := fun d lo hi S R => match d with
  | .tup xs => R (.tup (cutD xs lo hi)) S
  | _ => ∃ xs, RdL S d xs ∧ ∀ p, S p = none → R (.ref p) (sup S p (.lst (cutD xs lo hi)))
def lsl (K : PySem.W.Frag) (q : RSl) : V → Option Int → Option Int → Hp → VK → Prop := fun v lo hi H Q => ∃ d S R, DV K H d v ∧ SOk K H S ∧ q d lo hi S R ∧ ∀ d S' z H', Go K H S H' S' → DV K H' d z → R d S' → Q z H'
theorem sd_sl : SlR X (lsl X.K dSl) := by
  have lst : ∀ {d : D} {lo hi : Option Int} {v : V} {S : Sto} {H : Hp} {R : D → Sto → Prop} {Q : VK}, SOk X.K H S → DV X.K H d v → (∃ xs, RdL S d xs ∧ ∀ p, S p = none → R (.ref p) (sup S p (.lst (cutD xs lo hi)))) → (∀ d S' z H', Go X.K H S H' S' → DV X.K H' d z → R d S' → Q z H') → rSlL X.K v lo hi H Q := fun so dv ⟨xs, hx, h⟩ k => by
    obtain ⟨a, vs, rfl, q, r⟩ := hx.sq so dv
    exact ⟨a, vs, rfl, q, fun p hp => k (.ref p) _ _ _ (Go.newLst so hp (cutD_dv r _ _)) rfl (h p (so.free hp))⟩
  intro pins s σ H x v vl vu lo hi sl Q I rx hs pl pu h
  obtain ⟨d, S, R, dv, so, h, k⟩ := h
  refine ((sl_tupA (X := X)).or (sl_list (X := X))) pins s σ H x v vl vu lo hi sl Q I rx hs pl pu ?_
  cases d with
  | tup xs =>
    obtain ⟨a, vs, rfl, q, r⟩ := dv
    have h : R (.tup (cutD xs lo hi)) S := h
    refine .inl ⟨a, vs, rfl, q.sq, fun hw => ?_, fun _ p hp => ?_⟩
    · have e : cutD xs lo hi = xs := by
        unfold cutD
        rw [r.length, hw.1, hw.2, ← r.length]
        simp
      rw [e] at h
      exact k (.tup xs) S _ H (Go.refl so) ⟨a, vs, rfl, q, r⟩ h
    · have g := Go.new (K := X.K) (o := .tup (cutV vs lo hi)) so hp
      exact k (.tup (cutD xs lo hi)) S _ _ g ⟨p, _, rfl, .inl upd_same, DVs.go g _ _ (cutD_dv r _ _)⟩ h
  | _ => exact .inr (lst so dv h k)
def rSl (te : RE) (tl th : RO) : RE := fun ρ S Q => te ρ S fun d S1 => tl ρ S1 fun l S2 => th ρ S2 fun u S3 => dSl d l u S3 Q
theorem pd_slice {lo hi : Option Expr} {tl th : RO} (he : PD X y e te) (hl : PDO X y lo tl) (hu : PDO X y hi th) : PD X y (.Subscript e (.Slice lo hi none p2) pos) (rSl te tl th) := by
  refine PD.of (pe_slice sd_sl he hl hu) fun σ H Q h => ?_
  obtain ⟨ρ, S, R, sr, so, h, k⟩ := h
  refine ⟨ρ, S, _, sr, so, h, fun d S1 v H1 g1 dv h1 => ⟨ρ, S1, _, sr.go g1, so.go g1, h1, fun l S2 H2 g2 h2 => ⟨ρ, S2, _, (sr.go g1).go g2, (so.go g1).go g2, h2, fun u S3 H3 g3 h3 => ?_⟩⟩⟩
  exact ⟨d, S3, R, DV.go (g2.trans g3) _ _ dv, g3.ok, h3, fun d S' z H' g dz hz => k d S' z H' (g1.trans (g2.trans (g3.trans g))) dz hz⟩

/-! ### methods of lists -/
abbrev RMt := D → List D → Sto → (D → Sto → Prop) → Prop
def isL : D → Sto → Prop
  | .ref a, S => ∃ xs, S a = some (.lst xs)
  | _, _ => False
def lmt (K : PySem.W.Frag) (q : RMt) : V → List V → Hp → VK → Prop := fun v vs H Q => ∃ d ds S R, DV K H d v ∧ DVs K H ds vs ∧ SOk K H S ∧ q d ds S R ∧ ∀ d S' z H', Go K H S H' S' → DV K H' d z → R d S' → Q z H'
def rBM (q : RMt) (to : RE) (ta : RA) : RE := fun ρ S Q => to ρ S fun o S1 => isL o S1 ∧ ta ρ S1 fun ds S2 => q o ds S2 Q
def rBM0 (q : RMt) (to : RE) : RE := fun ρ S Q => to ρ S fun o S1 => isL o S1 ∧ q o [] S1 Q
theorem isL_ty {K : PySem.W.Frag} {H : Hp} {S : Sto} (so : SOk K H S) {d : D} {v : V} (dv : DV K H d v) (h : isL d S) : tyV K "list" v H := by
  cases d with
  | ref a =>
    cases (show v = V.ref a from dv)
    obtain ⟨xs, e⟩ := h
    obtain ⟨vs, e1, _⟩ := so a _ e
    exact .inl ⟨rfl, vs, SqL.of e1⟩
  | _ => exact False.elim h
variable {name : Str} {id : String} {cpos : Pos}
theorem pd_lm {q : RMt} (slot : Slot "list" name id) (hty : typeOf (.builtin id) = pure (.type "method_descriptor")) (hm : MtR X id (lmt X.K q)) (ho : PD X y o to) (ha : PDA X y (e :: es) ta)
    (hbase : attributeBase o name X.env (eval o X.env) = eval o X.env := by rfl)
    (hfew : ((backTo cpos (starEach (e :: es) X.env)).all (fun x => !x.1) && (backToKw cpos (keywordEach [] X.env)).all (fun x => x.1.isSome)
      && decide ((e :: es).length + ([] : List Keyword).length + (if ([] : List Keyword).isEmpty then 0 else 1) < 30)) = true := by rfl)
    (hline : (apos.endLine == cpos.line) = true := by rfl) (hs : starEach (e :: es) X.env = (false, eval e X.env) :: starEach es X.env := by rfl) (hplain : (backTo cpos (starEach es X.env)).any (·.1) = false := by rfl) :
    PD X y (.Call (.Attribute o name apos) (e :: es) [] cpos) (rBM q to ta) :=
  PD.of (pe_bm PySem.F.plainAttrs_list slot hty hm ho ha hbase hfew hline hs hplain) fun σ H Q h => by
    obtain ⟨ρ, S, R, sr, so, h, k⟩ := h
    refine ⟨ρ, S, _, sr, so, h, fun d S1 v H1 g1 dv h1 => ⟨isL_ty g1.ok dv h1.1, ρ, S1, _, sr.go g1, so.go g1, h1.2, fun ds S2 vs H2 g2 dvs hn h2 => ?_⟩⟩
    exact ⟨d, ds, S2, R, DV.go g2 _ _ dv, dvs, g2.ok, h2, fun d S' z H' g dz hz => k d S' z H' (g1.trans (g2.trans g)) dz hz⟩
theorem pd_lm0 {q : RMt} (slot : Slot "list" name id) (hty : typeOf (.builtin id) = pure (.type "method_descriptor")) (hm : MtR X id (lmt X.K q)) (ho : PD X y o to)
    (hbase : attributeBase o name X.env (eval o X.env) = eval o X.env := by rfl) (hline : (apos.endLine == cpos.line) = true := by rfl) : PD X y (.Call (.Attribute o name apos) [] [] cpos) (rBM0 q to) :=
  PD.of (pe_bm0 PySem.F.plainAttrs_list slot hty hm ho hbase hline) fun σ H Q h => by
    obtain ⟨ρ, S, R, sr, so, h, k⟩ := h
    refine ⟨ρ, S, _, sr, so, h, fun d S1 v H1 g1 dv h1 => ⟨isL_ty g1.ok dv h1.1, ?_⟩⟩
    exact ⟨d, [], S1, R, dv, DVs.nil, g1.ok, h1.2, fun d S' z H' g dz hz => k d S' z H' (g1.trans g) dz hz⟩
def dAppend : RMt := fun o ds S R => match o, ds with
  | .ref a, [d] => ∃ xs, S a = some (.lst xs) ∧ xs.length < sizeLine ∧ R .non (sup S a (.lst (xs ++ [d])))
  | _, _ => False
theorem md_append : MtR X "list.append" (lmt X.K dAppend) := by
  intro pins s σ H v vs vv us Q I rv rs h
  obtain ⟨o, ds, S, R, dv, dvs, so, h, k⟩ := h
  refine mt_append pins s σ H v vs vv us Q I rv rs ?_
  unfold dAppend at h
  split at h
  · rename_i a d
    cases (show v = V.ref a from dv)
    obtain ⟨w, rfl, dw⟩ := dvs1 dvs
    obtain ⟨xs, e, hl, h⟩ := h
    obtain ⟨ws, e1, r⟩ := so a _ e
    exact ⟨a, ws, w, rfl, rfl, e1, by rw [← r.length]; exact hl, k .non _ _ _ (Go.setLst so e (r.append (DVs.cons dw DVs.nil))) rfl h⟩
  · exact h.elim
def dInsert : RMt := fun o ds S R => match o, ds with
  | .ref a, [.int i, d] => ∃ xs, S a = some (.lst xs) ∧ xs.length < sizeLine ∧ 0 ≤ i ∧ i < 2 ^ 63 ∧ R .non (sup S a (.lst (xs.take i.toNat ++ [d] ++ xs.drop i.toNat)))
  | _, _ => False
theorem md_insert : MtR X "list.insert" (lmt X.K dInsert) := by
  intro pins s σ H v vs vv us Q I rv rs h
  obtain ⟨o, ds, S, R, dv, dvs, so, h, k⟩ := h
  refine mt_insert pins s σ H v vs vv us Q I rv rs ?_
  unfold dInsert at h
  split at h
  · rename_i a i d
    cases (show v = V.ref a from dv)
    obtain ⟨w, w2, rfl, dw, dw2⟩ := dvs2 dvs
    cases (show w = V.int i from dw)
    obtain ⟨xs, e, hl, h0, h1, h⟩ := h
    obtain ⟨ws, e1, r⟩ := so a _ e
    exact ⟨a, ws, i, w2, rfl, rfl, e1, by rw [← r.length]; exact hl, h0, h1, k .non _ _ _ (Go.setLst so e (((r.take _).append (DVs.cons dw2 DVs.nil)).append (r.drop _))) rfl h⟩
  · exact h.elim
def dExtend : RMt := fun o ds S R => match o, ds with
  | .ref a, [.ref b] => ∃ xs zs, S a = some (.lst xs) ∧ S b = some (.lst zs) ∧ xs.length + zs.length ≤ sizeLine ∧ R .non (sup S a (.lst (xs ++ zs)))
  | _, _ => False
theorem md_extend : MtR X "list.extend" (lmt X.K dExtend) := by
  intro pins s σ H v vs vv us Q I rv rs h
  obtain ⟨o, ds, S, R, dv, dvs, so, h, k⟩ := h
  refine mt_extend pins s σ H v vs vv us Q I rv rs ?_
  unfold dExtend at h
  split at h
  · rename_i a b
    cases (show v = V.ref a from dv)
    obtain ⟨w, rfl, dw⟩ := dvs1 dvs
    cases (show w = V.ref b from dw)
    obtain ⟨xs, zs, e, e', hl, h⟩ := h
    obtain ⟨ws, e1, r⟩ := so a _ e
    obtain ⟨ws', e1', r'⟩ := so b _ e'
    exact ⟨a, b, ws, ws', rfl, rfl, e1, e1', by rw [← r.length, ← r'.length]; exact hl, k .non _ _ _ (Go.setLst so e (r.append r')) rfl h⟩
  · exact h.elim
end
end DL
set_option Elab.async false
set_option linter.all false
set_option maxRecDepth 100000
set_option maxHeartbeats 4000000
namespace DL
open PySem PySem.Spec PyProof.Rows L2
section
variable {X : Cx} {y : DXw} {pos p p2 pos' apos : Pos} {e a b o i value : Expr} {es : List Expr} {x : Str} {ta : RA} {te ti to td tv : RE}

/-! ### flat values in lists and tuples -/
def fl : D → V
  | .non => .non | .bl b => .bl b | .int i => .int i | .str x => .str x | _ => .ref 0
def fb : D → Bool
  | .non => true | .bl _ => true | .int _ => true | .str _ => true | _ => false
theorem fl_of {K : PySem.W.Frag} {H : Hp} {d : D} {v : V} (h : fb d = true) (dv : DV K H d v) : v = fl d ∧ flatV v = true := by
  cases d with
  | non => cases (show v = V.non from dv); exact ⟨rfl, rfl⟩
  | bl b => cases (show v = V.bl b from dv); exact ⟨rfl, rfl⟩
  | int b => cases (show v = V.int b from dv); exact ⟨rfl, rfl⟩
  | str b => cases (show v = V.str b from dv); exact ⟨rfl, rfl⟩
  | _ => cases h
theorem fls_of {K : PySem.W.Frag} {H : Hp} : ∀ {ds : List D} {vs : List V}, ds.all fb = true → DVs K H ds vs → vs = ds.map fl ∧ vs.all flatV = true
  | [], _, _, h => by cases (show _ = [] from h); exact ⟨rfl, rfl⟩
  | d :: ds, _, f, h => by
    obtain ⟨v, ws, rfl, r, q⟩ := h
    rw [List.all_cons, Bool.and_eq_true] at f
    obtain ⟨e1, f1⟩ := fl_of f.1 r
    obtain ⟨e2, f2⟩ := fls_of f.2 q
    exact ⟨by rw [e1, e2, List.map_cons], by rw [List.all_cons, f1, f2]; rfl⟩
def inD (x : D) (xs : List D) : Bool := inV (fl x) (xs.map fl)
def dIn (n : Bool) : ROp := fun x c S R => match c with
  | .tup xs => fb x = true ∧ xs.all fb = true ∧ R (.bl (if n then !inD x xs else inD x xs)) S
  | _ => ∃ xs, RdL S c xs ∧ fb x = true ∧ xs.all fb = true ∧ R (.bl (if n then !inD x xs else inD x xs)) S
theorem dIn_of {n : Bool} {x c : D} {S : Sto} {R : D → Sto → Prop} {H : Hp} {v w : V} {Q : VK} (so : SOk X.K H S) (dx : DV X.K H x v) (dc : DV X.K H c w) (h : dIn n x c S R) (k : ∀ d S' z H', Go X.K H S H' S' → DV X.K H' d z → R d S' → Q z H') : rIn X.K n v w H Q := by
  have fin : ∀ {a : Addr} {xs : List D} {vs : List V}, w = .ref a → (SqL X.K H a vs ∨ SqT X.K H a vs) → DVs X.K H xs vs → fb x = true → xs.all fb = true → R (.bl (if n then !inD x xs else inD x xs)) S → rIn X.K n v w H Q := fun {a xs vs} e q r f1 f2 h => by
    obtain ⟨e1, g1⟩ := fl_of f1 dx
    obtain ⟨e2, g2⟩ := fls_of f2 r
    refine ⟨a, vs, e, q, g1, g2, ?_⟩
    rw [e1, e2]
    exact k (.bl (if n then !inD x xs else inD x xs)) S _ H (Go.refl so) rfl h
  cases c with
  | tup xs =>
    obtain ⟨a, vs, e, q, r⟩ := dc
    exact fin e (.inr q.sq) r h.1 h.2.1 h.2.2
  | _ =>
    obtain ⟨xs, hx, f1, f2, h⟩ := h
    obtain ⟨a, vs, e, q, r⟩ := hx.sq so dc
    exact fin e (.inl q) r f1 f2 h
theorem od_in : OpR X (compareOp .In) (lop X.K (dIn false)) := by
  intro pins s σ H v w vv ww Q I rv rw' h
  obtain ⟨x, y, S, R, dx, dy, so, h, k⟩ := h
  exact op_in_seq pins s σ H v w vv ww Q I rv rw' (dIn_of so dx dy h k)
theorem od_notin : OpR X (compareOp .NotIn) (lop X.K (dIn true)) := by
  intro pins s σ H v w vv ww Q I rv rw' h
  obtain ⟨x, y, S, R, dx, dy, so, h, k⟩ := h
  exact op_notIn_seq pins s σ H v w vv ww Q I rv rw' (dIn_of so dx dy h k)

/-! ### dicts by ints and texts -/
def dkey : Key → D
  | .inl i => .int i
  | .inr x => .str x
def keyD : D → Option Key
  | .int i => some (.inl i)
  | .str x => some (.inr x)
  | _ => none
theorem keyD_v {K : PySem.W.Frag} {H : Hp} {d : D} {v : V} {k : Key} (h : keyD d = some k) (dv : DV K H d v) : v = kV k := by
  cases d with
  | int i => cases h; exact dv
  | str i => cases h; exact dv
  | _ => cases h
def dval (kvs : List (Key × D)) (k : Key) : Option D := (kvs.find? fun kv => decide (kv.1 = k)).map (·.2)
def dput (kvs : List (Key × D)) (k : Key) (v : D) : List (Key × D) := if kvs.any (fun kv => decide (kv.1 = k)) then kvs.map (fun kv => if kv.1 = k then (kv.1, v) else kv) else kvs ++ [(k, v)]
theorem DKs.val {K : PySem.W.Frag} {H : Hp} {ds : List (Key × D)} {vs : List (Key × V)} (h : DKs K H ds vs) (k : Key) : (dval ds k).isSome = (valV vs k).isSome ∧ ∀ d, dval ds k = some d → ∃ v, valV vs k = some v ∧ DV K H d v := by
  induction h with
  | nil => exact ⟨rfl, fun _ e => by cases e⟩
  | @cons k' d v ds vs r _ ih =>
    by_cases e : k' = k
    · subst e
      refine ⟨by simp [dval, valV, List.find?_cons], fun d' h => ⟨v, by simp [valV, List.find?_cons], ?_⟩⟩
      have : d = d' := by simpa [dval, List.find?_cons] using h
      rw [← this]; exact r
    · have e1 : dval ((k', d) :: ds) k = dval ds k := by simp [dval, List.find?_cons, e]
      have e2 : valV ((k', v) :: vs) k = valV vs k := valV_neg e
      rw [e1, e2]
      exact ih
theorem DKs.any {K : PySem.W.Frag} {H : Hp} {ds : List (Key × D)} {vs : List (Key × V)} (h : DKs K H ds vs) (k : Key) : (ds.any fun kv => decide (kv.1 = k)) = vs.any fun kv => decide (kv.1 = k) := by
  induction h with
  | nil => rfl
  | cons _ _ ih => rw [List.any_cons, List.any_cons, ih]
theorem DKs.append {K : PySem.W.Frag} {H : Hp} {ds : List (Key × D)} {vs : List (Key × V)} (h : DKs K H ds vs) {k : Key} {d : D} {v : V} (r : DV K H d v) : DKs K H (ds ++ [(k, d)]) (vs ++ [(k, v)]) := by
  induction h with
  | nil => exact .cons r .nil
  | cons q _ ih => exact .cons q ih
theorem DKs.put {K : PySem.W.Frag} {H : Hp} {ds : List (Key × D)} {vs : List (Key × V)} (h : DKs K H ds vs) (k : Key) {d : D} {v : V} (r : DV K H d v) : DKs K H (dput ds k d) (putK vs k v) := by
  have m : DKs K H (ds.map fun kv => if kv.1 = k then (kv.1, d) else kv) (vs.map fun kv => if kv.1 = k then (kv.1, v) else kv) := by
    induction h with
    | nil => exact .nil
    | @cons k' d' v' ds vs q _ ih =>
      rw [List.map_cons, List.map_cons]
      by_cases e : k' = k
      · rw [if_pos e, if_pos e]; exact .cons r ih
      · rw [if_neg e, if_neg e]; exact .cons q ih
  unfold dput putK
  rw [h.any k]
  split
  · exact m
  · exact h.append r
def rDNew : RE := fun _ S Q => ∀ p, S p = none → Q (.ref p) (sup S p (.dK []))
theorem pd_dnew : PD X y (.Dict [] [] pos) rDNew := by
  refine PD.of pe_dnewK fun σ H Q h => ?_
  obtain ⟨ρ, S, R, sr, so, h, k⟩ := h
  intro p hp
  exact k (.ref p) _ _ _ (Go.newDK so.so hp .nil) rfl (h p (so.so.free hp))
def isD (S : Sto) (o k : D) (f : Addr → List (Key × D) → Key → Prop) : Prop := match o with
  | .ref a => ∃ kvs key, S a = some (.dK kvs) ∧ keyD k = some key ∧ f a kvs key
  | _ => False
def rDGet (td ti : RE) : RE := fun ρ S Q => td ρ S fun o S1 => ti ρ S1 fun k S2 => isD S2 o k fun _ kvs key => ∃ d, dval kvs key = some d ∧ Q d S2
def rDIn (n : Bool) (ti td : RE) : RE := fun ρ S Q => ti ρ S fun k S1 => td ρ S1 fun o S2 => isD S2 o k fun _ kvs key => Q (.bl (if n then !(dval kvs key).isSome else (dval kvs key).isSome)) S2
theorem isD_of {K : PySem.W.Frag} {S : Sto} {H : Hp} {o k : D} {v w : V} {f : Addr → List (Key × D) → Key → Prop} (so : SOk K H S) (dv : DV K H o v) (dw : DV K H k w) (h : isD S o k f) : ∃ a kvs vs key, v = .ref a ∧ S a = some (.dK kvs) ∧ H a = some (.dK vs) ∧ DKs K H kvs vs ∧ w = kV key ∧ f a kvs key := by
  cases o with
  | ref a =>
    obtain ⟨kvs, key, e, ek, h⟩ := h
    obtain ⟨vs, e1, r⟩ := so a _ e
    exact ⟨a, kvs, vs, key, dv, e, e1, r, keyD_v ek dw, h⟩
  | _ => exact False.elim h
theorem pd_dget (hu : X.A.units + 1 < cLine) (ho : PD X y o td) (hi : PD X y i ti) (hs : NoSl i := by exact fun _ _ => rfl) : PD X y (.Subscript o i pos) (rDGet td ti) := by
  refine PD.of (pe_dget hu ho hi hs) fun σ H Q h => ?_
  obtain ⟨ρ, S, R, sr, so, h, k⟩ := h
  refine ⟨ρ, S, _, sr, so, h, fun x S1 v H1 g1 dv h1 => ⟨ρ, S1, _, sr.go g1, so.go g1, h1, fun z S2 w H2 g2 dw h2 => ?_⟩⟩
  obtain ⟨a, kvs, vs, key, rfl, _, e1, r, rfl, d, hd, h3⟩ := isD_of g2.ok (DV.go g2 _ _ dv) dw h2
  obtain ⟨u, hu, ru⟩ := (r.val key).2 d hd
  exact ⟨a, u, rfl, hu ▸ DGet.k e1, k d S2 u H2 (g1.trans g2) ru h3⟩
theorem din_read {n : Bool} {σ : L2.St} {H : Hp} {Q : VK} (h : lE X.K y (rDIn n ti td) σ H Q) : lE X.K y ti σ H fun w H1 => lE X.K y td σ H1 fun v H2 => ∃ a o, v = .ref a ∧ DGet H2 a w o ∧ Q (.bl (if n then !o.isSome else o.isSome)) H2 := by
  obtain ⟨ρ, S, R, sr, so, h, k⟩ := h
  refine ⟨ρ, S, _, sr, so, h, fun z S1 w H1 g1 dw h1 => ⟨ρ, S1, _, sr.go g1, so.go g1, h1, fun x S2 v H2 g2 dv h2 => ?_⟩⟩
  obtain ⟨a, kvs, vs, key, rfl, _, e1, r, rfl, h3⟩ := isD_of g2.ok dv (DV.go g2 _ _ dw) h2
  refine ⟨a, _, rfl, DGet.k e1, ?_⟩
  rw [← (r.val key).1]
  exact k (.bl (if n then !(dval kvs key).isSome else (dval kvs key).isSome)) S2 _ H2 (g1.trans g2) rfl h3
theorem pd_din (hu : X.A.units + 1 < cLine) (hi : PD X y i ti) (ho : PD X y o td) (hb : behindInMarks .In o = false := by rfl) : PD X y (.Compare i [.In] [o] pos) (rDIn false ti td) := PD.of (pe_cmp (pc_din hu hi ho) hb) fun _ _ _ h => din_read (n := false) h
theorem pd_dnotin (hu : X.A.units + 1 < cLine) (hi : PD X y i ti) (ho : PD X y o td) (hb : behindInMarks .NotIn o = false := by rfl) : PD X y (.Compare i [.NotIn] [o] pos) (rDIn true ti td) := PD.of (pe_cmp (pc_dnotin hu hi ho) hb) fun _ _ _ h => din_read (n := true) h
theorem pdt_din (hu : X.A.units + 1 < cLine) (hi : PD X y i ti) (ho : PD X y o td) (hb : behindInMarks .In o = false := by rfl) : PDT X y (.Compare i [.In] [o] pos) (rTst (rDIn false ti td)) := PDT.of (pt_cmp (pc_din hu hi ho) hb) fun _ _ _ h => tst_of (fun _ _ _ h => din_read (n := false) h) h
theorem pdt_dnotin (hu : X.A.units + 1 < cLine) (hi : PD X y i ti) (ho : PD X y o td) (hb : behindInMarks .NotIn o = false := by rfl) : PDT X y (.Compare i [.NotIn] [o] pos) (rTst (rDIn true ti td)) := PDT.of (pt_cmp (pc_dnotin hu hi ho) hb) fun _ _ _ h => tst_of (fun _ _ _ h => din_read (n := true) h) h
def rDPut (td ti tv : RE) : RS := fun E ρ S => tv ρ S fun d S1 => td ρ S1 fun o S2 => ti ρ S2 fun k S3 => isD S3 o k fun a kvs key => kvs.length < sizeLine ∧ E.nx ρ (sup S3 a (.dK (dput kvs key d)))
theorem pd_dput (hu : X.A.units + 1 < cLine) (ho : PD X y o td) (hi : PD X y i ti) (hv : PD X y value tv) (hs : swapsWith value (some (.Subscript o i pos')) pos.line X.env = pure false := by rfl) : PDS X y (.Assign [.Subscript o i pos'] value pos) (rDPut td ti tv) := by
  refine PDS.of (ps_dput hu ho hi hv hs) fun D σ H h => ?_
  obtain ⟨ρ, S, E, sr, so, h, eo⟩ := h
  refine ⟨ρ, S, _, sr, so, h, fun d S1 u H1 g1 du h1 => ⟨ρ, S1, _, sr.go g1, so.go g1, h1, fun x S2 v H2 g2 dv h2 => ⟨ρ, S2, _, (sr.go g1).go g2, (so.go g1).go g2, h2, fun z S3 w H3 g3 dw h3 => ?_⟩⟩⟩
  obtain ⟨a, kvs, vs, key, rfl, e0, e1, r, rfl, hl, h4⟩ := isD_of g3.ok (DV.go g3 _ _ dv) dw h3
  have gA := g1.trans (g2.trans g3)
  have g4 := Go.setDK g3.ok e0 (r.put key (DV.go (g2.trans g3) _ _ du))
  exact ⟨a, _, rfl, DPut.k e1 (by rw [← r.length]; exact hl), eo.nx ρ _ σ _ (gA.trans g4) ((sr.go gA).go g4) h4⟩

/-! ### tuple(range(..)) -/
def rRgT (ta : RA) : RE := fun ρ S Q => ta ρ S fun ds S1 => match ds with
  | [.int j] => j ≤ 16777216 ∧ Q (.tup (rgI 0 j.toNat)) S1
  | [.int i, .int j] => (0 ≤ i ∧ i ≤ 16777216 ∧ 0 ≤ j ∧ j ≤ 16777216) ∧ Q (.tup (rgI i (j - i).toNat)) S1
  | _ => False
theorem rgI_dv {K : PySem.W.Frag} {H : Hp} {i j : Int} : DVs K H (rgI i (j - i).toNat) (rgV i j) := by
  unfold rgI rgV
  generalize (List.range (j - i).toNat) = l
  induction l with
  | nil => exact DVs.nil
  | cons a l ih => exact DVs.cons rfl ih
theorem pd_tupRg1 {ti : RE} {p q : Pos} (hc : X.calm = true) (hm : X.mg "tuple" = none) (hm2 : X.mg "range" = none) (hi : PD X y a ti) (hg : Gl X "tuple" := by rfl) (hg2 : Gl X "range" := by rfl) (na : starEach [.Call (.Name "range" q) [a] [] p2] X.env = (false, eval (.Call (.Name "range" q) [a] [] p2) X.env) :: starEach [] X.env := by rfl)
    (nb : starEach [a] X.env = (false, eval a X.env) :: starEach [] X.env := by rfl) : PD X y (.Call (.Name "tuple" p) [.Call (.Name "range" q) [a] [] p2] [] pos) (fun ρ S Q => ti ρ S fun d S1 => match d with | .int j => (0 ≤ j ∧ j ≤ 16777216) ∧ Q (.tup (rgI 0 j.toNat)) S1 | _ => False) := by
  refine PD.of (pe_tupRg hc hg hm (prg_1 hg2 hm2 hi nb) na) fun σ H Q h => ?_
  obtain ⟨ρ, S, R, sr, so, h, k⟩ := h
  refine ⟨ρ, S, _, sr, so, h, fun d S1 v H1 g dv hd => ?_⟩
  cases d with
  | int j =>
    refine ⟨j, dv, RgOk.of_le (by omega) hd.1.2 (by omega) hd.1.1, fun q hq => ?_⟩
    have g2 := Go.new (K := X.K) (o := .tup (rgV 0 j)) g.ok hq
    have e : (j - 0).toNat = j.toNat := by omega
    exact k (.tup (rgI 0 j.toNat)) S1 _ _ (g.trans g2) ⟨q, _, rfl, .inl upd_same, e ▸ rgI_dv⟩ hd.2
  | _ => exact False.elim hd
theorem pd_tupRg2 {ti tj : RE} {p q : Pos} (hc : X.calm = true) (hm : X.mg "tuple" = none) (hm2 : X.mg "range" = none) (hi : PD X y a ti) (hj : PD X y b tj) (hg : Gl X "tuple" := by rfl) (hg2 : Gl X "range" := by rfl) (na : starEach [.Call (.Name "range" q) [a, b] [] p2] X.env = (false, eval (.Call (.Name "range" q) [a, b] [] p2) X.env) :: starEach [] X.env := by rfl)
    (nb : starEach [a, b] X.env = (false, eval a X.env) :: starEach [b] X.env := by rfl) (nc : starEach [b] X.env = (false, eval b X.env) :: starEach [] X.env := by rfl) (hp : (backTo p2 (starEach [b] X.env)).any (·.1) = false := by rfl) : PD X y (.Call (.Name "tuple" p) [.Call (.Name "range" q) [a, b] [] p2] [] pos)
      (fun ρ S Q => ti ρ S fun d S1 => tj ρ S1 fun f S2 => match d, f with | .int i, .int j => (0 ≤ i ∧ i ≤ 16777216 ∧ 0 ≤ j ∧ j ≤ 16777216) ∧ Q (.tup (rgI i (j - i).toNat)) S2 | _, _ => False) := by
  refine PD.of (pe_tupRg hc hg hm (prg_2 hg2 hm2 hi hj nb nc hp) na) fun σ H Q h => ?_
  obtain ⟨ρ, S, R, sr, so, h, k⟩ := h
  refine ⟨ρ, S, _, sr, so, h, fun d S1 v H1 g1 dv hd => ⟨ρ, S1, _, sr.go g1, so.go g1, hd, fun f S2 w H2 g2 dw hf => ?_⟩⟩
  cases d <;> cases f <;> first | exact False.elim hf | skip
  case int.int i j =>
    cases (show v = V.int i from dv); cases (show w = V.int j from dw)
    refine ⟨i, j, rfl, rfl, RgOk.of_le hf.1.1 hf.1.2.2.2 hf.1.2.1 hf.1.2.2.1, fun q hq => ?_⟩
    have g3 := Go.new (K := X.K) (o := .tup (rgV i j)) g2.ok hq
    exact k (.tup (rgI i (j - i).toNat)) S2 _ _ (g1.trans (g2.trans g3)) ⟨q, _, rfl, .inl upd_same, rgI_dv⟩ hf.2
/-! ### x.bit_length(), factorial, comb -/
def rBits (te : RE) : RE := fun ρ S Q => te ρ S fun d S1 => match d with
  | .int i => Q (.int (Builtin.Int.intBits i : Nat)) S1
  | _ => False
theorem pd_bits (ho : PD X y o te) (hbase : attributeBase o "bit_length" X.env (eval o X.env) = eval o X.env := by rfl) (hline : (apos.endLine == pos.line) = true := by rfl) : PD X y (.Call (.Attribute o "bit_length" apos) [] [] pos) (rBits te) := by
  refine PD.of (pe_bits ho hbase hline) fun σ H Q h => ?_
  obtain ⟨ρ, S, R, sr, so, h, k⟩ := h
  refine ⟨ρ, S, _, sr, so, h, fun d S1 v H1 g dv hd => ?_⟩
  cases d with
  | int i => exact ⟨i, dv, k (.int (Builtin.Int.intBits i : Nat)) S1 _ H1 g rfl hd⟩
  | _ => exact False.elim hd
def dFact : RCall := fun ds S Q => match ds with
  | [.int i] => (0 ≤ i ∧ i ≤ 20000) ∧ Q (.int ((Builtin.Math.factorialNat i.toNat : Nat) : Int)) S
  | _ => False
theorem cd_factorial : CallR X (.builtin "math.factorial") (lcl X.K dFact) := by
  intro pins s σ H vs us Q I rv h
  obtain ⟨ds, S, R, dv, so, h, k⟩ := h
  unfold dFact at h
  split at h
  · rename_i i
    obtain ⟨v, rfl, r⟩ := dvs1 dv
    cases (show v = V.int i from r)
    obtain ⟨u, rfl, t, rfl⟩ := vals1 rv
    exact PySem.W.mc_factorial h.1.1 h.1.2 fun _ => ⟨.int _, H, I.tok _, ⟨_, rfl⟩, k (.int _) S _ H (Go.refl so) rfl h.2⟩
  · exact h.elim
def dComb : RCall := fun ds S Q => match ds with
  | [.int i, .int j] => (0 ≤ i ∧ 0 ≤ j ∧ i ≤ 9000) ∧ Q (.int (PySem.W.mcComb i j)) S
  | _ => False
theorem cd_comb : CallR X (.builtin "math.comb") (lcl X.K dComb) := by
  intro pins s σ H vs us Q I rv h
  obtain ⟨ds, S, R, dv, so, h, k⟩ := h
  unfold dComb at h
  split at h
  · rename_i i j
    obtain ⟨v, w, rfl, r1, r2⟩ := dvs2 dv
    cases (show v = V.int i from r1)
    cases (show w = V.int j from r2)
    obtain ⟨u, u', rfl, ⟨t, rfl⟩, ⟨t', rfl⟩⟩ := vals2 rv
    exact PySem.W.mc_comb h.1.1 h.1.2.1 (by have := h.1.2.2; omega) (.inr (by have := h.1.2.2; omega)) fun _ => ⟨.int _, H, I.tok _, ⟨_, rfl⟩, k (.int _) S _ H (Go.refl so) rfl h.2⟩
  · exact h.elim

/-! ### calls with keywords -/
def rCallK (y : DXw) (spec : DSp) (gD : List D → List D → List D) (ta tk : RA) : RE := fun ρ S Q => ta ρ S fun ds S1 => tk ρ S1 fun zs S2 => spec (gD ds zs) S2 Q fun C d S' => y.d C d ρ S'
structure KBD (K : PySem.W.Frag) (fd : FuncData) (ps ks : List Str) (g : List Value → List Value → List Value) (gD : List D → List D → List D) : Prop where
  to : ∀ (s : Shared) (us ws : List Value), K.In s.heap → (g us ws).length = ps.length → BindsTo s fd ⟨us, ks.zip ws⟩ (ps.zip (g us ws))
  rel : ∀ {H : Hp} {ds zs : List D} {vs ws : List V} {us xs : List Value}, DVs K H ds vs → DVs K H zs ws → Vals vs us → Vals ws xs → ∃ qs, DVs K H (gD ds zs) qs ∧ Vals qs (g us xs)
variable {k : Nat} {f : Addr} {fd : FuncData} {ps ks : List Str} {spec : DSp} {kws : List Keyword} {g : List Value → List Value → List Value} {gD : List D → List D → List D}
theorem run_K {pins : List (Addr × Obj)} {σ : L2.St} {H : Hp} {s : Shared} {Q : VK} {us ws : List Value} {qs : List V} (tk : Takes X y.W) (G : FnOk X.prog X.w X.K X.mg X.base (L2.CX X.prog X.w) k f fd ps (toSp X.K spec)) (hr : Room k X.A) (hb : KBD X.K fd ps ks g gD)
    (I : Inv X pins σ H s) (r : Vals qs (g us ws)) (h : toSp X.K spec qs H Q (WE y.W σ)) : wpAny (model X.prog X.w) X.A (call (.ref f) us (ks.zip ws)) (EP X pins σ Q) X.xe s := by
  have hl : (g us ws).length = ps.length := by rw [← r.length]; exact G.len _ _ _ _ h
  refine wpAny_call (codeAny_mono (G.run X.A X.stack s H ⟨us, ks.zip ws⟩ (g us ws) qs Q _ hr I.env0 (hb.to s us ws I.kIn hl) r h) fun r s' hq => ?_)
  cases r with
  | error e => exact passAt tk σ pins H s e s' I hq
  | ok fl =>
    cases fl with
    | ret u => exact I.after hq
    | next => exact False.elim hq
    | brk => exact False.elim hq
    | cont => exact False.elim hq
theorem pd_callK0 {tkk : RA} {n : Nat} (tk : Takes X y.W) (G : FnOk X.prog X.w X.K X.mg X.base (L2.CX X.prog X.w) k f fd ps (toSp X.K spec)) (hr : Room k X.A) (hm : X.mg x = some (.ref f)) (hk : PySem.W.keepIn X.K (.ref f) = true) (hb : KBD X.K fd ps ks g gD) (hkw : RdK X y kws n tkk)
    (hg : Gl X x := by rfl) (hall : (backToKw pos (keywordEach kws X.env)).all (·.1.isSome) = true := by rfl) (hks : (backToKw pos (keywordEach kws X.env)).filterMap (·.1) = ks := by rfl)
    (hdb : (x == ("__debug__" : Str)) = false := by decide) (hpl : ((backTo pos (starEach [] X.env)).any (·.1) || (backToKw pos (keywordEach kws X.env)).any (·.1.isNone)) = false := by rfl) :
    PD X y (.Call (.Name x p) [] kws pos) (rCallK y spec gD rNil tkk) := by
  refine ⟨fun pins s σ H Q I h => ?_⟩
  obtain ⟨ρ, S, R, sr, so, h, c⟩ := h
  refine wpAny_Call_Name_kw (ld_glob I hg hm ?_ hdb)
  refine PySem.W.callWith_KW0 (h₀ := X.base) I.ok.mod.kin hk hall ?_ hpl
  have hkr := hkw.run pos pins s σ H (fun vs H1 => ∃ zs S1, Go X.K H S H1 S1 ∧ DVs X.K H1 zs vs ∧ spec (gD [] zs) S1 R fun C d S' => y.d C d ρ S') I ⟨ρ, S, _, sr, so, h, fun zs S1 vs H1 g1 dvs _ h1 => ⟨zs, S1, g1, dvs, h1⟩⟩
  refine thn hkr fun ws s2 ⟨vs, H2, I2, rz, zs, S2, g2, dvs, h2⟩ => ⟨I2.kIn, ?_⟩
  rw [hks]
  obtain ⟨qs, hq1, hq2⟩ := hb.rel (H := H2) (ds := []) (vs := []) (us := []) DVs.nil dvs .nil rz
  exact run_K tk G hr hb I2 hq2 ⟨gD [] zs, S2, R, _, hq1, g2.ok, h2, fun d S3 v H3 g3 dv q => c d S3 v H3 (g2.trans g3) dv q, fun C d S3 dx w H3 g3 e dw q => (so.go g2).xo C d ρ S3 dx w σ H3 g3 (sr.go (g2.trans g3)) e dw q⟩
theorem pd_callK {tkk : RA} {n : Nat} (tk : Takes X y.W) (G : FnOk X.prog X.w X.K X.mg X.base (L2.CX X.prog X.w) k f fd ps (toSp X.K spec)) (hr : Room k X.A) (hm : X.mg x = some (.ref f)) (hk : PySem.W.keepIn X.K (.ref f) = true) (hb : KBD X.K fd ps ks g gD) (ha : PDA X y (e :: es) ta) (hkw : RdK X y kws n tkk)
    (hg : Gl X x := by rfl) (hall : (backToKw pos (keywordEach kws X.env)).all (·.1.isSome) = true := by rfl) (hks : (backToKw pos (keywordEach kws X.env)).filterMap (·.1) = ks := by rfl)
    (hdb : (x == ("__debug__" : Str)) = false := by decide) (he : starEach (e :: es) X.env = (false, eval e X.env) :: starEach es X.env := by rfl) (hpl : ((backTo pos (starEach (e :: es) X.env)).any (·.1) || (backToKw pos (keywordEach kws X.env)).any (·.1.isNone)) = false := by rfl) :
    PD X y (.Call (.Name x p) (e :: es) kws pos) (rCallK y spec gD ta tkk) := by
  refine ⟨fun pins s σ H Q I h => ?_⟩
  obtain ⟨ρ, S, R, sr, so, h, c⟩ := h
  refine wpAny_Call_Name_kw (ld_glob I hg hm ?_ hdb)
  have har := ha.run pos pins s σ H (fun vs H1 => ∃ ds S1, Go X.K H S H1 S1 ∧ DVs X.K H1 ds vs ∧ tkk ρ S1 fun zs S2 => spec (gD ds zs) S2 R fun C d S' => y.d C d ρ S') I ⟨ρ, S, _, sr, so, h, fun ds S1 vs H1 g1 dvs _ h1 => ⟨ds, S1, g1, dvs, h1⟩⟩
  refine PySem.W.callWith_KW (h₀ := X.base) I.ok.mod.kin hk hall (thn har fun us s1 ⟨vs, H1, I1, r, ds, S1, g1, dv1, h1⟩ => ?_) hpl he
  have hkr := hkw.run pos pins s1 σ H1 (fun vs H2 => ∃ zs S2, Go X.K H1 S1 H2 S2 ∧ DVs X.K H2 zs vs ∧ spec (gD ds zs) S2 R fun C d S' => y.d C d ρ S') I1 ⟨ρ, S1, _, sr.go g1, so.go g1, h1, fun zs S2 vs H2 g2 dvs _ h2 => ⟨zs, S2, g2, dvs, h2⟩⟩
  refine thn hkr fun ws s2 ⟨ws', H2, I2, rz, zs, S2, g2, dv2, h2⟩ => ⟨I2.kIn, ?_⟩
  rw [hks]
  obtain ⟨qs, hq1, hq2⟩ := hb.rel (H := H2) (DVs.go g2 _ _ dv1) dv2 r rz
  have gA := g1.trans g2
  exact run_K tk G hr hb I2 hq2 ⟨gD ds zs, S2, R, _, hq1, gA.ok, h2, fun d S3 v H3 g3 dv q => c d S3 v H3 (gA.trans g3) dv q, fun C d S3 dx w H3 g3 e dw q => (so.go gA).xo C d ρ S3 dx w σ H3 g3 (sr.go (gA.trans g3)) e dw q⟩
end
end DL
set_option Elab.async false
set_option linter.all false
set_option maxRecDepth 100000
set_option maxHeartbeats 4000000
namespace DL
open PySem PySem.Spec PyProof.Rows L2
/-! ### fractions -/
def fr (q : Rat) : D := .tup [.int q.num, .int (q.den : Int)]
theorem low_num {t b : Int} (hb : 0 < b) : t / ((Nat.gcd t.natAbs b.natAbs : Nat) : Int) = ((t : Rat) / (b : Rat)).num := by
  rw [← Rat.divInt_eq_div, Rat.num_divInt, Int.sign_eq_one_of_pos hb, Int.one_mul, Int.gcd, Nat.gcd_comm]
theorem low_den {t b : Int} (hb : 0 < b) : b / ((Nat.gcd t.natAbs b.natAbs : Nat) : Int) = (((t : Rat) / (b : Rat)).den : Int) := by
  rw [← Rat.divInt_eq_div, Rat.den_divInt, if_neg (by omega), Int.gcd, Nat.gcd_comm]
  have : (b.natAbs : Int) = b := by omega
  rw [Int.natCast_ediv, this]
theorem low_fr {t b : Int} (hb : 0 < b) : D.tup [.int (t / ((Nat.gcd t.natAbs b.natAbs : Nat) : Int)), .int (b / ((Nat.gcd t.natAbs b.natAbs : Nat) : Int))] = fr ((t : Rat) / (b : Rat)) := by
  unfold fr
  rw [← low_num hb, ← low_den hb]
theorem den_pos' (q : Rat) : (0 : Int) < (q.den : Int) := by have := q.den_pos; omega
theorem num_div_den' (q : Rat) : ((q.num : Int) : Rat) / ((q.den : Int) : Rat) = q := by
  rw [← Rat.divInt_eq_div]; exact Rat.num_divInt_den q
theorem mul_fr (a b : Rat) : (((a.num * b.num : Int) : Rat) / (((a.den : Int) * (b.den : Int) : Int) : Rat)) = a * b := by
  have ha := num_div_den' a
  have hb := num_div_den' b
  have da : ((a.den : Int) : Rat) ≠ 0 := by have := a.den_nz; simpa using this
  have db : ((b.den : Int) : Rat) ≠ 0 := by have := b.den_nz; simpa using this
  rw [Rat.intCast_mul, Rat.intCast_mul]
  generalize ((a.num : Int) : Rat) = x at *
  generalize ((b.num : Int) : Rat) = y at *
  generalize ((a.den : Int) : Rat) = u at *
  generalize ((b.den : Int) : Rat) = v at *
  subst ha hb
  grind
theorem add_fr (a b : Rat) : (((a.num * (b.den : Int) + b.num * (a.den : Int) : Int) : Rat) / (((a.den : Int) * (b.den : Int) : Int) : Rat)) = a + b := by
  have ha := num_div_den' a
  have hb := num_div_den' b
  have da : ((a.den : Int) : Rat) ≠ 0 := by have := a.den_nz; simpa using this
  have db : ((b.den : Int) : Rat) ≠ 0 := by have := b.den_nz; simpa using this
  rw [Rat.intCast_add, Rat.intCast_mul, Rat.intCast_mul, Rat.intCast_mul]
  generalize ((a.num : Int) : Rat) = x at *
  generalize ((b.num : Int) : Rat) = y at *
  generalize ((a.den : Int) : Rat) = u at *
  generalize ((b.den : Int) : Rat) = v at *
  subst ha hb
  grind
/-! ### sizes -/
theorem gcd_w {t b : Int} (hb : 0 < b) {n : Nat} (h : b.natAbs < 2 ^ n) (h0 : 0 < n) (h9 : n ≤ 9000) (z : Int) : CDivW z ((Nat.gcd t.natAbs b.natAbs : Nat) : Int) := by
  have h1 : 0 < Nat.gcd t.natAbs b.natAbs := Nat.gcd_pos_of_pos_right _ (by omega)
  have h2 : Nat.gcd t.natAbs b.natAbs ≤ b.natAbs := Nat.gcd_le_right _ (by omega)
  exact wide_div (b := n) (by omega) (by rw [Int.natAbs_natCast]; omega) h0 h9
theorem small_r {i j : Int} (h1 : -(2 ^ 64) < j) (h2 : j < 2 ^ 64) : CMulW i j ∨ CMul i j := .inr (.inr ⟨h1, h2⟩)
theorem small_l {i j : Int} (h1 : -(2 ^ 64) < i) (h2 : i < 2 ^ 64) : CMulW i j ∨ CMul i j := .inr (.inl ⟨h1, h2⟩)
theorem div_s {i j : Int} (h : 0 < j) (hb : j < 2 ^ 8000) : CDivW i j := wide_div (b := 8000) h (by omega) (by decide) (by decide)
end DL
set_option Elab.async false
set_option linter.all false
set_option maxRecDepth 100000
set_option maxHeartbeats 4000000
namespace DL
open PySem PySem.Spec PyProof.Rows L2
/-! ### loops -/
theorem for_rg {lo : Int} {n : Nat} {g : RG} {tb : RS} {E : DEnds} {ρ : Ro} {S : Sto} (W : Nat → Ro → Sto → Prop) (h0 : W 0 ρ S)
    (hs : ∀ (i : Nat) ρ' S', i < n → W i ρ' S' → g (.int (lo + (i : Int))) ρ' S' fun ρ2 S2 => tb { E with nx := W (i + 1), ct := W (i + 1), bk := E.nx } ρ2 S2) (hd : ∀ ρ' S', W n ρ' S' → E.nx ρ' S') :
    ∃ W : Nat → Ro → Sto → Prop, W 0 ρ S ∧ ∀ i ρ' S', W i ρ' S' → (fun (_ : Sto) => True) S' ∧
      (∀ x, (rgI lo n)[i]? = some x → g x ρ' S' fun ρ2 S2 => tb { E with nx := W (i + 1), ct := W (i + 1), bk := E.nx } ρ2 S2) ∧ (i = (rgI lo n).length → E.nx ρ' S') := by
  refine ⟨W, h0, fun i ρ' S' h => ⟨trivial, fun x hx => ?_, fun e => ?_⟩⟩
  · obtain ⟨hi, rfl⟩ := rgI_inv hx
    exact hs i ρ' S' hi h
  · rw [rgI_len] at e
    subst e
    exact hd ρ' S' h
theorem for_xs {xs : List D} {src : Sto → Prop} {g : RG} {tb : RS} {E : DEnds} {ρ : Ro} {S : Sto} (W : Nat → Ro → Sto → Prop) (h0 : W 0 ρ S) (hq : ∀ i ρ' S', W i ρ' S' → src S')
    (hs : ∀ (i : Nat) x ρ' S', xs[i]? = some x → W i ρ' S' → g x ρ' S' fun ρ2 S2 => tb { E with nx := W (i + 1), ct := W (i + 1), bk := E.nx } ρ2 S2) (hd : ∀ ρ' S', W xs.length ρ' S' → E.nx ρ' S') :
    ∃ W : Nat → Ro → Sto → Prop, W 0 ρ S ∧ ∀ i ρ' S', W i ρ' S' → src S' ∧
      (∀ x, xs[i]? = some x → g x ρ' S' fun ρ2 S2 => tb { E with nx := W (i + 1), ct := W (i + 1), bk := E.nx } ρ2 S2) ∧ (i = xs.length → E.nx ρ' S') :=
  ⟨W, h0, fun i ρ' S' h => ⟨hq i ρ' S' h, fun x hx => hs i x ρ' S' hx h, fun e => by subst e; exact hd ρ' S' h⟩⟩
/-- a comprehension whose elements are values f i x, the store but growing -/
def Ext (S S' : Sto) : Prop := ∀ a c, S a = some c → S' a = some c
theorem Ext.refl (S : Sto) : Ext S S := fun _ _ h => h
theorem Ext.trans {S S1 S2 : Sto} (a : Ext S S1) (b : Ext S1 S2) : Ext S S2 := fun c o h => b c o (a c o h)
theorem Ext.new {S : Sto} {p : Addr} (h : S p = none) (c : Cell) : Ext S (sup S p c) := fun a o e => by
  rw [sup_ne (fun z => ?_)]
  · exact e
  · subst z; rw [h] at e; cases e
theorem Ext.free {S S' : Sto} (e : Ext S S') {p : Addr} (h : S' p = none) : S p = none := by
  cases q : S p with
  | none => rfl
  | some o => rw [e p o q] at h; cases h
theorem Ext.rd {S S' : Sto} (e : Ext S S') {d : D} {xs : List D} (h : RdL S d xs) : RdL S' d xs := by
  rcases h with ⟨a, rfl, h⟩ | rfl
  · exact .inl ⟨a, rfl, e _ _ h⟩
  · exact .inr rfl
mutual
theorem Pat.imp : ∀ (p : Pat) (d : D) (ρ : Ro) (k k' : Ro → Prop), (∀ ρ', k ρ' → k' ρ') → Pat.put p d ρ k → Pat.put p d ρ k'
  | .n i, d, ρ, k, k', m, h => m _ h
  | .t ps, d, ρ, k, k', m, h => by
    cases d with
    | tup xs => exact Pat.imps ps xs ρ k k' m h
    | _ => exact False.elim h
theorem Pat.imps : ∀ (ps : List Pat) (ds : List D) (ρ : Ro) (k k' : Ro → Prop), (∀ ρ', k ρ' → k' ρ') → Pat.puts ps ds ρ k → Pat.puts ps ds ρ k'
  | [], ds, ρ, k, k', m, h => by
    cases ds with
    | nil => exact m _ h
    | cons _ _ => exact False.elim h
  | p :: ps, ds, ρ, k, k', m, h => by
    cases ds with
    | nil => exact False.elim h
    | cons d ds => exact Pat.imp p d ρ _ _ (fun ρ' h => Pat.imps ps ds ρ' k k' m h) h
end
def WM (n : Nat) (f : Nat → D) (S : Sto) : Nat → List D → Sto → Prop := fun i acc S' => i ≤ n ∧ acc = (List.range i).map f ∧ Ext S S'
theorem lc_rgm {lo : Int} {n : Nat} {p : Pat} {tt : RT} {te : RE} {vs : List Nat} {ρ : Ro} {S : Sto} {G : Addr → Sto → List D → Prop} (f : Nat → D)
    (hs : ∀ (i : Nat) acc S', i < n → WM n f S i acc S' → Pat.put p (.int (lo + (i : Int))) (dwipe ρ vs) fun ρ2 => tt ρ2 S' fun b S3 => IFB b (te ρ2 S3 fun d S4 => acc.length < sizeLine ∧ WM n f S (i + 1) (acc ++ [d]) S4) (WM n f S (i + 1) acc S3))
    (hd : ∀ S' q, Ext S S' → S' q = none → G q S' ((List.range n).map f)) :
    ∃ W : Nat → List D → Sto → Prop, W 0 [] S ∧ ∀ i acc S', W i acc S' → (fun (_ : Sto) => True) S' ∧
      (∀ x, (rgI lo n)[i]? = some x → Pat.put p x (dwipe ρ vs) fun ρ2 => tt ρ2 S' fun b S3 => IFB b (te ρ2 S3 fun d S4 => acc.length < sizeLine ∧ W (i + 1) (acc ++ [d]) S4) (W (i + 1) acc S3)) ∧
      (i = (rgI lo n).length → ∀ p, S' p = none → G p S' acc) := by
  refine ⟨WM n f S, ⟨Nat.zero_le _, by simp, Ext.refl S⟩, fun i acc S' w => ⟨trivial, fun x hx => ?_, fun h q hq => ?_⟩⟩
  · obtain ⟨hi, rfl⟩ := rgI_inv hx
    exact hs i acc S' hi w
  · rw [rgI_len] at h
    subst h
    obtain ⟨_, rfl, e⟩ := w
    exact hd S' q e hq
theorem lc_leaf {n i : Nat} {f : Nat → D} {S S' S4 : Sto} {acc : List D} {d : D} (hi : i < n) (w : WM n f S i acc S') (hn : n ≤ sizeLine) (hd : d = f i) (he : Ext S' S4) : acc.length < sizeLine ∧ WM n f S (i + 1) (acc ++ [d]) S4 := by
  obtain ⟨_, rfl, e⟩ := w
  refine ⟨by simp; omega, hi, ?_, e.trans he⟩
  rw [List.range_succ, List.map_append, hd]
  rfl
/-- over the items of a list -/
def WL (xs : List D) (f : D → D) (S : Sto) : Nat → List D → Sto → Prop := fun i acc S' => i ≤ xs.length ∧ acc = (xs.take i).map f ∧ Ext S S'
theorem lc_xsm {xs : List D} {src : Sto → Prop} {p : Pat} {tt : RT} {te : RE} {vs : List Nat} {ρ : Ro} {S : Sto} {G : Addr → Sto → List D → Prop} (f : D → D) (hq : ∀ S', Ext S S' → src S')
    (hs : ∀ (i : Nat) x acc S', xs[i]? = some x → WL xs f S i acc S' → Pat.put p x (dwipe ρ vs) fun ρ2 => tt ρ2 S' fun b S3 => IFB b (te ρ2 S3 fun d S4 => acc.length < sizeLine ∧ WL xs f S (i + 1) (acc ++ [d]) S4) (WL xs f S (i + 1) acc S3))
    (hd : ∀ S' q, Ext S S' → S' q = none → G q S' (xs.map f)) :
    ∃ W : Nat → List D → Sto → Prop, W 0 [] S ∧ ∀ i acc S', W i acc S' → src S' ∧
      (∀ x, xs[i]? = some x → Pat.put p x (dwipe ρ vs) fun ρ2 => tt ρ2 S' fun b S3 => IFB b (te ρ2 S3 fun d S4 => acc.length < sizeLine ∧ W (i + 1) (acc ++ [d]) S4) (W (i + 1) acc S3)) ∧
      (i = xs.length → ∀ p, S' p = none → G p S' acc) := by
  refine ⟨WL xs f S, ⟨Nat.zero_le _, by simp, Ext.refl S⟩, fun i acc S' w => ⟨hq S' w.2.2, fun x hx => hs i x acc S' hx w, fun h q hq => ?_⟩⟩
  subst h
  obtain ⟨_, rfl, e⟩ := w
  rw [List.take_length]
  exact hd S' q e hq
theorem lc_leafL {xs : List D} {i : Nat} {f : D → D} {S S' S4 : Sto} {acc : List D} {d x : D} (hx : xs[i]? = some x) (w : WL xs f S i acc S') (hn : xs.length ≤ sizeLine) (hd : d = f x) (he : Ext S' S4) : acc.length < sizeLine ∧ WL xs f S (i + 1) (acc ++ [d]) S4 := by
  obtain ⟨_, rfl, e⟩ := w
  have hi : i < xs.length := (List.getElem?_eq_some_iff.mp hx).1
  refine ⟨by simp; omega, hi, ?_, e.trans he⟩
  rw [List.take_succ, hx, List.map_append, hd]
  rfl
end DL
set_option Elab.async false
set_option linter.all false
set_option maxRecDepth 100000
set_option maxHeartbeats 4000000
namespace DL
open PySem PySem.Spec PyProof.Rows L2
section
variable {X : Cx} {y : DXw} {st : Stmt} {rest : List Stmt} {t u : RS} {e : Expr} {te : RE} {pos : Pos}
/-- a, b, c = x, y, z with plain local names -/
def rPar3 (i j l : Nat) (ta : RA) : RS := fun E ρ S => ta ρ S fun ds S1 => match ds with
  | [d, e, f] => E.nx (((ρ.set i (some d)).set j (some e)).set l (some f)) S1
  | _ => False
theorem pd_par3 (i j l : Nat) {x z w : Str} {a b c : Expr} {ta : RA} {px py pz pt pos : Pos} {kt k2 pt2} (hc : X.calm = true) (hN : X.N.Nodup) (ha : PDA X y [a, b, c] ta)
    (hw : swappedStores [.Tuple [.Name x px, .Name z py, .Name w pz] kt pt] (.Tuple [a, b, c] k2 pt2) X.env = pure (some [x, z, w]))
    (hi : X.N[i]? = some x := by rfl) (hj : X.N[j]? = some z := by rfl) (hl : X.N[l]? = some w := by rfl) (hij : i ≠ j := by decide) (hil : i ≠ l := by decide) (hjl : j ≠ l := by decide)
    (hx : X.env.scope.names.lookup x = some .local := by rfl) (hy : X.env.scope.names.lookup z = some .local := by rfl) (hz : X.env.scope.names.lookup w = some .local := by rfl)
    (hs : swapsWithSole [.Tuple [.Name x px, .Name z py, .Name w pz] kt pt] (.Tuple [a, b, c] k2 pt2) pos.line X.env = pure false := by rfl) :
    PDS X y (.Assign [.Tuple [.Name x px, .Name z py, .Name w pz] kt pt] (.Tuple [a, b, c] k2 pt2) pos) (rPar3 i j l ta) := PDS.of (ps_par3 hc hN hi hj hl hij hil hjl hx hy hz ha hw hs) fun D σ H h => by
  obtain ⟨ρ, S, E, sr, so, h, eo⟩ := h
  refine ⟨ρ, S, _, sr, so, h, fun ds S1 vs H1 g1 dvs hn h1 => ?_⟩
  match ds, dvs, h1 with
  | [d, e, f], dvs, h1 =>
    obtain ⟨v, ws, rfl, dv1, v2, ws2, rfl, dv2, v3, ws3, rfl, dv3, q⟩ := dvs
    cases (show ws3 = [] from q)
    exact ⟨v, v2, v3, rfl, eo.nx _ S1 _ H1 g1 ((((sr.go g1).set dv1 i).set dv2 j).set dv3 l) h1⟩
  | [], _, h1 => exact h1.elim
  | [_], _, h1 => exact h1.elim
  | [_, _], _, h1 => exact h1.elim
  | _ :: _ :: _ :: _ :: _, _, h1 => exact h1.elim
end

/-! ### a def whose garbage is dropped -/
theorem Go.less {K : PySem.W.Frag} {H H' : Hp} {S S' S2 : Sto} (g : Go K H S H' S') (e : Ext S2 S') : Go K H S H' S2 :=
  ⟨g.ok0, fun a c h => g.ok a c (e a c h), g.frame, fun a o h1 h2 => by
    cases q : S2 a with
    | none => rfl
    | some c => exact absurd (e a c q) (by rw [g.ex a o h1 h2]; exact fun z => by cases z)⟩
theorem fnE {P : Program} {w : World} {K : PySem.W.Frag} {mg : Str → Option Value} {base : Heap} {x qual : Str} {st : Stmt} {f : Addr} {fd : FuncData} {N ps : List Str} {k : Nat} {sp : DSp} (F : Fun K x qual st f fd) (S : FnScope N ps (defScope st))
    (len : ∀ ds S Q E, sp ds S Q E → ds.length = ps.length)
    (hbody : ∀ (cdv : Value) (A : Around) (outer : List Env) (s : Shared) (H : Hp) (E : XK) (RX : Addr → D → Sto → Prop), Room k (A.deeper (envOfC qual (defScope st) s.heap.objs.size f cdv)) →
      ∃ t, PDSs (cxOf (L2.CX P w) P w K mg base N qual (defScope st) f cdv A outer s H E) (yOf E RX) (defBody st) t ∧ ∀ ds S Q, sp ds S Q RX → t { nx := fun _ S' => ∃ S2, Ext S2 S' ∧ Q .non S2, rt := fun d S' => ∃ S2, Ext S2 S' ∧ Q d S2 } (startD N ds) S) :
    FnOk P w K mg base (L2.CX P w) (k + 1) f fd ps (toSp K sp) := by
  refine F.okX S (fun vs H Q E h => ?_) (fun cdv A outer s H vs Q E hr h => ?_)
  · obtain ⟨ds, S, R, RX, dvs, _, h, _⟩ := h
    rw [← dvs.length]
    exact len _ _ _ _ h
  · obtain ⟨ds, S, R, RX, dvs, so, h, k1, k2⟩ := h
    obtain ⟨t, ht, hq⟩ := hbody cdv A outer s H E RX hr
    refine ⟨_, ht, startD N ds, S, _, start_srv dvs, ⟨so, fun C d ρ S' dx w' σ H' g _ e dv q => k2 C d S' dx w' H' g e dv q⟩, hq ds S R h, ?_⟩
    exact ⟨fun ρ S' σ H' g _ ⟨S2, e, q⟩ => k1 .non S2 .non H' (g.less e) rfl q, fun d S' v H' g dv ⟨S2, e, q⟩ => k1 d S2 v H' (g.less e) dv q, fun _ _ _ _ _ _ z => z, fun _ _ _ _ _ _ z => z⟩
theorem fnok0 {P : Program} {w : World} {K : PySem.W.Frag} {mg : Str → Option Value} {base : Heap} {f : Addr} {fd : FuncData} {ps : List Str} {k : Nat} : FnOk P w K mg base (L2.CX P w) k f fd ps (toSp K fun _ _ _ _ => False) :=
  ⟨fun _ _ _ _ ⟨_, _, _, _, _, _, h, _⟩ => h.elim, fun _ _ _ _ _ _ _ _ _ _ _ _ _ ⟨_, _, _, _, _, _, h, _⟩ => h.elim⟩
/-! ### told and due -/
def cellsD (S : Sto) : D → Option (List D)
  | .ref a => match S a with
    | some (.lst xs) => some xs
    | _ => none
  | .fro xs => some xs
  | _ => none
def sameD (S : Sto) : Nat → D → D → Prop
  | 0, _, _ => False
  | _ + 1, told, .non => told = .non
  | _ + 1, told, .bl b => told = .bl b
  | _ + 1, told, .int i => told = .int i
  | _ + 1, told, .str x => told = .str x
  | n + 1, told, .tup xs => ∃ ys, told = .tup ys ∧ ys.length = xs.length ∧ xs.length < 1000000 ∧ ∀ (i : Nat) y x, ys[i]? = some y → xs[i]? = some x → sameD S n y x
  | n + 1, told, due => ∃ xs ys, RdL S due xs ∧ RdL S told ys ∧ ys.length = xs.length ∧ xs.length < 1000000 ∧ ∀ (i : Nat) y x, ys[i]? = some y → xs[i]? = some x → sameD S n y x
def sp_same (n : Nat) : DSp := fun ds S Q _ => ∃ told due, ds = [told, due] ∧ sameD S n told due ∧ Q (.bl true) S
theorem cut_to {xs : List D} {r : Nat} (h : r ≤ xs.length) : cutD xs none (some (r : Int)) = xs.take r := by
  unfold cutD
  rw [HT.sIx_none, HT.sIx_nat, Nat.min_eq_left h]
  rfl
theorem cut_from {xs : List D} {r : Nat} (h : r ≤ xs.length) : cutD xs (some (r : Int)) none = xs.drop r := by
  unfold cutD
  rw [HT.sIx_none, HT.sIx_nat, Nat.min_eq_left h, List.take_of_length_le (by simp)]
theorem take_get {xs : List D} {r j : Nat} {x : D} (h : (xs.take r)[j]? = some x) : xs[j]? = some x := by
  rw [List.getElem?_take] at h
  split at h
  · exact h
  · cases h
theorem drop_get {xs : List D} {r j : Nat} {x : D} (h : (xs.drop r)[j]? = some x) : xs[r + j]? = some x := by
  rw [List.getElem?_drop] at h
  exact h
theorem Ext.wr {S S' : Sto} {p : Addr} {c : Cell} (e : Ext S S') (h : S p = none) : Ext S (sup S' p c) := fun a o q => by
  rw [sup_ne (fun z => ?_)]
  · exact e a o q
  · subst z; rw [h] at q; cases q

/-! ### calls with keywords: what goes where -/
def gk {α : Type} (n m : Nat) (pm : List Nat) (us ws : List α) : List α := if us.length = n ∧ ws.length = m then pm.filterMap fun i => (us ++ ws)[i]? else []
theorem gk_rel {K : PySem.W.Frag} {n m : Nat} {pm : List Nat} {H : Hp} {ds zs : List D} {vs ws : List V} {us xs : List Value} (h1 : DVs K H ds vs) (h2 : DVs K H zs ws) (r1 : Vals vs us) (r2 : Vals ws xs) :
    ∃ qs, DVs K H (gk n m pm ds zs) qs ∧ Vals qs (gk n m pm us xs) := by
  have l1 := h1.length
  have l2 := h2.length
  have l3 := r1.length
  have l4 := r2.length
  by_cases c : ds.length = n ∧ zs.length = m
  · refine ⟨pm.filterMap fun i => (vs ++ ws)[i]?, ?_, ?_⟩
    · rw [show gk n m pm ds zs = pm.filterMap fun i => (ds ++ zs)[i]? from if_pos c]
      have hA := h1.append h2
      clear c
      induction pm with
      | nil => exact rfl
      | cons i pm ih =>
        rw [List.filterMap_cons, List.filterMap_cons]
        cases e : (ds ++ zs)[i]? with
        | none =>
          have : (vs ++ ws)[i]? = none := by
            rw [List.getElem?_eq_none_iff] at e ⊢
            rw [← hA.length]; exact e
          rw [this]
          exact ih
        | some d =>
          obtain ⟨v, e2, dv⟩ := hA.get e
          rw [e2]
          exact ⟨v, _, rfl, dv, ih⟩
    · rw [show gk n m pm us xs = pm.filterMap fun i => (us ++ xs)[i]? from if_pos (by omega)]
      have hA := r1.append r2
      clear c
      induction pm with
      | nil => exact .nil
      | cons i pm ih =>
        rw [List.filterMap_cons, List.filterMap_cons]
        cases e : (vs ++ ws)[i]? with
        | none =>
          have : (us ++ xs)[i]? = none := by
            rw [List.getElem?_eq_none_iff] at e ⊢
            rw [← hA.length]; exact e
          rw [this]
          exact ih
        | some d =>
          obtain ⟨v, e2, dv⟩ := hA.get e
          rw [e2]
          exact .cons dv ih
  · rw [show gk n m pm ds zs = [] from if_neg c, show gk n m pm us xs = [] from if_neg (by omega)]
    exact ⟨[], rfl, .nil⟩
theorem KBD.of {K : PySem.W.Frag} {x qual : Str} {st : Stmt} {f : Addr} {fd : FuncData} {ps ks : List Str} (n m : Nat) (pm : List Nat) (F : Fun K x qual st f fd) (hp : 0 < ps.length)
    (h : ∀ (kV doc pq : Value) (an : Option Addr) (cdv ct : Value) (us ws : List Value), us.length = n → ws.length = m → bindArgs (PySem.W.fnOf x qual (defArgs st) (defBody st) (defScope st) .none kV doc pq an cdv ct) ⟨us, ks.zip ws⟩ = pure (ps.zip (gk n m pm us ws))) :
    KBD K fd ps ks (gk n m pm) (gk n m pm) := by
  obtain ⟨oc, od, kV, doc, pq, an, cdv, ct, osl, rfl, lk, hcd⟩ := F.ex
  refine ⟨fun s us ws _ hl => ?_, fun h1 h2 r1 r2 => gk_rel h1 h2 r1 r2⟩
  by_cases c : us.length = n ∧ ws.length = m
  · exact .of_eq (h kV doc pq an cdv ct us ws c.1 c.2)
  · rw [show gk n m pm us ws = [] from if_neg c] at hl
    exact absurd hl (by simp; omega)

/-! ### the end -/
theorem law_end {K : PySem.W.Frag} {H : Hp} {a : Addr} {ns : List Int} (hO : Only H) (hS : SqL K H a (ns.map V.int)) {sp : DSp} (h : ∀ S, sp [.fro (ns.map D.int)] S (fun d _ => d = .bl true) (fun _ _ _ => False)) :
    toSp K sp [.ref a] H (fun v _ => v = .bl true) (fun _ _ _ => False) := by
  refine ⟨[.fro (ns.map D.int)], fun _ => none, _, _, ⟨_, _, rfl, ⟨a, ns.map V.int, rfl, ?_, DVs.of_ints⟩, rfl⟩, (fun _ _ z => by cases z), h _, (fun d S v H' _ dv e => by subst e; exact dv), fun _ _ _ _ _ _ _ _ _ z => z⟩
  rcases hS with hS | hS
  · rcases hS with hS | ⟨o, hS⟩
    · rcases hO a with e | ⟨o, xs, e⟩
      · rw [e] at hS; cases hS
      · rw [e] at hS; cases hS
    · exact .inl ⟨o, hS⟩
  · exact .inr hS
theorem cx_end (P : Program) (w : World) (H : Hp) (s : Shared) (e : Value) (s' : Shared) : L2.CX P w [] H s (fun _ _ _ => False) e s' → False := fun ⟨_, _, _, _, _, _, _, _, _, _, _, _, h⟩ => h
theorem law_binds {K : PySem.W.Frag} {x qual : Str} {st : Stmt} {f : Addr} {fd : FuncData} {p : Str} (F : Fun K x qual st f fd) (h : ∀ (kV doc pm : Value) (an : Option Addr) (cdv ct : Value) (u : Value), bindArgs (PySem.W.fnOf x qual (defArgs st) (defBody st) (defScope st) .none kV doc pm an cdv ct) ⟨[u], []⟩ = pure [(p, u)]) :
    ∀ (s : Shared) (u : Value), BindsTo s fd ⟨[u], []⟩ [(p, u)] := fun s u => by
  obtain ⟨oc, od, kV, doc, pm, an, cdv, ct, osl, rfl, _⟩ := F.ex
  exact .of_eq (h kV doc pm an cdv ct u)
end DL
set_option Elab.async false
set_option linter.all false
set_option maxRecDepth 100000
set_option maxHeartbeats 4000000
namespace DL
open PySem PySem.Spec PyProof.Rows L2
open PySem.AutoSeq1 (wpAny_loadPart')
/-! ### enumerate(tuple) -/
theorem meets_enumerate_newT (l : Addr) (items : Array Value) (n : Nat) (dct : Option Addr) (sl : Array (Option Value)) :
    Meets (Builtin.«enumerate.__new__» ⟨[.type "enumerate", .ref l], []⟩) (fun _ R s => s.heap.get? l = some { cls := .type "tuple", dict := dct, data := .seq items n, slots := sl } ∧
      R (.ok (.ret (.ref (s.heap.push { cls := .type "tuple_iterator", data := .fields #[.ref l, .int 0 0] }).objs.size)))
        { s with heap := (s.heap.push { cls := .type "tuple_iterator", data := .fields #[.ref l, .int 0 0] }).push { cls := .type "enumerate", data := .fields #[.none, .bool false, .ref s.heap.objs.size, rawInt 0, .none, .none] } }) :=
  .of_wp fun prog w A R s h => by
    obtain ⟨hp, g, d, tk, os⟩ := s; obtain ⟨hl, h⟩ := h
    have hsub := sub_enumerate
    have hL : Heap.IsTuple (Shared.heap ⟨hp, g, d, tk, os⟩) l items := ⟨_, hl, rfl, n, rfl⟩
    wp_walk using wpAny_loadPart' hl
    refine wpAny_stack_any fun st => wpAny_pure ?_
    split
    · rename_i c _ _ _ _ _
      cases (c == Value.type "enumerate")
      · wp_walk using wpAny_loadPart' hl, wpAny_pyIter_tuple hL
        exact ⟨_, rfl, h⟩
      · wp_walk using wpAny_loadPart' hl, wpAny_pyIter_tuple hL
        exact ⟨_, rfl, h⟩
    · wp_walk using wpAny_loadPart' hl, wpAny_pyIter_tuple hL
      exact ⟨_, rfl, h⟩
theorem call_enumerateT {prog : Program} {w : World} {A : Around} {E : Value → Shared → Prop} {s : Shared} {l : Addr} {items : Array Value} {Q : Value → Shared → Prop} (hL : s.heap.IsTuple l items)
    (h : ∀ h', IsEnum h' (s.heap.objs.size + 1) s.heap.objs.size 0 .none → h'.get? s.heap.objs.size = some { cls := .type "tuple_iterator", data := .fields #[.ref l, .int 0 0] } → h'.objs.size = s.heap.objs.size + 2 →
      (∀ b o, s.heap.get? b = some o → h'.get? b = some o) → Q (.ref (s.heap.objs.size + 1)) { s with heap := h' }) :
    wpAny (model prog w) A (call (.type "enumerate") [.ref l]) Q E s := by
  obtain ⟨⟨c, dct, dt, sl⟩, hl, hc, n, hd⟩ := hL
  replace hc : c = .type "tuple" := hc
  replace hd : dt = .seq items n := hd
  subst hc hd
  refine callType_new F.called_enumerate (by decide) (F.typeCall_enumerate_1 _) (F.newCall_enumerate_1 _) (fun obj => F.args_object_init_2 obj _) F.entry_enumerate_new
    (meets_enumerate_newT l items n dct sl) ⟨hl, ?_⟩
  have hz : (s.heap.push { cls := .type "tuple_iterator", data := .fields #[.ref l, .int 0 0] }).objs.size = s.heap.objs.size + 1 := Heap.size_push ..
  show _ ∧ _
  rw [hz]
  have he : IsEnum ((s.heap.push { cls := .type "tuple_iterator", data := .fields #[.ref l, .int 0 0] }).push
      { cls := .type "enumerate", data := .fields #[.none, .bool false, .ref s.heap.objs.size, rawInt 0, .none, .none] }) (s.heap.objs.size + 1) s.heap.objs.size 0 .none := by
    have := Heap.get?_push_size (s.heap.push { cls := .type "tuple_iterator", data := .fields #[.ref l, .int 0 0] })
      (o := { cls := .type "enumerate", data := .fields #[.none, .bool false, .ref s.heap.objs.size, rawInt 0, .none, .none] }) rfl
    rw [hz] at this; exact this
  refine ⟨⟨_, he, rfl⟩, h _ he (Heap.get?_push_of_some _ (Heap.get?_push_size _ rfl)) (by rw [Heap.size_push, hz]) fun b o x => Heap.get?_push_of_some _ (Heap.get?_push_of_some _ x)⟩
def IteT (K : PySem.W.Frag) (a : Addr) : It :=
  ⟨fun i H => ∃ (xs : List V) (x : V), SqT K H a xs ∧ xs[i]? = some x, fun i H v H' => ∃ T x, v = .ref T ∧ H T = none ∧ H' = upd H T (.tup [.int (i : Nat), x]) ∧ ∀ xs, SqT K H a xs → xs[i]? = some x, fun i H => ∃ xs : List V, SqT K H a xs ∧ xs.length ≤ i⟩
theorem turn_enumT {P : Program} {w : World} {K : PySem.W.Frag} {elts : List Expr} {kk : Nat} {tpos : Pos} (a e it : Addr) :
    Turn P w K (.Tuple elts kk tpos) (IteT K a) [e, it] e (fun i h => (∃ old, IsEnum h e it ((i : Nat) : Int) old) ∧ h.IsTupleIter it a i ∧ e ≠ it ∧ e ≠ a ∧ a ≠ it) where
  mem := by simp
  obj := fun i h st b hb => by
    obtain ⟨⟨old, he⟩, ⟨o, ho, hc, hd⟩, _⟩ := st
    have e' : b = e ∨ b = it := by simpa using hb
    rcases e' with z | z
    · rw [z]; exact ⟨_, he, fun v q => nomatch q⟩
    · rw [z]; exact ⟨o, ho, fun v q => by rw [hd] at q; cases q⟩
  keep := fun i h h' st k => let ⟨⟨old, he⟩, hi, hne⟩ := st; ⟨⟨old, k e (by simp) _ he⟩, hi.at fun o q => k it (by simp) o q, hne⟩
  item := by
    intro X hP hw hK hc i pins s σ H E I hf st hg
    subst hP hw hK
    obtain ⟨⟨old, he⟩, hit, hne, hea, hai⟩ := st
    obtain ⟨xs, x, hq, hx⟩ := hg
    obtain ⟨its, rv, p, hz⟩ := I.tuple hq
    obtain ⟨u, hu, ru⟩ := rv.get hx
    have hl := rv.length
    have hi : i < xs.length := by
      cases Nat.lt_or_ge i xs.length with
      | inl h => exact h
      | inr h2 => rw [List.getElem?_eq_none h2] at hx; cases hx
    have hel : e < s.heap.objs.size := Heap.lt_size he
    have hil : it < s.heap.objs.size := by obtain ⟨_, q, _⟩ := hit; exact Heap.lt_size q
    have pt : s.heap.IsTuple a its.toArray := p
    refine wpAny_pyNext_enum_itemD (Draws.tuple (A := X.A.in1) (show X.A.in1.handled = none from I.ok.hd hc) it a hai its.toArray) he ⟨hit, pt⟩ (by simp; omega) hne (by simp [hne, hea]) fun y h' tk hP ho st' hT hsz hk => ?_
    have ey : y = u := by
      have : its[i]? = some y := by simpa using hP
      rw [hu] at this
      exact (Option.some.inj this).symm
    subst ey
    refine ⟨_, rfl, wpAny_letOwnedTupleGo_enum (s := { s with heap := h', toks := tk + 1 }) ho fun h'' he' sb => ?_⟩
    have hT2 : h''.get? s.heap.objs.size = some { cls := .type "tuple", data := .seq #[.int i tk, y] } := (sb.2 _ (Nat.ne_of_gt hel)).trans hT
    have new : ObjOk X.prog X.w (upd H s.heap.objs.size (.tup [.int (i : Nat), x])) h'' s.heap.objs.size (.tup [.int (i : Nat), x]) :=
      ⟨by show 2 ≤ sizeLine; decide, [.int i tk, y], .cons ⟨_, rfl⟩ (.cons ru .nil), ⟨_, hT2, rfl, _, rfl⟩⟩
    have I1 : Inv X pins σ (upd H s.heap.objs.size (.tup [.int (i : Nat), x])) { s with heap := h'', toks := tk + 1 } :=
      I.turnedNew (ch := [e, it]) (fun b ob hb q => (sb.2 b (fun z => hb (by simp [z]))).trans (hk b ob (fun z => hb (by simp [z])) (fun z => hb (by simp [z])) q)) hf (Nat.le_refl _) new
    refine ⟨.ref s.heap.objs.size, _, I1, rfl, ⟨_, x, rfl, I.hok.fresh (Nat.le_refl _), rfl, fun ys hy => by rw [I.tuple_inj hy hq]; exact hx⟩, ⟨⟨y, ?_⟩, st'.1.at fun o q => (sb.2 it (Ne.symm hne)).trans q, hne, hea, hai⟩, fun b hb => ?_⟩
    · have e1 : ((i + 1 : Nat) : Int) = (i : Int) + 1 := by omega
      rw [e1]; exact he'
    · have hb' : b < s.heap.objs.size := by
        have e' : b = e ∨ b = it := by simpa using hb
        rcases e' with z | z
        · rw [z]; exact hel
        · rw [z]; exact hil
      rw [upd_ne (Nat.ne_of_lt hb')]
      exact (hf b hb).1
  done := by
    intro X hP hw hK hc i pins s σ H E I hf st hg
    subst hP hw hK
    obtain ⟨⟨old, he⟩, hit, hne, hea, hai⟩ := st
    obtain ⟨xs, hq, hx⟩ := hg
    obtain ⟨its, rv, p, hz⟩ := I.tuple hq
    obtain ⟨f0, f1, f2, f3, f4, f5⟩ := hf it (by simp)
    have hl := rv.length
    have hT : s.TypeIs (.ref e) "enumerate" := ⟨_, he, rfl⟩
    unfold pyNext
    refine wpAny_bind (wpAny_attempt (wpAny_callSpecial?_slot (name := Str.ofString "__next__") hT F.slot_enumerate_next
      (wpAny_call_entry F.slot_enumerate_next hT F.entry_enumerate_next ?_ (F.args_enumerate_next_1 _))))
    show wpAny _ _ (field (.ref e) 2 >>= _) _ _ _
    refine wpAny_bind (wpAny_field he rfl (x := .ref it) rfl ?_)
    refine wpAny_bind (wpAny_nextOf_tuple_end (items := its.toArray) (I.ok.hd hc) hit p (by simp; omega) fun h' x he' hx' => ?_)
    obtain ⟨o, ho, hc'⟩ := hx'
    refine wpAny_bind (wpAny_isInstance (T := "StopIteration") (b := true) ⟨o, ho, hc'⟩ isSubtype_stop ?_)
    exact wpAny_pure ⟨rfl, I.turned (t' := s.toks) (fun b o hb q => he' b o hb q) f0 f1 f3 f4 f5⟩
  self := fun A i s Q E st h => let ⟨⟨_, he⟩, _⟩ := st; wpAny_pyIter_enum he h
def iEnumT (K : PySem.W.Frag) (ta : TA) : TI := fun σ H R => ta σ H fun vs H1 => ∃ a xs, vs = [.ref a] ∧ SqT K H1 a xs ∧ R (IteT K a) H1
theorem pi_enumT {X : Cx} {e : Expr} {ta : TA} {p pos tpos : Pos} {elts : List Expr} {kk : Nat} (hg : Gl X "enumerate") (hm : X.mg "enumerate" = none) (ha : PA X [e] ta) (hs : starEach [e] X.env = [(false, eval e X.env)] := by rfl) :
    PI X (.Tuple elts kk tpos) (.Call (.Name "enumerate" p) [e] [] pos) (iEnumT X.K ta) := by
  refine ⟨fun pins s σ H R I h => ?_⟩
  refine Call_ (ld_blt I hg hm boot_enumerate (PyProof.Rows.callWith_type1 (thn (ha.run pos pins s σ H _ I h) fun us s1 ⟨vs, H1, I1, r1, q1⟩ => ?_) hs rfl))
  obtain ⟨a, xs, ex, hq, q⟩ := q1
  subst ex
  cases r1 with
  | cons r rr =>
    cases rr
    cases r
    obtain ⟨its, rv, p', hz⟩ := I1.tuple hq
    have pt : s1.heap.IsTuple a its.toArray := p'
    have hal : a < s1.heap.objs.size := by obtain ⟨_, q, _⟩ := pt; exact Heap.lt_size q
    refine call_enumerateT pt fun h' he hit hsz hk => wpAny_pyIter_enum he ?_
    have I2 : Inv X pins σ H1 { s1 with heap := h' } := I1.kept (t' := s1.toks) hk
    refine ⟨s1.heap.objs.size + 1, [s1.heap.objs.size + 1, s1.heap.objs.size], _, _, H1, rfl, I2, turn_enumT a (s1.heap.objs.size + 1) s1.heap.objs.size, ⟨⟨.none, he⟩, ⟨_, hit, rfl, rfl⟩, Nat.succ_ne_self _, Nat.ne_of_gt (Nat.lt_succ_of_lt hal), Nat.ne_of_lt hal⟩, fun b hb => ?_, q⟩
    have e' : b = s1.heap.objs.size + 1 ∨ b = s1.heap.objs.size := by simpa using hb
    have hle : s1.heap.objs.size ≤ b := by
      rcases e' with z | z
      · rw [z]; exact Nat.le_add_right _ _
      · rw [z]; exact Nat.le_refl _
    exact I1.fpOk hle (I1.hok.fresh hle)

section
variable {X : Cx} {y : DXw}
/-- (i, x) for each item of a tuple -/
def enD (xs : List D) : List D := xs.mapIdx fun i x => D.tup [.int (i : Int), x]
theorem enD_get {xs : List D} {i : Nat} : (enD xs)[i]? = xs[i]?.map fun x => D.tup [.int (i : Int), x] := by unfold enD; rw [List.getElem?_mapIdx]
theorem enD_len {xs : List D} : (enD xs).length = xs.length := by unfold enD; simp
def rEnum (t : RA) : RI := fun ρ S R => t ρ S fun ds S1 => match ds with
  | [.tup xs] => R (enD xs) (fun _ => True) S1
  | _ => False
theorem jok_enumT {K : PySem.W.Frag} {H1 : Hp} {S1 : Sto} {a : Addr} {xs : List D} {vs : List V} (h : StT K H1 a vs) (r : DVs K H1 xs vs) : JOk K H1 S1 (IteT K a) (enD xs) (fun _ => True) := by
  intro i H S g _
  have h2 := g.tup h
  have r2 := DVs.go g _ _ r
  refine ⟨fun x hx => ?_, fun hn => ⟨vs, h2.sq, ?_⟩⟩
  · rw [enD_get] at hx
    cases e : xs[i]? with
    | none => rw [e] at hx; cases hx
    | some d =>
      rw [e] at hx
      cases (Option.some.inj hx)
      obtain ⟨v, e2, dv⟩ := r2.get e
      refine ⟨⟨vs, v, h2.sq, e2⟩, fun w H' ⟨T, x, ew, hT, eH, hall⟩ => ?_⟩
      have := hall vs h2.sq
      rw [e2] at this
      cases (Option.some.inj this)
      subst ew eH
      have g2 := Go.new (K := K) (o := .tup [.int (i : Nat), v]) g.ok hT
      exact ⟨g2, T, _, rfl, .inl upd_same, DVs.cons rfl (DVs.cons (DV.go g2 _ _ dv) DVs.nil)⟩
  · rw [enD_get] at hn
    rw [← r.length]
    cases e : xs[i]? with
    | none => rw [List.getElem?_eq_none_iff] at e; exact e
    | some d => rw [e] at hn; cases hn
theorem pdi_enum {e : Expr} {ta : RA} {p pos tpos : Pos} {elts : List Expr} {kk : Nat} (hm : X.mg "enumerate" = none) (ha : PDA X y [e] ta) (hg : Gl X "enumerate" := by rfl) (hs : starEach [e] X.env = [(false, eval e X.env)] := by rfl) :
    PDI X y (.Tuple elts kk tpos) (.Call (.Name "enumerate" p) [e] [] pos) (rEnum ta) := by
  refine PDI.of (pi_enumT hg hm ha hs) fun σ H R h => ?_
  obtain ⟨ρ, S, Rd, sr, so, h, k⟩ := h
  refine ⟨ρ, S, _, sr, so, h, fun ds S1 vs H1 g dvs hn h1 => ?_⟩
  split at h1
  · rename_i xs
    obtain ⟨v, ws, rfl, dv, q⟩ := dvs
    cases (show ws = [] from q)
    obtain ⟨a, us, rfl, hT, r⟩ := dv
    exact ⟨a, us, rfl, hT.sq, k _ _ _ _ _ g (jok_enumT hT r) h1⟩
  · exact h1.elim
/-! ### comprehensions with two clauses: the new list stands in the store -/
theorem wipe_wipe (σ : L2.St) (l : List Nat) : L2.wipe (L2.wipe σ l) l = L2.wipe σ l := by
  have gen : ∀ (l l' : List Nat), (∀ i ∈ l, i ∈ l') → L2.wipe (L2.wipe σ l') l = L2.wipe σ l' := by
    intro l
    induction l with
    | nil => intro l' _; rfl
    | cons a l ih =>
      intro l' hl
      show (L2.wipe (L2.wipe σ l') l).set a none = L2.wipe σ l'
      rw [ih l' fun i hi => hl i (List.mem_cons_of_mem _ hi)]
      have ha' := hl a List.mem_cons_self
      apply List.ext_getElem?
      intro j
      by_cases hj : a = j
      · subst hj
        by_cases hb : a < (L2.wipe σ l').length
        · rw [List.getElem?_set_self hb]
          cases q : (L2.wipe σ l')[a]? with
          | none => rw [List.getElem?_eq_none_iff] at q; omega
          | some o =>
            cases o with
            | none => rfl
            | some x => exact absurd ha' (wipe_some q).2
        · rw [List.getElem?_eq_none (by simpa using hb), List.getElem?_eq_none (by simpa using hb)]
      · rw [List.getElem?_set_ne hj]
  exact gen l l fun _ h => h
def rLc2 (wi : RI) (p : Pat) (tt : RT) (wi1 : RI) (p1 : Pat) (tt1 : RT) (te : RE) (vs vs1 : List Nat) : RE := fun ρ S Q => wi ρ S fun xs src S1 => ∀ D0, S1 D0 = none → ∃ W : Nat → Sto → Prop, W 0 (sup S1 D0 (.lst [])) ∧ ∀ i S', W i S' → src S' ∧
  (∀ x, xs[i]? = some x → Pat.put p x (dwipe ρ vs) fun ρ2 => tt ρ2 S' fun b S3 => IFB b (wi1 ρ2 S3 fun ys src1 S4 => ∃ W1 : Nat → Sto → Prop, W1 0 S4 ∧ ∀ j S5, W1 j S5 → src1 S5 ∧
      (∀ z, ys[j]? = some z → Pat.put p1 z (dwipe ρ2 vs1) fun ρ3 => tt1 ρ3 S5 fun b S6 => IFB b (te ρ3 S6 fun d S7 => ∃ acc, S7 D0 = some (.lst acc) ∧ acc.length < sizeLine ∧ W1 (j + 1) (sup S7 D0 (.lst (acc ++ [d])))) (W1 (j + 1) S6)) ∧
      (j = ys.length → W (i + 1) S5)) (W (i + 1) S3)) ∧
  (i = xs.length → Q (.ref D0) S')
theorem lc2_of {wi wi1 : RI} {p p1 : Pat} {tt tt1 : RT} {te : RE} {vs vs1 : List Nat} {σ : L2.St} {H : Hp} {Q : VK} (ha : Pat.all vs p = true) (ha1 : Pat.all vs1 p1 = true) (h : lE X.K y (rLc2 wi p tt wi1 p1 tt1 te vs vs1) σ H Q) :
    tLc2 (lI X.K y wi) (Pat.g X.K p) (lT X.K y0 tt) (lI X.K y0 wi1) (Pat.g X.K p1) (lT X.K y0 tt1) (lE X.K y0 te) vs vs1 σ H Q := by
  obtain ⟨ρ, S, R, sr, so, h, k⟩ := h
  refine ⟨ρ, S, _, sr, so, h, fun xs src S1 J H1 g1 jo hD D0 hDn => ?_⟩
  obtain ⟨W, w0, hs⟩ := hD D0 (g1.ok.free hDn)
  have g0 := Go.newLst g1.ok hDn DVs.nil
  refine ⟨fun i m H2 => ∃ S2, m = xs.length - i ∧ i ≤ xs.length ∧ Go X.K H1 S1 H2 S2 ∧ W i S2, ⟨_, _, rfl, Nat.zero_le _, g0, w0⟩, ?_⟩
  rintro i m H2 ⟨S2, rfl, hi, g2, w2⟩
  obtain ⟨hsrc, hturn, hend⟩ := hs i S2 w2
  obtain ⟨j1, j2⟩ := jo i H2 S2 g2 hsrc
  by_cases hlt : i < xs.length
  · have hx : xs[i]? = some xs[i] := List.getElem?_eq_getElem hlt
    obtain ⟨jg, jy⟩ := j1 _ hx
    refine .inr ⟨jg, fun H3 => ∃ S3, Go X.K H1 S1 H3 S3 ∧ W (i + 1) S3, fun H3 ⟨S3, g3, a4⟩ => ⟨xs.length - (i + 1), by omega, S3, rfl, hlt, g3, a4⟩, fun v H3 hy => ?_⟩
    obtain ⟨g3, dv⟩ := jy v H3 hy
    have gA := g2.trans g3
    refine Pat.ok p _ v _ _ _ ha dv (((sr.go g1).go gA).wipe vs) (hturn _ hx) fun ρ3 σ3 sr3 hw h3 => ⟨by rw [hw, wipe_wipe], ?_⟩
    refine ⟨ρ3, S2, _, sr3, sx0 gA.ok, h3, fun b S4 H4 g4 h4 => ?_⟩
    refine ite_of_IFB h4 (fun z => ⟨ρ3, S4, _, sr3.go g4, sx0 g4.ok, z, fun ys src1 S5 J1 H5 g5 jo1 ⟨W1, w10, hs1⟩ => ?_⟩) fun z => ⟨S4, gA.trans g4, z⟩
    have gB := (gA.trans g4).trans g5
    refine ⟨fun j k H6 => ∃ S6, k = ys.length - j ∧ j ≤ ys.length ∧ Go X.K H5 S5 H6 S6 ∧ W1 j S6, ⟨_, S5, rfl, Nat.zero_le _, Go.refl g5.ok, w10⟩, ?_⟩
    rintro j k H6 ⟨S6, rfl, hj, g6, w6⟩
    obtain ⟨hsrc1, hturn1, hend1⟩ := hs1 j S6 w6
    obtain ⟨i1, i2⟩ := jo1 j H6 S6 g6 hsrc1
    by_cases hlt1 : j < ys.length
    · have hz : ys[j]? = some ys[j] := List.getElem?_eq_getElem hlt1
      obtain ⟨jg1, jy1⟩ := i1 _ hz
      refine .inr ⟨jg1, fun H7 => ∃ S7, Go X.K H5 S5 H7 S7 ∧ W1 (j + 1) S7, fun H7 ⟨S7, g7, a4⟩ => ⟨ys.length - (j + 1), by omega, S7, rfl, hlt1, g7, a4⟩, fun v H7 hy1 => ?_⟩
      obtain ⟨g7, dv7⟩ := jy1 v H7 hy1
      have gC := g6.trans g7
      refine Pat.ok p1 _ v _ _ _ ha1 dv7 ((((sr3.go g4).go g5).go gC).wipe vs1) (hturn1 _ hz) fun ρ4 σ4 sr4 hw4 h5 => ⟨by rw [hw4, wipe_wipe], ?_⟩
      refine ⟨ρ4, S6, _, sr4, sx0 gC.ok, h5, fun b S8 H8 g8 h8 => ?_⟩
      refine ite_of_IFB h8 (fun z => ⟨ρ4, S8, _, sr4.go g8, sx0 g8.ok, z, fun d S9 w H9 g9 dv9 ⟨acc, eD, hl, w9⟩ => ?_⟩) fun z => ⟨S8, gC.trans g8, z⟩
      obtain ⟨ws, hD9, r9⟩ := g9.ok D0 _ eD
      exact ⟨ws, hD9, by rw [← r9.length]; exact hl, _, ((gC.trans g8).trans g9).trans (Go.setLst g9.ok eD (r9.append (DVs.cons dv9 DVs.nil))), w9⟩
    · have e : j = ys.length := by omega
      subst e
      exact .inl ⟨i2 (by simp), S6, gB.trans g6, hend1 rfl⟩
  · have e : i = xs.length := by omega
    subst e
    exact .inl ⟨j2 (by simp), k (.ref D0) _ _ _ (g1.trans g2) rfl (hend rfl)⟩
theorem pd_lc2 {elt tg iter tg1 iter1 : Expr} {ifs ifs1 : List Expr} {scope : Scope} {own : List (Str × Nat)} {vs1 : List Nat} {pos : Pos} {wi wi1 : RI} {p p1 : Pat} {tt tt1 : RT} {te : RE} (hc : X.calm = true) (hN : X.N.Nodup) (hi : PDI X y tg iter wi) (ok : BlkOk X.N X.env.scope scope own)
    (hg : ∀ (s : Shared) (H : Hp) (C : Addr) (cl : List (Str × Addr)) (fp : List Addr), PG (X.blk s H scope (compEnvC scope cl C X.env) fp) tg (Pat.g X.K p)) (ht : ∀ (s : Shared) (H : Hp) (C : Addr) (cl : List (Str × Addr)) (fp : List Addr), PDTs (X.blk s H scope (compEnvC scope cl C X.env) fp) y0 ifs tt)
    (hi1 : ∀ (s : Shared) (H : Hp) (C : Addr) (cl : List (Str × Addr)) (fp : List Addr), PDI (X.blk s H scope (compEnvC scope cl C X.env) fp) y0 tg1 iter1 wi1)
    (hg1 : ∀ (s : Shared) (H : Hp) (C : Addr) (cl : List (Str × Addr)) (fp : List Addr), PG (X.blk s H scope (compEnvC scope cl C X.env) fp) tg1 (Pat.g X.K p1)) (ht1 : ∀ (s : Shared) (H : Hp) (C : Addr) (cl : List (Str × Addr)) (fp : List Addr), PDTs (X.blk s H scope (compEnvC scope cl C X.env) fp) y0 ifs1 tt1)
    (he : ∀ (s : Shared) (H : Hp) (C : Addr) (cl : List (Str × Addr)) (fp : List Addr), PD (X.blk s H scope (compEnvC scope cl C X.env) fp) y0 elt te) (hv1 : ∀ i ∈ vs1, i ∈ own.map (·.2) := by decide) (hv : Pat.all (own.map (·.2)) p = true := by rfl) (hv2 : Pat.all vs1 p1 = true := by rfl) (hs : ∀ x, foldedSetIterable iter X.env x = pure x := by intro _; rfl) (hs1 : ∀ env x, foldedSetIterable iter1 env x = pure x := by intro _ _; rfl) :
    PD X y (.ListComp elt [⟨tg, iter, ifs, 0⟩, ⟨tg1, iter1, ifs1, 0⟩] scope pos) (rLc2 wi p tt wi1 p1 tt1 te (own.map (·.2)) vs1) :=
  PD.of (pe_lc2 (wi1 := lI X.K y0 wi1) (tt := lT X.K y0 tt) (tt1 := lT X.K y0 tt1) (te := lE X.K y0 te) hc hN hi ok hv1 hg ht hi1 hg1 ht1 he hs hs1) fun σ H Q h => lc2_of hv hv2 h
end
end DL
set_option Elab.async false
set_option linter.all false
set_option maxRecDepth 100000
set_option maxHeartbeats 4000000
namespace DL
open PySem PySem.Spec PyProof.Rows L2
/-! ### sizes of fractions -/
def RB (n : Nat) (q : Rat) : Prop := q.num.natAbs < 2 ^ n ∧ q.den < 2 ^ n
theorem lt_up {x a b : Nat} (h : x < 2 ^ a) (hab : a ≤ b) : x < 2 ^ b := Nat.lt_of_lt_of_le h (Nat.pow_le_pow_right (by decide) hab)
theorem RB.mono {n m : Nat} {q : Rat} (h : RB n q) (l : n ≤ m) : RB m q := ⟨lt_up h.1 l, lt_up h.2 l⟩
theorem rb_div {t b : Int} {n : Nat} (hb : 0 < b) (h1 : t.natAbs < 2 ^ n) (h2 : b.natAbs < 2 ^ n) : RB n ((t : Rat) / (b : Rat)) := by
  constructor
  · rw [← low_num hb]
    exact Nat.lt_of_le_of_lt (by rw [Int.natAbs_ediv_of_dvd (Int.natAbs_dvd_natAbs.mp (by rw [Int.natAbs_natCast]; exact Nat.gcd_dvd_left _ _))]; exact Nat.div_le_self _ _) h1
  · have e := low_den (t := t) hb
    have : ((((t : Rat) / (b : Rat)).den : Nat) : Int) ≤ b := by
      rw [← e]
      exact Int.ediv_le_self _ (by omega)
    omega
/-- q is so many N-ths -/
def Ov (N : Int) (q : Rat) : Prop := ∃ k : Int, q = (k : Rat) / (N : Rat)
theorem ratNe {N : Int} (h : 0 < N) : (N : Rat) ≠ 0 := fun z => by
  have := Rat.intCast_inj.mp (z.trans Rat.intCast_zero.symm)
  omega
theorem ratPos {N : Int} (h : 0 < N) : (0 : Rat) < (N : Rat) := by
  have := Rat.intCast_lt_intCast.mpr h
  simpa using this
theorem ov_add {N : Int} (h : 0 < N) {a b : Rat} (ha : Ov N a) (hb : Ov N b) : Ov N (a + b) := by
  obtain ⟨k, rfl⟩ := ha
  obtain ⟨l, rfl⟩ := hb
  refine ⟨k + l, ?_⟩
  rw [Rat.intCast_add]
  have := ratNe h
  grind
theorem ov_mul {N M : Int} (h : 0 < N) (h' : 0 < M) {a b : Rat} (ha : Ov N a) (hb : Ov M b) : Ov (N * M) (a * b) := by
  obtain ⟨k, rfl⟩ := ha
  obtain ⟨l, rfl⟩ := hb
  refine ⟨k * l, ?_⟩
  rw [Rat.intCast_mul, Rat.intCast_mul]
  have := ratNe h
  have := ratNe h'
  grind
theorem ov_zero (N : Int) : Ov N 0 := ⟨0, by rw [Rat.intCast_zero, Rat.div_def, Rat.zero_mul]⟩
theorem ov_one {N : Int} (h : 0 < N) : Ov N 1 := ⟨N, by have := ratNe h; grind⟩
theorem ov_rb {N : Int} (h : 0 < N) {n : Nat} (hn : N.natAbs < 2 ^ n) {q : Rat} (o : Ov N q) (h0 : 0 ≤ q) (h1 : q ≤ 1) : RB n q := by
  obtain ⟨k, rfl⟩ := o
  have hp := ratPos h
  have e : ((k : Rat) / (N : Rat)) * (N : Rat) = (k : Rat) := by
    have := ratNe h
    grind
  have k0 : 0 ≤ k := by
    have : (0 : Rat) ≤ (k : Rat) := by rw [← e]; exact Rat.mul_nonneg h0 (Rat.le_of_lt hp)
    exact Rat.intCast_le_intCast.mp (by simpa using this)
  have k1 : k ≤ N := by
    have : (k : Rat) ≤ (N : Rat) := by
      rw [← e]
      have := Rat.mul_le_mul_of_nonneg_right h1 (Rat.le_of_lt hp)
      simpa using this
    exact Rat.intCast_le_intCast.mp this
  exact rb_div h (by omega) hn
/-! ### shares -/
def shD (qs : List Rat) : D := .tup (qs.map fr)
structure Sh (N : Int) (qs : List Rat) : Prop where
  pos : 0 < N
  ne : qs ≠ []
  all : ∀ q ∈ qs, 0 < q ∧ Ov N q
  sum : qs.sum = 1
theorem sum_nonneg : ∀ {qs : List Rat}, (∀ q ∈ qs, (0 : Rat) ≤ q) → 0 ≤ qs.sum
  | [], _ => by simp
  | q :: qs, h => by
    have h1 := h q List.mem_cons_self
    have h2 := sum_nonneg (qs := qs) fun x hx => h x (List.mem_cons_of_mem _ hx)
    rw [List.sum_cons]
    grind
theorem mem_le_sum : ∀ {qs : List Rat}, (∀ q ∈ qs, (0 : Rat) ≤ q) → ∀ q ∈ qs, q ≤ qs.sum
  | x :: qs, h, q, hq => by
    have h1 := h x List.mem_cons_self
    have hs : ∀ q ∈ qs, (0 : Rat) ≤ q := fun y hy => h y (List.mem_cons_of_mem _ hy)
    have h2 := sum_nonneg hs
    rw [List.sum_cons]
    rcases List.mem_cons.mp hq with rfl | hq
    · grind
    · have := mem_le_sum hs q hq
      grind
theorem take_le_sum {qs : List Rat} (h : ∀ q ∈ qs, (0 : Rat) ≤ q) (i : Nat) : (qs.take i).sum ≤ qs.sum := by
  have e : qs.sum = (qs.take i).sum + (qs.drop i).sum := by rw [← List.sum_append, List.take_append_drop]
  have := sum_nonneg (qs := qs.drop i) fun q hq => h q (List.mem_of_mem_drop hq)
  grind
theorem ov_sum {N : Int} (hN : 0 < N) : ∀ {qs : List Rat}, (∀ q ∈ qs, Ov N q) → Ov N qs.sum
  | [], _ => by simpa using ov_zero N
  | q :: qs, h => by
    rw [List.sum_cons]
    exact ov_add hN (h q List.mem_cons_self) (ov_sum hN fun x hx => h x (List.mem_cons_of_mem _ hx))
theorem Sh.le1 {N : Int} {qs : List Rat} (s : Sh N qs) {q : Rat} (h : q ∈ qs) : q ≤ 1 := s.sum ▸ mem_le_sum (fun x hx => Rat.le_of_lt (s.all x hx).1) q h
theorem Sh.rb {N : Int} {qs : List Rat} (s : Sh N qs) {n : Nat} (hn : N.natAbs < 2 ^ n) {q : Rat} (h : q ∈ qs) : RB n q := ov_rb s.pos hn (s.all q h).2 (Rat.le_of_lt (s.all q h).1) (s.le1 h)
/-! ### equal fractions -/
theorem pyr_fr {S : Sto} (q : Rat) : PyR S (fr q) (.tuple [.int q.num, .int (q.den : Int)]) := .tup (.cons (.int _) (.cons (.int _) .nil))
theorem eq_fr {S : Sto} {R : D → Sto → Prop} (q : Rat) (h : R (.bl true) S) : dEqG false (fr q) (fr q) S R :=
  ⟨_, _, pyr_fr q, pyr_fr q, rfl, rfl, by
    have : PyData.eqv (.tuple [.int q.num, .int (q.den : Int)]) (.tuple [.int q.num, .int (q.den : Int)]) = true := SeqAt.eqv_refl _ rfl
    rw [if_neg (by decide), this]; exact h⟩
theorem fr1 : D.tup [.int 1, .int 1] = fr 1 := rfl
theorem fr0 : D.tup [.int 0, .int 1] = fr 0 := rfl
end DL
namespace DL
open PySem PySem.Spec PyProof.Rows L2
/-! ### things put together: shares with marks -/
def sel (ps : List (Rat × Bool)) : List Rat := (ps.filter (·.2)).map (·.1)
def tog (T : Rat) (ps : List (Rat × Bool)) : List Rat := match ps with
  | [] => []
  | (q, false) :: ps => q :: tog T ps
  | (_, true) :: ps => T :: (ps.filter (!·.2)).map (·.1)
def idx (k : Nat) : List (Rat × Bool) → List Nat
  | [] => []
  | (_, b) :: ps => if b then k :: idx (k + 1) ps else idx (k + 1) ps
theorem tog_push (T : Rat) (x : Rat × Bool) : ∀ ps, tog T (ps ++ [x]) = tog T ps ++ (if x.2 then (if ps.any (·.2) then [] else [T]) else [x.1])
  | [] => by
    obtain ⟨q, b⟩ := x
    cases b <;> rfl
  | (q, false) :: ps => by
    show q :: tog T (ps ++ [x]) = q :: (tog T ps ++ _)
    rw [tog_push T x ps]
    rfl
  | (q, true) :: ps => by
    show T :: ((ps ++ [x]).filter (!·.2)).map (·.1) = T :: ((ps.filter (!·.2)).map (·.1) ++ _)
    rw [List.filter_append, List.map_append]
    obtain ⟨r, b⟩ := x
    cases b <;> rfl
theorem idx_ge : ∀ (ps : List (Rat × Bool)) (k i : Nat), i ∈ idx k ps → k ≤ i
  | [], _, _, h => by cases h
  | (q, b) :: ps, k, i, h => by
    unfold idx at h
    cases b with
    | false => exact Nat.le_of_succ_le (idx_ge ps (k + 1) i (by simpa using h))
    | true =>
      rcases List.mem_cons.mp (by simpa using h) with rfl | h
      · exact Nat.le_refl _
      · exact Nat.le_of_succ_le (idx_ge ps (k + 1) i h)
theorem idx_mem : ∀ (ps : List (Rat × Bool)) (k j : Nat), (k + j ∈ idx k ps) ↔ ∃ q, ps[j]? = some (q, true)
  | [], k, j => by simp [idx]
  | (q, b) :: ps, k, 0 => by
    have : ¬ k ∈ idx (k + 1) ps := fun z => by have := idx_ge ps _ _ z; omega
    unfold idx
    cases b <;> simp [this]
  | (q, b) :: ps, k, j + 1 => by
    have := idx_mem ps (k + 1) j
    rw [show k + 1 + j = k + (j + 1) by omega] at this
    unfold idx
    cases b with
    | false => simpa using this
    | true => simpa using this
theorem idx_head : ∀ (ps : List (Rat × Bool)) (k j : Nat), (idx k ps).head? = some (k + j) ↔ (∃ q, ps[j]? = some (q, true)) ∧ (ps.take j).any (·.2) = false
  | [], k, j => by simp [idx]
  | (q, b) :: ps, k, 0 => by
    unfold idx
    cases b with
    | false =>
      have : ¬ (idx (k + 1) ps).head? = some k := fun z => by
        have := idx_ge ps _ _ (List.mem_of_mem_head? z)
        omega
      simpa using this
    | true => simp
  | (q, b) :: ps, k, j + 1 => by
    have := idx_head ps (k + 1) j
    rw [show k + 1 + j = k + (j + 1) by omega] at this
    unfold idx
    cases b with
    | false => simpa using this
    | true => simp
theorem idx_append : ∀ (as bs : List (Rat × Bool)) (k : Nat), idx k (as ++ bs) = idx k as ++ idx (k + as.length) bs
  | [], bs, k => rfl
  | (q, b) :: as, bs, k => by
    show (if b then k :: idx (k + 1) (as ++ bs) else idx (k + 1) (as ++ bs)) = (if b then k :: idx (k + 1) as else idx (k + 1) as) ++ _
    rw [idx_append as bs (k + 1), List.length_cons, show k + 1 + as.length = k + (as.length + 1) by omega]
    cases b <;> simp
theorem idx_get : ∀ (ps : List (Rat × Bool)) (k : Nat), (idx k ps).map (fun i => (ps.map (·.1))[i - k]?) = (sel ps).map some
  | [], _ => rfl
  | (q, b) :: ps, k => by
    have ih := idx_get ps (k + 1)
    have e : (idx (k + 1) ps).map (fun i => (((q, b) :: ps).map (·.1))[i - k]?) = (idx (k + 1) ps).map (fun i => (ps.map (·.1))[i - (k + 1)]?) := by
      apply List.map_congr_left
      intro i hi
      have := idx_ge ps _ _ hi
      rw [List.map_cons, show i - k = (i - (k + 1)) + 1 by omega]
      rfl
    unfold idx sel
    cases b with
    | false => simpa [sel] using e.trans ih
    | true => simpa [sel] using e.trans ih
theorem tog_sum : ∀ (ps : List (Rat × Bool)), ps.any (·.2) = true → (tog (sel ps).sum ps).sum = (ps.map (·.1)).sum := by
  have key : ∀ ps : List (Rat × Bool), ((ps.filter (!·.2)).map (·.1)).sum + (sel ps).sum = (ps.map (·.1)).sum := by
    intro ps
    induction ps with
    | nil => simp [sel]; try grind
    | cons x ps ih =>
      obtain ⟨q, b⟩ := x
      cases b <;> simp [sel] at ih ⊢ <;> grind
  have gen : ∀ (T : Rat) (ps : List (Rat × Bool)), ps.any (·.2) = true → (tog T ps).sum = T + ((ps.filter (!·.2)).map (·.1)).sum := by
    intro T ps
    induction ps with
    | nil => intro h; cases h
    | cons x ps ih =>
      intro h
      obtain ⟨q, b⟩ := x
      cases b with
      | true => simp [tog]
      | false =>
        have := ih (by simpa using h)
        simp [tog, this]
        grind
  intro ps h
  rw [gen _ _ h, ← key ps]
  grind
theorem sel_mem {ps : List (Rat × Bool)} {q : Rat} (h : q ∈ sel ps) : q ∈ ps.map (·.1) := by
  unfold sel at h
  obtain ⟨x, hx, rfl⟩ := List.mem_map.mp h
  exact List.mem_map.mpr ⟨x, (List.mem_filter.mp hx).1, rfl⟩
theorem sel_le {ps : List (Rat × Bool)} (h : ∀ q ∈ ps.map (·.1), (0 : Rat) ≤ q) : (sel ps).sum ≤ (ps.map (·.1)).sum := by
  induction ps with
  | nil => simp [sel]
  | cons x ps ih =>
    obtain ⟨q, b⟩ := x
    have h0 := h q (by simp)
    have := ih fun q hq => h q (List.mem_cons_of_mem _ hq)
    cases b <;> simp [sel] at this ⊢ <;> grind
theorem tog_mem {T : Rat} : ∀ {ps : List (Rat × Bool)} {q : Rat}, q ∈ tog T ps → q = T ∨ q ∈ ps.map (·.1)
  | [], _, h => by cases h
  | (r, false) :: ps, q, h => by
    rcases List.mem_cons.mp (show q ∈ r :: tog T ps from h) with rfl | h
    · exact .inr (by simp)
    · rcases tog_mem h with h | h
      · exact .inl h
      · exact .inr (List.mem_cons_of_mem _ h)
  | (r, true) :: ps, q, h => by
    rcases List.mem_cons.mp (show q ∈ T :: (ps.filter (!·.2)).map (·.1) from h) with rfl | h
    · exact .inl rfl
    · obtain ⟨x, hx, rfl⟩ := List.mem_map.mp h
      exact .inr (List.mem_cons_of_mem _ (List.mem_map.mpr ⟨x, (List.mem_filter.mp hx).1, rfl⟩))
theorem Sh.tog {N : Int} {ps : List (Rat × Bool)} (s : Sh N (ps.map (·.1))) (h : ps.any (·.2) = true) : Sh N (DL.tog (sel ps).sum ps) := by
  refine ⟨s.pos, fun z => ?_, fun q hq => ?_, by rw [tog_sum ps h]; exact s.sum⟩
  · have := tog_sum ps h
    rw [z, s.sum] at this
    simp at this
  · rcases tog_mem hq with rfl | hq
    · refine ⟨?_, ov_sum s.pos fun q hq => (s.all q (sel_mem hq)).2⟩
      obtain ⟨x, hx, hb⟩ := List.any_eq_true.mp h
      have hm : x.1 ∈ sel ps := List.mem_map.mpr ⟨x, List.mem_filter.mpr ⟨hx, hb⟩, rfl⟩
      have h1 := (s.all _ (sel_mem hm)).1
      have h2 := mem_le_sum (fun q hq => Rat.le_of_lt (s.all q (sel_mem hq)).1) _ hm
      grind
    · exact s.all q hq
/-! ### both -/
def prods (as bs : List Rat) : List Rat := as.flatMap fun a => bs.map fun b => a * b
theorem sum_mul (a : Rat) : ∀ bs : List Rat, (bs.map fun b => a * b).sum = a * bs.sum
  | [] => by simp
  | b :: bs => by
    rw [List.map_cons, List.sum_cons, List.sum_cons, sum_mul a bs]
    grind
theorem prods_sum (bs : List Rat) : ∀ as : List Rat, (prods as bs).sum = as.sum * bs.sum
  | [] => by simp [prods]
  | a :: as => by
    have := prods_sum bs as
    unfold prods at this ⊢
    rw [List.flatMap_cons, List.sum_append, this, sum_mul, List.sum_cons]
    grind
theorem Sh.prods {N M : Int} {as bs : List Rat} (s : Sh N as) (t : Sh M bs) : Sh (N * M) (DL.prods as bs) := by
  refine ⟨Int.mul_pos s.pos t.pos, fun z => ?_, fun q hq => ?_, by rw [prods_sum, s.sum, t.sum]; grind⟩
  · have := prods_sum bs as
    rw [z, s.sum, t.sum] at this
    simp at this
  · unfold DL.prods at hq
    obtain ⟨a, ha, hq⟩ := List.mem_flatMap.mp hq
    obtain ⟨b, hb, rfl⟩ := List.mem_map.mp hq
    exact ⟨Rat.mul_pos (s.all a ha).1 (t.all b hb).1, ov_mul s.pos t.pos (s.all a ha).2 (t.all b hb).2⟩

theorem const_tup2 {K : PySem.W.Frag} {z : Addr} {od : Option Addr} {i j : Int} {t u : Tok} {n : Nat} {sl : Array (Option Value)} (l : K.lookup z = some ⟨.type "tuple", od, .seq #[.int i t, .int j u] n, sl⟩) : ∀ H, DV K H (.tup [.int i, .int j]) (.ref z) := fun H =>
  ⟨z, [.int i, .int j], rfl, .inr ⟨_, _, _, l, rfl, rfl, (show 2 ≤ 16777216 by decide), .cons ⟨_, rfl⟩ (.cons ⟨_, rfl⟩ .nil)⟩, DVs.cons rfl (DVs.cons rfl DVs.nil)⟩
def nts (ts : List Nat) : D := .tup (ts.map fun (t : Nat) => D.int (t : Int))
theorem inD_nat (i : Nat) (ts : List Nat) : inD (.int (i : Int)) (ts.map fun (t : Nat) => D.int (t : Int)) = decide (i ∈ ts) := by
  induction ts with
  | nil => rfl
  | cons t ts ih =>
    unfold inD inV at ih ⊢
    simp only [List.map_cons, List.any_cons] at ih ⊢
    rw [ih]
    have : eqV (fl (.int (t : Int))) (fl (.int (i : Int))) = decide (i = t) := by
      show ((t : Int) == (i : Int)) = decide (i = t)
      by_cases h : i = t
      · subst h; simp
      · rw [decide_eq_false h]; simp; omega
    rw [this]
    simp
end DL
namespace DL
theorem fr_at {qs : List Rat} {i : Nat} {x : D} (h : (qs.map fr)[i]? = some x) : ∃ q, qs[i]? = some q ∧ x = fr q := by
  rw [List.getElem?_map] at h
  cases e : qs[i]? with
  | none => rw [e] at h; cases h
  | some q => rw [e] at h; exact ⟨q, rfl, (Option.some.inj h).symm⟩
theorem take_succ_sum {qs : List Rat} {i : Nat} {q : Rat} (h : qs[i]? = some q) : (qs.take (i + 1)).sum = (qs.take i).sum + q := by
  rw [List.take_succ, h, List.sum_append]
  simp only [Option.toList_some, List.sum_cons, List.sum_nil]
  grind

theorem idx_len : ∀ (ps : List (Rat × Bool)) (k : Nat), (idx k ps).length ≤ ps.length
  | [], _ => Nat.le_refl _
  | (q, b) :: ps, k => by
    have := idx_len ps (k + 1)
    unfold idx
    cases b <;> simp <;> omega
theorem idx_lt (ps : List (Rat × Bool)) (t : Nat) (h : t ∈ idx 0 ps) : t < ps.length := by
  obtain ⟨q, hq⟩ := (idx_mem ps 0 t).mp (by rw [Nat.zero_add]; exact h)
  cases Nat.lt_or_ge t ps.length with
  | inl h => exact h
  | inr h2 => rw [List.getElem?_eq_none h2] at hq; cases hq
theorem idx_asc : ∀ (ps : List (Rat × Bool)) (k : Nat), (idx k ps).Pairwise (· < ·)
  | [], _ => .nil
  | (q, b) :: ps, k => by
    have := idx_asc ps (k + 1)
    unfold idx
    cases b with
    | false => simpa using this
    | true => exact .cons (fun i hi => idx_ge ps _ _ hi) this
theorem idx_ne {ps : List (Rat × Bool)} (h : ps.any (·.2) = true) : idx 0 ps ≠ [] := fun z => by
  obtain ⟨x, hx, hb⟩ := List.any_eq_true.mp h
  obtain ⟨j, hj, rfl⟩ := List.mem_iff_getElem.mp hx
  have := (idx_mem ps 0 j).mpr ⟨ps[j].1, by rw [List.getElem?_eq_getElem hj, ← hb]⟩
  rw [z] at this
  cases this
theorem tog_len (T : Rat) : ∀ ps : List (Rat × Bool), (tog T ps).length ≤ ps.length
  | [] => Nat.le_refl _
  | (q, false) :: ps => by
    have := tog_len T ps
    show (q :: tog T ps).length ≤ _
    simp; omega
  | (q, true) :: ps => by
    have := List.length_filter_le (fun x : Rat × Bool => !x.2) ps
    show (T :: (ps.filter (!·.2)).map (·.1)).length ≤ _
    simp; omega
def pickD (qs : List Rat) : D → D
  | .int t => fr (qs[t.toNat]?.getD 0)
  | d => d
def mulD (a : Rat) : D → D
  | .tup [.int n, .int m] => fr (a * ((n : Rat) / (m : Rat)))
  | d => d
theorem mulD_fr (a q : Rat) : mulD a (fr q) = fr (a * q) := by
  show fr (a * ((q.num : Rat) / (((q.den : Nat) : Int) : Rat))) = fr (a * q)
  rw [num_div_den']
theorem sel_vals (ps : List (Rat × Bool)) : ((idx 0 ps).map fun (t : Nat) => D.int (t : Int)).map (pickD (ps.map (·.1))) = (sel ps).map fr := by
  have h := idx_get ps 0
  rw [List.map_map]
  have e : (idx 0 ps).map (fun (t : Nat) => fr ((ps.map (·.1))[t]?.getD 0)) = ((idx 0 ps).map fun i => (ps.map (·.1))[i - 0]?).map fun o => fr (o.getD 0) := by rw [List.map_map]; rfl
  have e2 : ((sel ps).map some).map (fun o => fr (o.getD 0)) = (sel ps).map fr := by rw [List.map_map]; rfl
  rw [← e2, ← h, ← e]
  rfl
theorem prods_len (as bs : List Rat) : (prods as bs).length = as.length * bs.length := by
  unfold prods
  induction as with
  | nil => simp
  | cons a as ih => rw [List.flatMap_cons, List.length_append, ih, List.length_map, List.length_cons, Nat.succ_mul]; omega

theorem trues {xs : List D} : (xs.map fun _ => D.bl true) = (xs.map fun _ => true).map D.bl := by rw [List.map_map]; rfl
theorem num_pos' {q : Rat} (h : 0 < q) : 0 < q.num := by
  have h1 := Rat.num_nonneg.mpr (Rat.le_of_lt h)
  rcases Int.lt_or_eq_of_le h1 with h2 | h2
  · exact h2
  · have := num_div_den' q
    rw [← h2, Rat.intCast_zero, Rat.div_def, Rat.zero_mul] at this
    rw [← this] at h
    exact absurd h (by decide +kernel)

theorem sameD.ext : ∀ {n : Nat} {S S' : Sto} {x y : D}, sameD S n x y → Ext S S' → sameD S' n x y
  | 0, _, _, _, _, h, _ => h.elim
  | n + 1, S, S', x, y, h, e => by
    have lst : (∃ xs ys, RdL S y xs ∧ RdL S x ys ∧ ys.length = xs.length ∧ xs.length < 1000000 ∧ ∀ (i : Nat) u v, ys[i]? = some u → xs[i]? = some v → sameD S n u v) →
        ∃ xs ys, RdL S' y xs ∧ RdL S' x ys ∧ ys.length = xs.length ∧ xs.length < 1000000 ∧ ∀ (i : Nat) u v, ys[i]? = some u → xs[i]? = some v → sameD S' n u v :=
      fun ⟨xs, ys, hx, hy, hl, hb, hq⟩ => ⟨xs, ys, e.rd hx, e.rd hy, hl, hb, fun i u v h1 h2 => (hq i u v h1 h2).ext e⟩
    cases y with
    | non => exact h
    | bl b => exact h
    | int b => exact h
    | str b => exact h
    | tup xs =>
      obtain ⟨ys, h1, hl, hb, hq⟩ := h
      exact ⟨ys, h1, hl, hb, fun i u v h1 h2 => (hq i u v h1 h2).ext e⟩
    | ty _ => exact lst h
    | ref _ => exact lst h
    | fro _ => exact lst h
    | exc _ _ => exact lst h
end DL
set_option Elab.async false
set_option linter.all false
set_option maxRecDepth 100000
set_option maxHeartbeats 4000000
namespace DL
open PySem PySem.Spec PyProof.Rows L2
section
variable {X : Cx} {y : DXw}
/-! ### list.pop(i), zip of lists, range with a step, is True -/
def dPopAt : RMt := fun o ds S R => match o, ds with
  | .ref a, [.int i] => ∃ xs k d, S a = some (.lst xs) ∧ -(2 ^ 63) ≤ i ∧ i < 2 ^ 63 ∧ seqIndex? i xs.length = some k ∧ xs[k]? = some d ∧ R d (sup S a (.lst (xs.eraseIdx k)))
  | _, _ => False
theorem DVs.eraseIdx {K : PySem.W.Frag} {H : Hp} : ∀ {ds : List D} {vs : List V} (k : Nat), DVs K H ds vs → DVs K H (ds.eraseIdx k) (vs.eraseIdx k)
  | [], vs, k, h => by cases (show vs = [] from h); exact rfl
  | d :: ds, vs, 0, h => by
    obtain ⟨v, ws, rfl, _, h2⟩ := h
    exact h2
  | d :: ds, vs, k + 1, h => by
    obtain ⟨v, ws, rfl, h1, h2⟩ := h
    exact ⟨v, _, rfl, h1, DVs.eraseIdx k h2⟩
theorem md_popAt : MtR X "list.pop" (lmt X.K dPopAt) := by
  intro pins s σ H v vs vv us Q I rv rs h
  obtain ⟨o, ds, S, R, dv, dvs, so, h, k⟩ := h
  refine mt_popAt pins s σ H v vs vv us Q I rv rs ?_
  unfold dPopAt at h
  split at h
  · rename_i a i
    obtain ⟨xs, j, d, e, h1, h2, h3, h4, h⟩ := h
    cases (show v = V.ref a from dv)
    obtain ⟨w, ws, rfl, dw, q⟩ := dvs
    cases (show ws = [] from q)
    cases (show w = V.int i from dw)
    obtain ⟨zs, e1, r⟩ := so a _ e
    obtain ⟨z, hz, dz⟩ := r.get h4
    have g := Go.setLst so e (r.eraseIdx j)
    exact ⟨a, zs, i, j, z, rfl, rfl, e1, h1, h2, by rw [← r.length]; exact h3, hz, k d _ z _ g (DV.wr e1 (.inl ⟨_, rfl⟩) _ _ dz) h⟩
  · exact h.elim
def dIsB : ROp
  | .bl a, .bl b, S, R => R (.bl (decide (a = b))) S
  | _, _, _, _ => False
def dNotB : ROp
  | .bl a, .bl b, S, R => R (.bl (!decide (a = b))) S
  | _, _, _, _ => False
theorem od_isB : OpR X (compareOp .Is) (lop X.K dIsB) := by
  intro pins s σ H v w vv ww Q I rv rw' h
  obtain ⟨x, z, S, R, dx, dy, so, h, k⟩ := h
  refine op_isBl pins s σ H v w vv ww Q I rv rw' ?_
  cases x <;> cases z <;> first | exact False.elim h | skip
  case bl.bl a b => exact ⟨a, b, dx, dy, k (.bl (decide (a = b))) S _ H (Go.refl so) rfl h⟩
theorem od_notB : OpR X (compareOp .IsNot) (lop X.K dNotB) := by
  intro pins s σ H v w vv ww Q I rv rw' h
  obtain ⟨x, z, S, R, dx, dy, so, h, k⟩ := h
  refine op_notBl pins s σ H v w vv ww Q I rv rw' ?_
  cases x <;> cases z <;> first | exact False.elim h | skip
  case bl.bl a b => exact ⟨a, b, dx, dy, k (.bl (!decide (a = b))) S _ H (Go.refl so) rfl h⟩
/-- range(i, j, c) of n items -/
def rgC (lo c : Int) (n : Nat) : List D := (List.range n).map fun (i : Nat) => D.int (lo + (i : Int) * c)
def rRng3 (ta : RA) : RI := fun ρ S R => ta ρ S fun ds S1 => match ds with
  | [.int i, .int j, .int c] => ∃ n : Nat, RgC i j c n ∧ R (rgC i c n) (fun _ => True) S1
  | _ => False
theorem jok_rangeC {K : PySem.W.Frag} {H1 : Hp} {S1 : Sto} {lo c : Int} {n : Nat} : JOk K H1 S1 (Itc lo c n) (rgC lo c n) (fun _ => True) := by
  intro i H S g _
  unfold rgC
  refine ⟨fun x hx => ?_, fun hn => ?_⟩
  · rw [List.getElem?_map] at hx
    by_cases hi : i < n
    · rw [List.getElem?_range hi] at hx
      cases (Option.some.inj hx)
      exact ⟨hi, fun v H' ⟨e1, e2⟩ => by subst e1 e2; exact ⟨Go.refl g.ok, rfl⟩⟩
    · rw [List.getElem?_eq_none (by simpa using hi)] at hx; cases hx
  · rw [List.getElem?_eq_none_iff] at hn
    have : n ≤ i := by simpa using hn
    exact this
theorem pdi_range3 {tg a b c : Expr} {ta : RA} {p pos : Pos} (hm : X.mg "range" = none) (ha : PDA X y [a, b, c] ta) (hg : Gl X "range" := by rfl) (hs : starEach [a, b, c] X.env = (false, eval a X.env) :: starEach [b, c] X.env := by rfl) (hpl : (backTo pos (starEach [b, c] X.env)).any (·.1) = false := by rfl) :
    PDI X y tg (.Call (.Name "range" p) [a, b, c] [] pos) (rRng3 ta) := by
  refine PDI.of (pi_range3 hg hm ha hs hpl) fun σ H R h => ?_
  obtain ⟨ρ, S, Rd, sr, so, h, k⟩ := h
  refine ⟨ρ, S, _, sr, so, h, fun ds S1 vs H1 g dvs hn h1 => ?_⟩
  split at h1
  · rename_i i j c
    obtain ⟨v, ws, rfl, dv, v2, ws2, rfl, dv2, v3, ws3, rfl, dv3, q⟩ := dvs
    cases (show ws3 = [] from q)
    cases (show v = V.int i from dv)
    cases (show v2 = V.int j from dv2)
    cases (show v3 = V.int c from dv3)
    obtain ⟨n, h2, h3⟩ := h1
    exact ⟨i, j, c, n, rfl, h2, k _ _ _ _ _ g jok_rangeC h3⟩
  · exact h1.elim
/-- zip of two lists: as they stand at each turn -/
def zpD (xs zs : List D) : List D := (xs.zip zs).map fun p => D.tup [p.1, p.2]
def rZip (ta : RA) : RI := fun ρ S R => ta ρ S fun ds S1 => match ds with
  | [d, e] => ∃ xs zs, RdL S1 d xs ∧ RdL S1 e zs ∧ R (zpD xs zs) (fun S' => RdL S' d xs ∧ RdL S' e zs) S1
  | _ => False
theorem jok_zip {K : PySem.W.Frag} {H1 : Hp} {S1 : Sto} {d e : D} {v w : V} {a b : Addr} {xs zs : List D} (dv : DV K H1 d v) (dw : DV K H1 e w) (ev : v = .ref a) (ew : w = .ref b) : JOk K H1 S1 (Itz K a b) (zpD xs zs) (fun S' => RdL S' d xs ∧ RdL S' e zs) := by
  intro i H S g hr
  obtain ⟨a', vs, e1, q1, r1⟩ := RdL.sq g.ok hr.1 (DV.go g _ _ dv)
  obtain ⟨b', ws, e2, q2, r2⟩ := RdL.sq g.ok hr.2 (DV.go g _ _ dw)
  rw [ev] at e1; cases e1
  rw [ew] at e2; cases e2
  unfold zpD
  refine ⟨fun x hx => ?_, fun hn => ⟨vs, ws, q1, q2, ?_⟩⟩
  · rw [List.getElem?_map] at hx
    cases ez : (xs.zip zs)[i]? with
    | none => rw [ez] at hx; cases hx
    | some p =>
      rw [ez] at hx
      cases (Option.some.inj hx)
      obtain ⟨p1, p2⟩ := p
      obtain ⟨hx1, hx2⟩ := List.getElem?_zip_eq_some.mp ez
      obtain ⟨u, hu, du⟩ := r1.get hx1
      obtain ⟨t, ht, dt⟩ := r2.get hx2
      refine ⟨⟨vs, ws, u, t, q1, q2, hu, ht⟩, fun v' H' ⟨T, x1, y1, ev', hT, eH, ha, hb⟩ => ?_⟩
      have f1 := ha vs q1
      have f2 := hb ws q2
      rw [hu] at f1
      rw [ht] at f2
      cases (Option.some.inj f1)
      cases (Option.some.inj f2)
      subst ev' eH
      have g2 := Go.new (K := K) (o := .tup [u, t]) g.ok hT
      exact ⟨g2, T, _, rfl, .inl upd_same, DVs.cons (DV.go g2 _ _ du) (DVs.cons (DV.go g2 _ _ dt) DVs.nil)⟩
  · rw [List.getElem?_eq_none_iff, List.length_map, List.length_zip] at hn
    rw [← r1.length, ← r2.length]
    omega
theorem pdi_zip {e e2 : Expr} {ta : RA} {p pos tpos : Pos} {elts : List Expr} {kk : Nat} (hm : X.mg "zip" = none) (ha : PDA X y [e, e2] ta) (hg : Gl X "zip" := by rfl)
    (hs : starEach [e, e2] X.env = (false, eval e X.env) :: starEach [e2] X.env := by rfl) (hpl : (backTo pos (starEach [e2] X.env)).any (·.1) = false := by rfl) :
    PDI X y (.Tuple elts kk tpos) (.Call (.Name "zip" p) [e, e2] [] pos) (rZip ta) := by
  refine PDI.of (pi_zip hg hm ha hs hpl) fun σ H R h => ?_
  obtain ⟨ρ, S, Rd, sr, so, h, k⟩ := h
  refine ⟨ρ, S, _, sr, so, h, fun ds S1 vs H1 g dvs hn h1 => ?_⟩
  split at h1
  · rename_i d1 d2
    obtain ⟨v, ws, rfl, dv, v2, ws2, rfl, dv2, q⟩ := dvs
    cases (show ws2 = [] from q)
    obtain ⟨xs, zs, hx, hz, h1⟩ := h1
    obtain ⟨a, us, rfl, q1, r1⟩ := hx.sq g.ok dv
    obtain ⟨b, ts, rfl, q2, r2⟩ := hz.sq g.ok dv2
    exact ⟨a, b, us, ts, rfl, q1, q2, k _ _ _ _ _ g (jok_zip dv dv2 rfl rfl) h1⟩
  · exact h1.elim

/-! ### sorted(set(list of ints)) -/
end
section
variable {P : Program} {w : World} {A : Around} {E : Value → Shared → Prop} {s : Shared}
theorem call_set_listI {l : Addr} {items : Array Value} (ns : List Int) {Q : Value → Shared → Prop} (hh : A.handled = none) (hl : s.heap.IsList l items) (hit : IntsAre items.toList ns) (hb : ns.length + 1 < scanBound)
    (h : ∀ (h' : Heap) (tk c : Nat), SetR w h' s.heap.objs.size (fun j => decide (j ∈ ns)) c → c ≤ ns.length → (∀ b o, s.heap.get? b = some o → h'.get? b = some o) → Q (.ref s.heap.objs.size) { s with heap := h', toks := tk }) :
    wpAny (model P w) A (call (.type "set") [.ref l]) Q E s := by
  have hisz : items.size = ns.length := by
    have q := IntsAre.length hit
    rw [Array.length_toList] at q
    exact q
  obtain ⟨c, tl, hmro⟩ := F.called_set.mro
  have hmade := F.called_set.made
  have hsub := F.called_set.sub
  refine wpAny_call (codeAny_of_tree ?_)
  show wpAny _ _ (callAny (.type "set") _) _ _ _
  refine wpAny_pure ⟨Code.quiet_builtin _ (by decide +kernel), codeAny_builtin F.entry_type_call ?_⟩
  rw [Around.under_plain (weight_type_call_type "set" [.ref l] []) rfl]
  have h1 := F.called_set.notType
  have h2 := F.called_set.canCreate
  have hct := F.typeCall_set_1 (.ref l)
  repeat (any_goals (first | assumption | wp_step))
  refine codeAny_mono (code_set_led1 (.ref l) (E := E) (Q₁ := fun obj s₁ => obj = .ref s.heap.objs.size ∧ s₁ = { s with heap := s.heap.push { cls := .type "set", dict := none, data := .set #[] 0 (.fresh 0 0 (!w.params.followText "set-order")) } }) ⟨rfl, rfl⟩) fun r s₁ hr => ?_
  cases r with
  | error e => exact hr
  | ok fl =>
    cases fl with
    | ret obj =>
      obtain ⟨rfl, rfl⟩ := hr
      obtain ⟨h0, eh0⟩ : ∃ h0, h0 = s.heap.push { cls := .type "set", dict := none, data := .set #[] 0 (.fresh 0 0 (!w.params.followText "set-order")) } := ⟨_, rfl⟩
      rw [← eh0]
      have hS : h0.get? s.heap.objs.size = some { cls := .type "set", dict := none, data := .set #[] 0 (.fresh 0 0 (!w.params.followText "set-order")) } := by rw [eh0]; exact Heap.get?_push_size _ rfl
      have hz0 : h0.objs.size = s.heap.objs.size + 1 := by rw [eh0]; exact Heap.size_push ..
      have keep0 : ∀ b o, s.heap.get? b = some o → h0.get? b = some o := fun b o e => by rw [eh0]; exact Heap.get?_push_of_some _ e
      have hT : Shared.TypeIs { s with heap := h0 } (.ref s.heap.objs.size) "set" := ⟨_, hS, rfl⟩
      have hli := F.called_set.init.lookup
      have hbi := F.called_set.init.bind (.ref s.heap.objs.size)
      repeat (any_goals (first | assumption | wp_step))
      refine codeAny_mono (codeAny_call_builtin (R := wants (fun r s₂ => r = .none ∧ ∃ h' tk c, s₂ = { s with heap := h', toks := tk } ∧ SetR w h' s.heap.objs.size (fun j => decide (j ∈ ns)) c ∧ c ≤ ns.length ∧
          (∀ b o, s.heap.get? b = some o → h'.get? b = some o)) E) F.called_set.init.plain F.entry_set_init (check_set_init_1 hT ?_)) fun r₂ s₂ hr₂ => ?_
      · obtain ⟨ol, hol, hcl, nl, hdl⟩ := hl
        obtain ⟨ocls, odict, odata, oslots⟩ := ol
        simp only at hcl hdl
        subst hcl; subst hdl
        have hol' := keep0 _ _ hol
        have hsls := F.sub_list_set
        have hslf := F.sub_list_frozenset
        have hne : (Value.type "list" == Value.type "dict") = false := by decide
        have hl1 : h0.IsList l items := ⟨_, hol', rfl, nl, rfl⟩
        unfold Builtin.«set.__init__» noKeywords Builtin.Frozenset.updateFrom
        generalize hPI : pyIter = PI
        wp_walk
        subst hPI
        refine wpAny_pyIter_list hl1 ?_
        refine wpAny_bind (wpAny_runValue ?_)
        have hlS : l < s.heap.objs.size := Heap.lt_size hol
        have hh3 : A.in1.in1.in1.handled = none := by simp [hh]
        have hneI : l ≠ h0.objs.size := by rw [hz0]; exact Nat.ne_of_lt (Nat.lt_succ_of_lt hlS)
        have hSf : s.heap.objs.size ∉ [h0.objs.size, l] := by
          rw [hz0]; simp only [List.mem_cons, List.mem_singleton, List.not_mem_nil, or_false, not_or]
          exact ⟨Nat.ne_of_lt (Nat.lt_succ_self _), Nat.ne_of_gt hlS⟩
        have hval : ∀ (i : Nat) (v : Value), items[i]? = some v → ∃ k t, ns[i]? = some k ∧ v = .int k t := fun i v hv => by
          have hi : i < ns.length := by rw [← hisz]; exact (Array.getElem?_eq_some_iff.mp hv).1
          obtain ⟨t, e⟩ := PyProof.Rows.IntsAre.int_at hit i v (by rw [Array.getElem?_toList]; exact hv)
          refine ⟨ns[i], t, List.getElem?_eq_getElem hi, ?_⟩
          rw [e, List.getD_eq_getElem?_getD, List.getElem?_eq_getElem hi] <;> rfl
        refine set_update_ints ((Walks.list hh3 _ l hneI items).toS) s.heap.objs.size hSf ns hisz hb hval (items.size - 0) 0 _ (by omega) (Nat.zero_le _)
          ⟨⟨_, Heap.get?_push_size _ rfl, rfl, rfl⟩, (hl1.push _)⟩ ⟨0, Nat.le_refl 0, setR_new_at (Heap.get?_push_of_some _ hS)⟩ ?_
        intro s' c' hm hc' hS'
        obtain ⟨h', g2, d', tk', os'⟩ := s'
        have eg : g2 = s.gens := hm.gens
        have ed : d' = s.drawn := hm.drawn
        have eo : os' = s.os := hm.os
        subst eg; subst ed; subst eo
        refine wpAny_pure ?_
        show wpAny _ _ (ret Value.none) _ _ _
        rw [hisz] at hc'
        refine wpAny_pure ⟨rfl, h', tk', c', rfl, hS', hc', fun b o e => ?_⟩
        have hb0 : b < s.heap.objs.size := Heap.lt_size e
        exact hm.heap b o (by rw [hz0]; simp only [List.mem_cons, List.mem_singleton, List.not_mem_nil, or_false, not_or]; exact ⟨Nat.ne_of_lt hb0, Nat.ne_of_lt (Nat.lt_succ_of_lt hb0)⟩) (Heap.get?_push_of_some _ (keep0 b o e))
      · cases r₂ with
        | error e => exact hr₂
        | ok fl₂ =>
          cases fl₂ with
          | ret r =>
            obtain ⟨rfl, h', tk, c', rfl, hS', hc', hk'⟩ := hr₂
            repeat (any_goals (first | assumption | wp_step))
            exact h _ _ _ hS' hc' hk'
          | _ => exact hr₂.elim
    | _ => exact hr.elim
end
section
variable {X : Cx} {y : DXw}
def rSetOfI (K : PySem.W.Frag) (w : World) : List V → Hp → VK → Prop := fun xs H Q => ∃ (l : Addr) (ns : List Int), xs = [V.ref l] ∧ SqL K H l (ns.map V.int) ∧ ns.length < 64 ∧
  ∀ (a : Addr) (c : Nat), H a = none → c ≤ ns.length → Q (.ref a) (upd H a (SetO w a (fun j => decide (j ∈ ns)) c))
theorem cr_setOfI (hc : X.calm = true) : CallR X (.type "set") (rSetOfI X.K X.w) := by
  intro pins s σ H xs us Q I r h
  obtain ⟨l, ns, rfl, hl, hf, q⟩ := h
  rw [Vals.ref1 r]
  obtain ⟨its, rv, pl, hz⟩ := I.list hl
  have hn : H s.heap.objs.size = none := I.hok.fresh (Nat.le_refl _)
  refine call_set_listI (P := X.prog) (w := X.w) ns (I.ok.hd hc) pl.isList (by simpa using ints_of_vals rv) (by unfold scanBound; omega) fun h' tk c R hcn k => ?_
  exact ⟨.ref s.heap.objs.size, upd H s.heap.objs.size (SetO X.w s.heap.objs.size (fun j => decide (j ∈ ns)) c), I.laid (t' := tk) k (Nat.le_refl _) (setO_new R), rfl, q _ c hn hcn⟩
def rSortSet (te : RE) : RE := fun ρ S Q => te ρ S fun d S1 => ∃ ns : List Int, RdL S1 d (ns.map D.int) ∧ ns.length < 64 ∧
  ∀ (ms : List Int) p, ms.Pairwise (· < ·) → (∀ k, k ∈ ms ↔ k ∈ ns) → S1 p = none → Q (.ref p) (sup S1 p (.lst (ms.map D.int)))
theorem pd_sortedSet {e : Expr} {te : RE} {p p2 pos pos2 : Pos} (hc : X.calm = true) (hm : X.mg "sorted" = none) (hm2 : X.mg "set" = none) (he : PD X y e te) (hg : Gl X "sorted" := by rfl) (hg2 : Gl X "set" := by rfl)
    (h1 : starEach [.Call (.Name "set" p2) [e] [] pos2] X.env = (false, eval (.Call (.Name "set" p2) [e] [] pos2) X.env) :: starEach [] X.env := by rfl) (h2 : starEach [e] X.env = (false, eval e X.env) :: starEach [] X.env := by rfl) :
    PD X y (.Call (.Name "sorted" p) [.Call (.Name "set" p2) [e] [] pos2] [] pos) (rSortSet te) := by
  refine PD.of (pe_callB (cr_sortedSet hc) hg hm (by decide +kernel) (pa_cons (pe_callTy (cr_setOfI hc) hg2 hm2 (by decide +kernel) (pa_cons he pa_nil (hs := h2)) (he := h2)) pa_nil (hs := h1)) (he := h1)) fun σ H Q h => ?_
  obtain ⟨ρ, S, R, sr, so, h, k⟩ := h
  refine ⟨ρ, S, _, sr, so, h, fun d S1 v H1 g1 dv hq => ?_⟩
  obtain ⟨ns, hx, hl, hQ⟩ := hq
  obtain ⟨a, vs, rfl, q, r⟩ := hx.sq g1.ok dv
  have ev := r.ints
  subst ev
  refine ⟨a, ns, rfl, q, hl, fun b c hb hcn => ?_⟩
  have g2 := Go.new (K := X.K) (o := SetO X.w b (fun j => decide (j ∈ ns)) c) g1.ok hb
  refine ⟨b, _, c, rfl, upd_same, by omega, fun ms p3 pw hm hlen hp => ?_⟩
  have g3 := Go.newLst g2.ok hp (DVs.of_ints (ns := ms))
  exact k (.ref p3) _ _ _ ((g1.trans g2).trans g3) rfl (hQ ms p3 pw (fun z => (hm z).trans (by simp)) (g2.ok.free hp))
end
end DL
namespace DL
open PySem PySem.Spec PyProof.Rows L2
def frP (q : Rat) : PyData := .tuple [.int q.num, .int (q.den : Int)]
theorem pyrs_frs {S : Sto} : ∀ qs : List Rat, PyRs S (qs.map fr) (qs.map frP)
  | [] => .nil
  | q :: qs => .cons (pyr_fr q) (pyrs_frs qs)
theorem lay_frs : ∀ qs : List Rat, PyData.canLayAll0 (qs.map frP) = true
  | [] => rfl
  | q :: qs => by
    show (PyData.canLay0 (frP q) && PyData.canLayAll0 (qs.map frP)) = true
    rw [lay_frs qs]
    rfl
theorem dep_frs : ∀ qs : List Rat, PyData.depthAll (qs.map frP) ≤ 3
  | [] => by simp [PyData.depthAll]
  | q :: qs => by
    have := dep_frs qs
    have h : PyData.depth (frP q) ≤ 3 := by simp [frP, PyData.depth, PyData.depthAll]
    simp only [List.map_cons, PyData.depthAll]
    omega
theorem shaped_frs (qs : List Rat) : SeqAt.shaped (.list (qs.map frP)) = true := by
  have h1 := lay_frs qs
  have h2 := dep_frs qs
  unfold SeqAt.shaped
  rw [show PyData.canLay0 (.list (qs.map frP)) = PyData.canLayAll0 (qs.map frP) from by simp [PyData.canLay0], h1, Bool.true_and]
  apply decide_eq_true
  simp only [PyData.depth]
  omega
end DL
set_option Elab.async false
set_option linter.all false
set_option maxRecDepth 100000
set_option maxHeartbeats 4000000
namespace DL
open PySem PySem.Spec PyProof.Rows L2 RZ
/-! ### tuple * int -/
theorem tuple_mul1 (l : Addr) (items : Array Value) (n : Nat) (dd : Option Addr) (sl : Array (Option Value)) (u : Tok) :
    Meets (Builtin.«tuple.__mul__» ⟨[.ref l, .int 1 u], []⟩) (fun _ R s => s.heap.get? l = some { cls := .type "tuple", dict := dd, data := .seq items n, slots := sl } ∧ R (.ok (.ret (Value.ref l))) s) :=
  .of_wp fun prog w A R s h => by
    obtain ⟨hp, g, d, tk, os⟩ := s
    obtain ⟨hl, h⟩ := h
    have f1 := AutoSeq1.idx_int
    have c1 : (items.isEmpty || (1 : Int) == 1) = true := by simp
    wp_walk using wpAny_loadPart' hl
    exact ⟨_, rfl, h⟩
section
variable {X : Cx} {y : DXw}
theorem op_repT1 : OpR X (binaryOp .Mult) (fun x y H Q => ∃ l xs, x = .ref l ∧ y = .int 1 ∧ SqT X.K H l xs ∧ Q (.ref l) H) := by
  intro pins s σ H x y v u Q I rx ry h
  obtain ⟨l, xs, rfl, rfl, hT, q⟩ := h
  cases rx
  obtain ⟨t, rfl⟩ := ry
  obtain ⟨its, r, ⟨⟨cls, dd, data, sl⟩, ho, hc, n, hd⟩, hs⟩ := I.tuple hT
  simp only at hc hd
  subst hc hd
  refine wpAny_binaryOp_repeat_ref (T := "tuple") (U := "int") (by decide) ⟨_, ho, rfl⟩ (fun s' => typeIs_int s' 1 t) noFill_tuple_mul F.fills_int_mul F.slot_int_rmul repeat_tuple F.slot_int_index.lookup
    (call_meets F.slot_int_rmul (typeIs_int s 1 t) F.entry_int_rmul (F.args_int_rmul_2 _ _) (int_rmul_tuple 1 t l its.toArray n dd sl)
      ⟨ho, rfl, ⟨_, ho, rfl⟩, call_meets F.slot_tuple_mul ⟨_, ho, rfl⟩ F.entry_tuple_mul (F.args_tuple_mul_2 _ _) (tuple_mul1 l its.toArray n dd sl t) ⟨ho, ?_⟩⟩)
  exact ⟨.ref l, H, I, rfl, q⟩
theorem DVs.rep {K : PySem.W.Frag} {H : Hp} {ds : List D} {vs : List V} (r : DVs K H ds vs) : ∀ n : Nat, DVs K H (List.replicate n ds).flatten (List.replicate n vs).flatten
  | 0 => DVs.nil
  | n + 1 => by rw [List.replicate_succ, List.replicate_succ, List.flatten_cons, List.flatten_cons]; exact r.append (DVs.rep r n)
def dMulT : ROp
  | .tup xs, .int k, S, R => xs ≠ [] ∧ 1 ≤ k ∧ k ≤ 1000 ∧ xs.length ≤ 1000 ∧ R (.tup (List.replicate k.toNat xs).flatten) S
  | _, _, _, _ => False
theorem od_mulT : OpR X (binaryOp .Mult) (lop X.K dMulT) := by
  intro pins s σ H v w vv ww Q I rv rw' h
  obtain ⟨x, y, S, R, dx, dy, so, h, k⟩ := h
  cases x <;> cases y <;> first | exact False.elim h | skip
  case tup.int xs j =>
    obtain ⟨a, vs, rfl, q, r⟩ := dx
    cases (show w = V.int j from dy)
    obtain ⟨hne, h1, h2, hl, h⟩ := h
    by_cases hj : j = 1
    · subst hj
      refine op_repT1 pins s σ H _ _ vv ww Q I rv rw' ⟨a, vs, rfl, rfl, q.sq, k (.tup _) S _ H (Go.refl so) ⟨a, vs, rfl, q, ?_⟩ h⟩
      rw [show (List.replicate (1 : Int).toNat xs).flatten = xs by simp]
      exact r
    · refine op_repT pins s σ H _ _ vv ww Q I rv rw' ⟨a, j, vs, rfl, rfl, q.sq, fun z => hne ?_, by omega, h2, by rw [← r.length]; exact hl, fun p hp => ?_⟩
      · have := r.length
        rw [z] at this
        exact List.eq_nil_of_length_eq_zero this
      · have g := Go.new (K := X.K) (o := .tup (List.replicate j.toNat vs).flatten) so hp
        exact k (.tup _) S _ _ g ⟨p, _, rfl, .inl upd_same, DVs.rep (DVs.go g _ _ r) _⟩ h
/-! ### max of a list -/
def dMax1 : RCall := fun ds S Q => match ds with
  | [d] => ∃ ns : List Int, RdL S d (ns.map D.int) ∧ 0 < ns.length ∧ ∀ m, m ∈ ns → (∀ y, y ∈ ns → y ≤ m) → Q (.int m) S
  | _ => False
theorem cd_max1 (hc : X.calm = true) : CallR X (.builtin "max") (lcl X.K dMax1) := by
  intro pins s σ H vs us Q I rv h
  obtain ⟨ds, S, R, dv, so, h, k⟩ := h
  unfold dMax1 at h
  split at h
  · rename_i d
    obtain ⟨v, rfl, r⟩ := dvs1 dv
    obtain ⟨ns, hx, hl, hq⟩ := h
    obtain ⟨a, ws, rfl, q, rr⟩ := hx.sq so r
    cases rr.ints
    exact cr_max hc pins s σ H _ us Q I rv ⟨a, ns, rfl, q, hl, fun m hm hy => k (.int m) S _ H (Go.refl so) rfl (hq m hm hy)⟩
  · exact h.elim
/-! ### zip of two tuples, or of two lists -/
def rZipA (ta : RA) : RI := fun ρ S R => ta ρ S fun ds S1 => match ds with
  | [.tup xs, .tup zs] => R (zpD xs zs) (fun _ => True) S1
  | [d, e] => ∃ xs zs, RdL S1 d xs ∧ RdL S1 e zs ∧ R (zpD xs zs) (fun S' => RdL S' d xs ∧ RdL S' e zs) S1
  | _ => False
theorem jok_zipT {K : PySem.W.Frag} {H1 : Hp} {S1 : Sto} {a b : Addr} {xs zs : List D} {vs ws : List V} (q1 : StT K H1 a vs) (r1 : DVs K H1 xs vs) (q2 : StT K H1 b ws) (r2 : DVs K H1 zs ws) : JOk K H1 S1 (ItzT K a b) (zpD xs zs) (fun _ => True) := by
  intro i H S g _
  have q1 := (g.tup q1).sq
  have q2 := (g.tup q2).sq
  have r1 := DVs.go g _ _ r1
  have r2 := DVs.go g _ _ r2
  unfold zpD
  refine ⟨fun x hx => ?_, fun hn => ⟨vs, ws, q1, q2, ?_⟩⟩
  · rw [List.getElem?_map] at hx
    cases ez : (xs.zip zs)[i]? with
    | none => rw [ez] at hx; cases hx
    | some p =>
      rw [ez] at hx
      cases (Option.some.inj hx)
      obtain ⟨p1, p2⟩ := p
      obtain ⟨hx1, hx2⟩ := List.getElem?_zip_eq_some.mp ez
      obtain ⟨u, hu, du⟩ := r1.get hx1
      obtain ⟨t, ht, dt⟩ := r2.get hx2
      refine ⟨⟨vs, ws, u, t, q1, q2, hu, ht⟩, fun v' H' ⟨T, x1, y1, ev', hT, eH, ha, hb⟩ => ?_⟩
      have f1 := ha vs q1
      have f2 := hb ws q2
      rw [hu] at f1
      rw [ht] at f2
      cases (Option.some.inj f1)
      cases (Option.some.inj f2)
      subst ev' eH
      have g2 := Go.new (K := K) (o := .tup [u, t]) g.ok hT
      exact ⟨g2, T, _, rfl, .inl upd_same, DVs.cons (DV.go g2 _ _ du) (DVs.cons (DV.go g2 _ _ dt) DVs.nil)⟩
  · rw [List.getElem?_eq_none_iff, List.length_map, List.length_zip] at hn
    rw [← r1.length, ← r2.length]
    omega
theorem pdi_zipA {e e2 : Expr} {ta : RA} {p pos tpos : Pos} {elts : List Expr} {kk : Nat} (hm : X.mg "zip" = none) (ha : PDA X y [e, e2] ta) (hg : Gl X "zip" := by rfl)
    (hs : starEach [e, e2] X.env = (false, eval e X.env) :: starEach [e2] X.env := by rfl) (hpl : (backTo pos (starEach [e2] X.env)).any (·.1) = false := by rfl) :
    PDI X y (.Tuple elts kk tpos) (.Call (.Name "zip" p) [e, e2] [] pos) (rZipA ta) := by
  refine PDI.of (pi_zipA hg hm ha hs hpl) fun σ H R h => ?_
  obtain ⟨ρ, S, Rd, sr, so, h, k⟩ := h
  refine ⟨ρ, S, _, sr, so, h, fun ds S1 vs H1 g dvs hn h1 => ?_⟩
  unfold rZipA at h1
  split at h1
  · rename_i xs zs
    obtain ⟨v, ws, rfl, dv, v2, ws2, rfl, dv2, q⟩ := dvs
    cases (show ws2 = [] from q)
    obtain ⟨a, us, rfl, q1, r1⟩ := dv
    obtain ⟨b, ts, rfl, q2, r2⟩ := dv2
    exact ⟨a, b, us, ts, rfl, .inr ⟨q1.sq, q2.sq, k _ _ _ _ _ g (jok_zipT q1 r1 q2 r2) h1⟩⟩
  · rename_i d1 d2 hne
    obtain ⟨v, ws, rfl, dv, v2, ws2, rfl, dv2, q⟩ := dvs
    cases (show ws2 = [] from q)
    obtain ⟨xs, zs, hx, hz, h1⟩ := h1
    obtain ⟨a, us, rfl, q1, r1⟩ := hx.sq g.ok dv
    obtain ⟨b, ts, rfl, q2, r2⟩ := hz.sq g.ok dv2
    exact ⟨a, b, us, ts, rfl, .inl ⟨q1, q2, k _ _ _ _ _ g (jok_zip dv dv2 rfl rfl) h1⟩⟩
  · exact h1.elim
end
end DL
set_option Elab.async false
set_option linter.all false
set_option maxRecDepth 100000
set_option maxHeartbeats 4000000
/-! DO: == and != with an empty list or tuple, [::-1] of lists and tuples, dict displays of written int keys. -/
namespace DL
open PySem PySem.Spec PyProof.Rows L2
section
variable {X : Cx} {y : DXw} {pos p p2 p3 : Pos} {e : Expr} {te : RE}
/-! ### x == [], x == () -/
def dEmp (n : Bool) : ROp := fun x y S R => (∃ xs, x = .tup xs ∧ y = .tup [] ∧ R (.bl (if n then !xs.isEmpty else xs.isEmpty)) S) ∨ ∃ xs, RdL S x xs ∧ RdL S y [] ∧ R (.bl (if n then !xs.isEmpty else xs.isEmpty)) S
theorem isEmpty_vs {α β : Type} {xs : List α} {ys : List β} (h : xs.length = ys.length) : xs.isEmpty = ys.isEmpty := by
  cases xs <;> cases ys <;> first | rfl | (simp at h)
theorem od_eqE (hu : X.A.units + 64 < cLine) : OpR X (compareOp .Eq) (lop X.K (dEmp false)) := by
  intro pins s σ H v w vv ww Q I rv rw' h
  obtain ⟨x, y, S, R, dx, dy, so, h, k⟩ := h
  have fin : ∀ (b : Bool), R (.bl b) S → EP X pins σ Q (.bool b) s := fun b q => ⟨.bl b, H, I, rfl, k (.bl b) S _ H (Go.refl so) rfl q⟩
  rcases h with ⟨xs, rfl, rfl, h⟩ | ⟨xs, hx, hy, h⟩
  · obtain ⟨a, vs, rfl, q, r⟩ := dx
    obtain ⟨b, ws, rfl, q2, r2⟩ := dy
    cases (show ws = [] from r2)
    cases rv
    cases rw'
    obtain ⟨its, rr, ht, hz⟩ := I.tuple q.sq
    obtain ⟨its2, rr2, ht2, hz2⟩ := I.tuple q2.sq
    cases rr2
    obtain ⟨o, ho, hc, n, hd⟩ := ht
    obtain ⟨o2, ho2, hc2, n2, hd2⟩ := ht2
    refine SeqAt.RcAt.tuples (items := its.toArray) (items2 := #[]) (e := fun _ => true) ⟨o, ho, hc, n, hd⟩ ⟨o2, ho2, hc2, n2, hd2⟩ (by omega) (fun j _ h2 => absurd h2 (by simp)) X.prog X.w _ _ ?_
    have e1 : ((List.range (min its.toArray.size (#[] : Array Value).size)).all (fun _ => true) && its.toArray.size == (#[] : Array Value).size) = xs.isEmpty := by
      rw [isEmpty_vs (r.length.trans rr.length)]
      cases its <;> simp
    rw [e1]
    exact fin _ h
  · obtain ⟨a, vs, rfl, q, r⟩ := hx.sq so dx
    obtain ⟨b, ws, rfl, q2, r2⟩ := hy.sq so dy
    cases (show ws = [] from r2)
    cases rv
    cases rw'
    obtain ⟨its, rr, ht, hz⟩ := I.list q
    obtain ⟨its2, rr2, ht2, hz2⟩ := I.list q2
    cases rr2
    have hl := ht.isList
    have hl2 := ht2.isList
    have e0 : xs.isEmpty = its.isEmpty := isEmpty_vs (r.length.trans rr.length)
    cases its with
    | nil =>
      refine SeqAt.RcAt.lists (e := fun _ => true) hl hl2 rfl (by omega) (fun j h1 _ => absurd h1 (by simp)) X.prog X.w _ _ ?_
      rw [show ((List.range (([] : List Value).toArray).size).all fun _ => true) = true from rfl]
      rw [e0] at h
      exact fin _ h
    | cons z its =>
      refine SeqAt.RcAt.lists_lengths hl hl2 (by simp) (by omega) X.prog X.w _ _ ?_
      rw [e0] at h
      exact fin _ h
theorem od_neE (hu : X.A.units + 64 < cLine) : OpR X (compareOp .NotEq) (lop X.K (dEmp true)) := by
  intro pins s σ H v w vv ww Q I rv rw' h
  obtain ⟨x, y, S, R, dx, dy, so, h, k⟩ := h
  have fin : ∀ (b : Bool), R (.bl b) S → EP X pins σ Q (.bool b) s := fun b q => ⟨.bl b, H, I, rfl, k (.bl b) S _ H (Go.refl so) rfl q⟩
  rcases h with ⟨xs, rfl, rfl, h⟩ | ⟨xs, hx, hy, h⟩
  · obtain ⟨a, vs, rfl, q, r⟩ := dx
    obtain ⟨b, ws, rfl, q2, r2⟩ := dy
    cases (show ws = [] from r2)
    cases rv
    cases rw'
    obtain ⟨its, rr, ht, hz⟩ := I.tuple q.sq
    obtain ⟨its2, rr2, ht2, hz2⟩ := I.tuple q2.sq
    cases rr2
    obtain ⟨o, ho, hc, n, hd⟩ := ht
    obtain ⟨o2, ho2, hc2, n2, hd2⟩ := ht2
    refine SeqAt.RcNeAt.tuples (items := its.toArray) (items2 := #[]) (e := fun _ => true) ⟨o, ho, hc, n, hd⟩ ⟨o2, ho2, hc2, n2, hd2⟩ (by omega) (fun j _ h2 => absurd h2 (by simp)) X.prog X.w _ _ ?_
    have e1 : ((List.range (min its.toArray.size (#[] : Array Value).size)).all (fun _ => true) && its.toArray.size == (#[] : Array Value).size) = xs.isEmpty := by
      rw [isEmpty_vs (r.length.trans rr.length)]
      cases its <;> simp
    rw [e1]
    exact fin _ h
  · obtain ⟨a, vs, rfl, q, r⟩ := hx.sq so dx
    obtain ⟨b, ws, rfl, q2, r2⟩ := hy.sq so dy
    cases (show ws = [] from r2)
    cases rv
    cases rw'
    obtain ⟨its, rr, ht, hz⟩ := I.list q
    obtain ⟨its2, rr2, ht2, hz2⟩ := I.list q2
    cases rr2
    have hl := ht.isList
    have hl2 := ht2.isList
    have e0 : xs.isEmpty = its.isEmpty := isEmpty_vs (r.length.trans rr.length)
    cases its with
    | nil =>
      refine SeqAt.RcNeAt.lists (e := fun _ => true) hl hl2 rfl (by omega) (fun j h1 _ => absurd h1 (by simp)) X.prog X.w _ _ ?_
      rw [show ((List.range (([] : List Value).toArray).size).all fun _ => true) = true from rfl]
      rw [e0] at h
      exact fin _ h
    | cons z its =>
      refine SeqAt.RcNeAt.lists_lengths hl hl2 (by simp) (by omega) X.prog X.w _ _ ?_
      rw [e0] at h
      exact fin _ h
end
end DL
set_option Elab.async false
set_option linter.all false
set_option maxRecDepth 100000
set_option maxHeartbeats 4000000
/-! DP: [::-1] of lists and tuples. -/
namespace DL
open PySem PySem.Spec PyProof.Rows L2
section
variable {prog : Program} {w : World} {A : Around} {E : Value → Shared → Prop} {s : Shared}
theorem rev_pick (xs : Array Value) : ((List.range xs.size).filterMap fun (k : Nat) => xs[(((xs.size : Int) - 1) + (k : Int) * (-1)).toNat]?).toArray = xs.toList.reverse.toArray := by
  congr 1
  apply List.ext_getElem?
  intro i
  have e : (List.range xs.size).filterMap (fun (k : Nat) => xs[(((xs.size : Int) - 1) + (k : Int) * (-1)).toNat]?) = (List.range xs.size).pmap (fun k (hk : k < xs.size) => xs[xs.size - 1 - k]'(by omega)) (fun k hk => List.mem_range.mp hk) := by
    have : ∀ (l : List Nat) (hl : ∀ k ∈ l, k < xs.size), l.filterMap (fun (k : Nat) => xs[(((xs.size : Int) - 1) + (k : Int) * (-1)).toNat]?) = l.pmap (fun k (hk : k < xs.size) => xs[xs.size - 1 - k]'(by omega)) hl := by
      intro l
      induction l with
      | nil => intro _; rfl
      | cons k l ih =>
        intro hl
        have hk := hl k (by simp)
        have e2 : (((xs.size : Int) - 1) + (k : Int) * (-1)).toNat = xs.size - 1 - k := by omega
        rw [List.filterMap_cons, e2, Array.getElem?_eq_getElem (by omega), List.pmap_cons, ih fun j hj => hl j (List.mem_cons_of_mem _ hj)]
    exact this _ fun k hk => List.mem_range.mp hk
  rw [e]
  by_cases hi : i < xs.size
  · rw [List.getElem?_eq_getElem (by simpa using hi), List.getElem?_eq_getElem (by simpa using hi)]
    simp
  · rw [List.getElem?_eq_none (by simpa using hi), List.getElem?_eq_none (by simpa using hi)]
theorem rev_applied {sl : Addr} {vl vu vs : Value} {n : Nat} {Q : Int × Int × Nat → Shared → Prop} (hs : s.heap.IsSliceOf sl vl vu vs) (pl : IsPart vl none) (pu : IsPart vu none) (ps : IsPart vs (some (-1)))
    (h : Q ((n : Int) - 1, -1, n) s) : wpAny (model prog w) A (Builtin.Slice.sliceApplied (.ref sl) (pure (n : Int))) Q E s := by
  obtain ⟨os, hos, hcs, hds⟩ := id hs
  unfold Builtin.Slice.sliceApplied Builtin.Slice.sliceFields
  refine wpAny_bind (wpAny_bind (wpAny_field hos hds (x := vl) rfl (wpAny_bind (wpAny_field hos hds (x := vu) rfl (wpAny_bind (wpAny_field hos hds (x := vs) rfl (wpAny_pure ?_)))))))
  refine wpAny_bind (HT.slicePart_ ps ?_)
  show wpAny _ _ (if ((-1 : Int) == 0) = true then _ else _) _ _ s
  rw [if_neg (by decide)]
  refine wpAny_bind (HT.slicePart_ pl (wpAny_bind (HT.slicePart_ pu (wpAny_bind (wpAny_pure ?_)))))
  have e : Builtin.Slice.sliceAdjust none none (-1) (n : Int) = ((n : Int) - 1, -1) := rfl
  have e2 : Builtin.Slice.slicePlaces ((n : Int) - 1) (-1) (-1) = n := by
    unfold Builtin.Slice.slicePlaces
    have h1 : ¬ ((-1 : Int) > 0) := by omega
    simp only [h1, if_false, Int.neg_neg, Int.ediv_one]
    split <;> omega
  show wpAny _ _ (match Builtin.Slice.sliceAdjust none none (-1) (n : Int) with | (lo, hi) => pure (lo, (-1 : Int), Builtin.Slice.slicePlaces lo hi (-1))) _ _ s
  rw [e]
  show wpAny _ _ (pure ((n : Int) - 1, (-1 : Int), Builtin.Slice.slicePlaces ((n : Int) - 1) (-1) (-1))) _ _ s
  rw [e2]
  exact wpAny_pure h
theorem rev_tuple {t sl : Addr} {items : Array Value} {vl vu vs : Value} {Q : Value → Shared → Prop} (ht : IsTup s.heap t items) (hs : s.heap.IsSliceOf sl vl vu vs) (pl : IsPart vl none) (pu : IsPart vu none) (ps : IsPart vs (some (-1)))
    (h : Q (.ref s.heap.objs.size) { s with heap := s.heap.push { cls := .type "tuple", data := .seq items.toList.reverse.toArray } })
    (hsz : items.size ≤ sizeLine) : wpAny (model prog w) A (getItem (.ref t) (.ref sl)) Q E s := by
  have htake : sizeOk (.seq items.toList.reverse.toArray) := by
    show items.toList.reverse.toArray.size ≤ sizeLine
    rw [List.size_toArray, List.length_reverse, Array.length_toList]
    exact hsz
  obtain ⟨os, hos, hcs, hds⟩ := id hs
  have hTs : s.TypeIs (.ref sl) "slice" := ⟨os, hos, hcs⟩
  unfold getItem
  try with_reducible refine wpAny_holding ?_
  first | refine wpAny_bind (wpAny_pure ?_) | skip
  refine wpAny_bind (wpAny_sequenceKey ht.typeIs (by decide) ?_)
  refine wpAny_bind (wpAny_callSpecial?_slot (name := Str.ofString "__getitem__") ht.typeIs PyProof.Rows.slot_tuple_getitem
    (wpAny_call_entry PyProof.Rows.slot_tuple_getitem ht.typeIs entry_tuple_getitem ?_ (args_tuple_getitem _ _)))
  show wpAny _ _ (Builtin.Tuple.tupleItemsOf (.ref t) >>= _) _ _ s
  refine wpAny_bind (tupleItemsOf_ ht ?_)
  refine wpAny_bind (wpAny_typeOf hTs ?_)
  rw [if_pos (by decide)]
  refine wpAny_bind (rev_applied hs pl pu ps ?_)
  have hno : ¬ ((((items.size : Int) - 1) == 0 && (-1 : Int) == 1 && items.size == items.size) = true) := by simp
  show wpAny _ _ (if (((items.size : Int) - 1) == 0 && (-1 : Int) == 1 && items.size == items.size) = true then _ else _) _ _ s
  rw [if_neg hno, rev_pick]
  first
    | exact wpAny_bind (m := Builtin.Tuple.tupleExact _) (wpAny_newObj_type (wpAny_pure ⟨_, rfl, wpAny_pure h⟩) htake)
    | exact wpAny_bind (m := Builtin.Tuple.tupleExact _) (wpAny_newObj_type (wpAny_bind (wpAny_pure (wpAny_pure ⟨_, rfl, wpAny_pure h⟩))) htake)
    | exact wpAny_bind (wpAny_bind (m := Builtin.Tuple.tupleExact _) (wpAny_newObj_type (wpAny_pure (wpAny_pure ⟨_, rfl, wpAny_pure h⟩)) htake))
    | exact wpAny_bind (wpAny_bind (m := Builtin.Tuple.tupleExact _) (wpAny_newObj_type (wpAny_pure ⟨_, rfl, wpAny_pure h⟩) htake))
end
section
variable {X : Cx} {y : DXw} {pos p1 p2 p3 : Pos} {e : Expr} {te : RE} {k : Nat}
def tRev2 (K : PySem.W.Frag) (te : TE) : TE := fun σ H Q => te σ H fun x H1 => ∃ a xs, x = .ref a ∧ ((SqL K H1 a xs ∧ ∀ p, H1 p = none → Q (.ref p) (upd H1 p (.lst xs.reverse))) ∨ (SqT K H1 a xs ∧ ∀ p, H1 p = none → Q (.ref p) (upd H1 p (.tup xs.reverse))))
theorem pe_rev2 {te : TE} (he : PE X e te) : PE X (.Subscript e (.Slice none none (some (.UnaryOp .USub (.Constant (.int 1) k p1) p2)) p3) pos) (tRev2 X.K te) := by
  refine ⟨fun pins s σ H Q I h => ?_⟩
  refine Subscript_ (thn (he.run pins s σ H _ I h) fun v s1 ⟨x, H1, I1, r1, q1⟩ => ?_)
  obtain ⟨a, xs, ex, hx⟩ := q1
  subst ex
  cases r1
  have hst : PO X (some (.UnaryOp .USub (.Constant (.int 1) k p1) p2)) (tPart (tUn (rU fun i => .int (-i)) (tC (.int 1)))) := po_some (pe_un un_neg pe_int)
  refine wpAny_Slice (thn (po_none.run pins s1 σ H1 (fun o H2 => o = none ∧ H2 = H1) I1 ⟨rfl, rfl⟩) fun vl s2 ⟨l, H2, I2, pl, el, e2⟩ => ?_)
  subst el e2
  refine thn (po_none.run pins s2 σ H2 (fun o H3 => o = none ∧ H3 = H2) I2 ⟨rfl, rfl⟩) fun vu s3 ⟨u, H3, I3, pu, eu, e3⟩ => ?_
  subst eu e3
  refine thn (hst.run pins s3 σ H3 (fun o H4 => o = some (-1) ∧ H4 = H3) I3 ⟨1, rfl, -1, rfl, rfl, rfl⟩) fun vs s4 ⟨o, H4, I4, ps, eo, e4⟩ => ?_
  subst eo e4
  have I5 : Inv X pins σ H4 { s4 with heap := s4.heap.push { cls := .type "slice", data := .fields #[vl, vu, vs] } } := I4.kept (t' := s4.toks) fun b ob q => Heap.get?_push_of_some _ q
  show wpAny (model X.prog X.w) X.A (subscriptTail e (.Slice none none (some (.UnaryOp .USub (.Constant (.int 1) k p1) p2)) p3) (.ref a) (.ref s4.heap.objs.size)) (EP X pins σ Q) X.xe { s4 with heap := s4.heap.push { cls := .type "slice", data := .fields #[vl, vu, vs] } }
  rcases hx with ⟨hx, q⟩ | ⟨hx, q⟩
  · obtain ⟨its, r, ht, hz⟩ := I5.list hx
    refine tail_any (ops := [.ref a, .ref s4.heap.objs.size]) ht.isList.typeIs (PySem.slot_list_getitem.lookup) ?_ (by with_unfolding_all rfl)
    refine wpAny_getItem_list_slice ht.isList (Heap.IsSliceOf.new _ vl vu vs) pl pu ps (by decide) ?_ (by rw [List.size_toArray]; have := r.length; omega)
    rw [PySem.W.krv_pick]
    refine ⟨.ref _, _, I5.laid (t' := s4.toks) (o := .lst xs.reverse) (fun b ob q => Heap.get?_push_of_some _ q) (Nat.le_refl _) ?_, rfl, q _ (I5.hok.fresh (Nat.le_refl _))⟩
    exact ⟨by rw [List.length_reverse]; exact hz, _, 0, r.reverse, Heap.get?_push_size _ rfl⟩
  · obtain ⟨its, r, ht, hz⟩ := I5.tuple hx
    have hti : IsTup { s4 with heap := s4.heap.push { cls := .type "slice", data := .fields #[vl, vu, vs] } }.heap a its.toArray := ht
    refine tail_any (ops := [.ref a, .ref s4.heap.objs.size]) hti.typeIs (PyProof.Rows.slot_tuple_getitem.lookup) ?_ (by with_unfolding_all rfl)
    refine rev_tuple hti (Heap.IsSliceOf.new _ vl vu vs) pl pu ps ?_ (by rw [List.size_toArray]; have := r.length; omega)
    refine ⟨.ref _, _, I5.laid (t' := s4.toks) (o := .tup xs.reverse) (fun b ob q => Heap.get?_push_of_some _ q) (Nat.le_refl _) ?_, rfl, q _ (I5.hok.fresh (Nat.le_refl _))⟩
    exact ⟨by rw [List.length_reverse]; exact hz, _, r.reverse, ⟨_, Heap.get?_push_size _ rfl, rfl, _, rfl⟩⟩
def dRev (d : D) (S : Sto) (Q : D → Sto → Prop) : Prop := match d with
  | .tup xs => Q (.tup xs.reverse) S
  | d => ∃ xs, RdL S d xs ∧ ∀ p, S p = none → Q (.ref p) (sup S p (.lst xs.reverse))
def rRev (te : RE) : RE := fun ρ S Q => te ρ S fun d S1 => dRev d S1 Q
theorem DVs.reverse {K : PySem.W.Frag} {H : Hp} {xs : List D} {vs : List V} (r : DVs K H xs vs) : DVs K H xs.reverse vs.reverse := by
  induction xs generalizing vs with
  | nil => cases (show vs = [] from r); exact rfl
  | cons x xs ih =>
    obtain ⟨v, ws, rfl, h1, h2⟩ := r
    rw [List.reverse_cons, List.reverse_cons]
    exact (ih h2).append ⟨v, [], rfl, h1, rfl⟩
theorem pd_rev (he : PD X y e te) : PD X y (.Subscript e (.Slice none none (some (.UnaryOp .USub (.Constant (.int 1) k p1) p2)) p3) pos) (rRev te) := by
  refine PD.of (pe_rev2 he) fun σ H Q h => ?_
  obtain ⟨ρ, S, R, sr, so, h, kk⟩ := h
  refine ⟨ρ, S, _, sr, so, h, fun d S1 v H1 g dv hd => ?_⟩
  have lst : (∃ xs, RdL S1 d xs ∧ ∀ p, S1 p = none → R (.ref p) (sup S1 p (.lst xs.reverse))) → ∃ a xs, v = .ref a ∧ ((SqL X.K H1 a xs ∧ ∀ p, H1 p = none → Q (.ref p) (upd H1 p (.lst xs.reverse))) ∨ (SqT X.K H1 a xs ∧ ∀ p, H1 p = none → Q (.ref p) (upd H1 p (.tup xs.reverse)))) := fun ⟨xs, hx, h⟩ => by
    obtain ⟨a, vs, rfl, q, r⟩ := hx.sq g.ok dv
    exact ⟨a, vs, rfl, .inl ⟨q, fun p hp => kk (.ref p) _ _ _ (g.trans (Go.newLst g.ok hp r.reverse)) rfl (h p (g.ok.free hp))⟩⟩
  cases d with
  | tup xs =>
    obtain ⟨a, vs, rfl, q, r⟩ := dv
    have hd : R (.tup xs.reverse) S1 := hd
    refine ⟨a, vs, rfl, .inr ⟨q.sq, fun p hp => ?_⟩⟩
    have g2 := Go.new (K := X.K) (o := .tup vs.reverse) g.ok hp
    exact kk (.tup xs.reverse) S1 _ _ (g.trans g2) ⟨p, _, rfl, .inl upd_same, DVs.go g2 _ _ r.reverse⟩ hd
  | _ => exact lst hd
end
end DL
set_option Elab.async false
set_option linter.all false
set_option maxRecDepth 100000
set_option maxHeartbeats 4000000
/-! DQ: dict displays of written int keys; what is under way, and repr of lists of ints. -/
namespace DL
open PySem PySem.Spec PyProof.Rows L2
section
variable {X : Cx} {y : DXw} {pos p1 p2 p3 : Pos} {a b v e : Expr} {ta tb te : RE} {k k2 : Nat}
def rDisp1 (i : Int) (te : RE) : RE := fun ρ S Q => ∀ p, S p = none → te ρ (sup S p (.dK [])) fun d S2 => S2 p = some (.dK []) ∧ Q (.ref p) (sup S2 p (.dK [(.inl i, d)]))
theorem pd_disp1 {i : Int} (hv : PD X y v te) : PD X y (.Dict [some (.Constant (.int i) k p1)] [v] pos) (rDisp1 i te) :=
  PD.of (pe_disp (pps_cons pe_int hv pps_nil) rfl rfl (by simp) (by simp)) fun σ H Q h => by
    obtain ⟨ρ, S, R, sr, so, h, kk⟩ := h
    intro p hp
    have g0 := Go.newDK (K := X.K) so.so hp .nil
    refine ⟨ρ, sup S p (.dK []), _, sr.go g0, so.go g0, h p (so.so.free hp), fun d S2 w H2 g2 dv h2 => ?_⟩
    obtain ⟨e2, q⟩ := h2
    obtain ⟨vs, e3, r⟩ := g2.ok p _ e2
    cases r
    exact ⟨e3, [(.inl i, w)], rfl, by simp, kk (.ref p) _ _ _ ((g0.trans g2).trans (Go.setDK g2.ok e2 (DKs.cons (k := .inl i) dv .nil))) rfl q⟩
def rDisp2 (i j : Int) (ta tb : RE) : RE := fun ρ S Q => ∀ p, S p = none → ta ρ (sup S p (.dK [])) fun d S2 => tb ρ S2 fun d2 S3 => S3 p = some (.dK []) ∧ Q (.ref p) (sup S3 p (.dK [(.inl i, d), (.inl j, d2)]))
theorem pd_disp2 {i j : Int} (hij : i ≠ j) (ha : PD X y a ta) (hb : PD X y b tb) : PD X y (.Dict [some (.Constant (.int i) k p1), some (.Constant (.int j) k2 p2)] [a, b] pos) (rDisp2 i j ta tb) :=
  PD.of (pe_disp (pps_cons pe_int ha (pps_cons pe_int hb pps_nil)) rfl rfl (by simp) (by simp)) fun σ H Q h => by
    obtain ⟨ρ, S, R, sr, so, h, kk⟩ := h
    intro p hp
    have g0 := Go.newDK (K := X.K) so.so hp .nil
    refine ⟨ρ, sup S p (.dK []), _, sr.go g0, so.go g0, h p (so.so.free hp), fun d S2 w H2 g2 dv h2 => ⟨ρ, S2, _, (sr.go g0).go g2, (so.go g0).go g2, h2, fun d2 S3 w2 H3 g3 dv2 h3 => ?_⟩⟩
    obtain ⟨e2, q⟩ := h3
    obtain ⟨vs, e3, r⟩ := g3.ok p _ e2
    cases r
    have em : mergeK [] [((.inl i : Key), w), (.inl j, w2)] = [(.inl i, w), (.inl j, w2)] := by
      simp [mergeK, putK, hij]
    refine ⟨e3, [(.inl i, w), (.inl j, w2)], rfl, by simp, ?_⟩
    rw [em]
    exact kk (.ref p) _ _ _ (((g0.trans g2).trans g3).trans (Go.setDK g3.ok e2 (DKs.cons (k := .inl i) (DV.go g3 _ _ dv) (DKs.cons (k := .inl j) dv2 .nil)))) rfl q
end
/-! ### what is under way -/
def wG (X : Cx) (g : List Code) : Cx := { X with A := { X.A with guards := some g }, xe := fun _ _ => False }
theorem wpAny_G {α : Type} {M : Model} {A : Around} {t : Sem α} {Q : α → Shared → Prop} {E : Value → Shared → Prop} {s : Shared} (h : ∀ g, wpAny M { A with guards := some g } t Q E s) : wpAny M A t Q E s := fun Γ p hΓ =>
  h (Γ.code.guards ++ guardsOf Γ.below) Γ p ⟨hΓ.1, hΓ.2.1, hΓ.2.2.1, fun g hg => by cases hg; rfl, hΓ.2.2.2.2⟩
section
variable {X : Cx} {y : DXw} {pins : List (Addr × Obj)} {σ : L2.St} {H : Hp} {s : Shared} {g : List Code}
theorem inv_toG (I : Inv X pins σ H s) : Inv (wG X g) pins σ H s :=
  ⟨⟨I.ok.mod, I.ok.kind, I.ok.glob, I.ok.blt, I.ok.above, I.ok.inj, I.ok.has, I.ok.cab, I.ok.hd, I.ok.frames, I.ok.stk, I.ok.exf, I.ok.bs, I.ok.bsz, I.ok.noex, I.ok.exfs, I.ok.funs, I.ok.frf⟩, I.os, I.bare, I.base, I.loc, I.cell, I.free, I.freeC, I.pin, I.hok, I.len⟩
theorem inv_ofG (I : Inv (wG X g) pins σ H s) : Inv X pins σ H s :=
  ⟨⟨I.ok.mod, I.ok.kind, I.ok.glob, I.ok.blt, I.ok.above, I.ok.inj, I.ok.has, I.ok.cab, I.ok.hd, I.ok.frames, I.ok.stk, I.ok.exf, I.ok.bs, I.ok.bsz, I.ok.noex, I.ok.exfs, I.ok.funs, I.ok.frf⟩, I.os, I.bare, I.base, I.loc, I.cell, I.free, I.freeC, I.pin, I.hok, I.len⟩
theorem sp_ofG {D : Ends} {f : Flow} (h : SP (wG X g) pins D f s) : SP X pins D f s := by
  cases f with
  | next => obtain ⟨σ', H', I, q⟩ := h; exact ⟨σ', H', inv_ofG I, q⟩
  | brk => obtain ⟨σ', H', I, q⟩ := h; exact ⟨σ', H', inv_ofG I, q⟩
  | cont => obtain ⟨σ', H', I, q⟩ := h; exact ⟨σ', H', inv_ofG I, q⟩
  | ret u => obtain ⟨v, σ', H', I, r, q⟩ := h; exact ⟨v, σ', H', inv_ofG I, r, q⟩
theorem pdss_G {sts : List Stmt} {t : List Code → RS} (h : ∀ g, PDSs (wG X g) y0 sts (t g)) : PDSs X y sts (fun E ρ S => ∀ g, t g E ρ S) := ⟨fun pins s σ H D I q => wpAny_G fun g => by
  obtain ⟨ρ, S, E, sr, so, q, eo⟩ := q
  exact wpAny_mono ((h g).run pins s σ H D (inv_toG I) ⟨ρ, S, E, sr, ⟨so.so, fun _ _ _ _ _ _ _ _ _ _ _ _ z => z.elim⟩, q g, eo⟩) (fun f s' hf => sp_ofG hf) fun _ _ z => z.elim⟩
theorem room_G {k : Nat} {A : Around} (r : Room k A) : Room k { A with guards := some g } := ⟨r.hd, r.dp, r.un⟩
end
/-! ### repr of a list of ints -/
def runL (a : Addr) : Code × Pos → Bool := fun
  | (.builtin "list.__repr__.loop" ⟨v :: _, _⟩, _) => Builtin.List.listSameRef v (.ref a)
  | _ => false
theorem runL_off (a : Addr) (c : Code) (p : Pos) (h : c.isGuard = false) : runL a (c, p) = false := by
  unfold runL
  split
  · next v rest kw _ heq => cases heq; simp [Code.isGuard, guardIds] at h
  · rfl
theorem runL_pos (a : Addr) (c : Code) (p : Pos) : runL a (c, p) = runL a (c, default) := by
  unfold runL
  split
  · next v rest kw _ heq => cases heq; rfl
  · next h =>
    split
    · next v rest kw _ heq => cases heq; exact (h _ _ _ _ rfl).elim
    · rfl
def txI (is : List Int) : List Str := is.map fun i => (Str.ofString (toString i))
/-- repr of the list at a, where g is under way -/
def repL (g : List Code) (a : Addr) (is : List Int) : Str := if (g.any fun c => runL a (c, default)) = true then "[...]" else listText (txI is)
theorem rep_items {prog : Program} {w : World} : ∀ {is : List Int} {its : List Value}, Vals (is.map V.int) its → (∀ i ∈ is, i.natAbs.log2 < 1920) → ∀ (j : Nat) (z : Value), its[j]? = some z → ∃ t, (txI is)[j]? = some t ∧ ReprIs prog w z t
  | [], _, r, _, j, z, e => by cases r; simp at e
  | i :: is, _, r, h, 0, z, e => by
    cases r with
    | cons r1 r2 =>
      obtain ⟨t, rfl⟩ := r1
      cases (Option.some.inj e)
      exact ⟨_, rfl, ReprIs.int t (h i (by simp))⟩
  | i :: is, _, r, h, j + 1, z, e => by
    cases r with
    | cons r1 r2 => exact rep_items r2 (fun i hi => h i (List.mem_cons_of_mem _ hi)) j z e
section
variable {X : Cx} {y : DXw} {g : List Code}
theorem call_repL (hg : X.A.guards = some g) (hu : X.A.units + 64 < cLine) : CallR X (.builtin "repr") (fun xs H Q => ∃ a is, xs = [.ref a] ∧ SqL X.K H a (is.map V.int) ∧ is ≠ [] ∧ (∀ i ∈ is, i.natAbs.log2 < 1920) ∧ (listText (txI is)).length ≤ sizeLine ∧ Q (.str (repL g a is)) H) := by
  intro pins s σ H xs us Q I r h
  obtain ⟨a, is, rfl, hs, hne, hz, hsz, q⟩ := h
  obtain ⟨u, rfl, t⟩ := vals1 r
  cases t
  obtain ⟨its, rr, ht, hzz⟩ := I.list hs
  obtain ⟨o, ho, hc, ne, hd⟩ := ht.isList
  cases its with
  | nil => exact absurd (List.map_eq_nil_iff.mp (List.eq_nil_of_length_eq_zero rr.length)) hne
  | cons z its =>
    refine call_repr_slot (by omega) ⟨o, ho, hc⟩ F.slot_list_repr.toG ?_
    by_cases hb : (g.any fun c => runL a (c, default)) = true
    · have q2 : Q (.str "[...]") H := by
        unfold repL at q
        rw [if_pos hb] at q
        exact q
      refine wpAny_call (codeAny_call_builtin_own (Code.quiet_builtin _ (by decide +kernel)) F.entry_list_repr (F.slot_list_repr.check _ _ _ _ _ _ _ _ ⟨o, ho, hc⟩ (F.args_list_repr_1 _) ?_))
      show wpOwn _ _ _ (Builtin.listReprAt 0 ⟨[.ref a], []⟩) _ _ s
      intro Γ p hcc hΓ
      have hrun : Γ.below.any (runL a) = true := by
        rw [any_eq_guards (runL_off a) (runL_pos a), hΓ.2.2.2.1 g hg]
        exact hb
      unfold Builtin.listReprAt
      simp [slotArgs, Builtin.List.listItems, seqItems?, Sem.wp_load_of (h := ho), hd, stack]
      show Sem.wp _ Γ (if (Γ.below.any (runL a)) = true then _ else _) _ _ p s
      rw [if_pos hrun]
      refine wpOwn_of_wpAny ?_ Γ p hcc hΓ
      refine wpAny_bind (wpAny_rule ?_)
      refine wpAny_bind (wpAny_mkStr (wpAny_pure ?_) (by decide +kernel))
      exact ⟨⟨_, _, rfl⟩, .str "[...]", H, I.tok _, ⟨_, rfl⟩, q2⟩
    · have q2 : Q (.str (listText (txI is))) H := by
        unfold repL at q
        rw [if_neg hb] at q
        exact q
      refine call_list_repr (g := g) ⟨o, ho, hc⟩ hg (fun v rest kw hm => ?_) ho hd (by unfold txI; rw [List.length_map, List.size_toArray]; have := rr.length; rw [List.length_map] at this; exact this) (fun j z' hj => rep_items rr hz j z' (by simpa using hj)) (fun h' u tk hk => ⟨_, _, rfl, .str _, H, I.kept (h' := h') (t' := tk) hk, ⟨_, rfl⟩, q2⟩) hsz
      cases hv : Builtin.List.listSameRef v (.ref a) with
      | false => rfl
      | true => exact absurd (List.any_eq_true.mpr ⟨_, hm, hv⟩) hb
def dRepr (g : List Code) : RCall := fun ds S Q => match ds with
  | [.ref a] => ∃ is : List Int, S a = some (.lst (is.map D.int)) ∧ is ≠ [] ∧ (∀ i ∈ is, i.natAbs.log2 < 1920) ∧ (listText (txI is)).length ≤ sizeLine ∧ Q (.str (repL g a is)) S
  | _ => False
theorem cd_repr (hg : X.A.guards = some g) (hu : X.A.units + 64 < cLine) : CallR X (.builtin "repr") (lcl X.K (dRepr g)) := by
  intro pins s σ H vs us Q I rv h
  obtain ⟨ds, S, R, dv, so, h, k⟩ := h
  refine call_repL hg hu pins s σ H vs us Q I rv ?_
  unfold dRepr at h
  split at h
  · rename_i a
    obtain ⟨v, rfl, r⟩ := dvs1 dv
    cases (show v = V.ref a from r)
    obtain ⟨is, e, h1, h2, h3, h4⟩ := h
    obtain ⟨ws, e2, r2⟩ := so a _ e
    cases r2.ints
    exact ⟨a, is, rfl, SqL.of e2, h1, h2, h3, k (.str (repL g a is)) S _ H (Go.refl so) rfl h4⟩
  · exact h.elim
/-- sum of a list or a tuple of ints -/
theorem sum_tup {prog : Program} {w : World} {A : Around} {E : Value → Shared → Prop} {s : Shared} {l : Addr} {its : List Value} {ns : List Int} {Q : Value → Shared → Prop} (hh : A.handled = none) (hl : s.heap.IsTuple l its.toArray) (hi : IntsAre its ns)
    (h : ∀ h' tk t', (∀ b o, s.heap.get? b = some o → h'.get? b = some o) → Q (.int ns.sum t') { s with heap := h', toks := tk }) : wpAny (model prog w) A (call (.builtin "sum") [.ref l]) Q E s := by
  obtain ⟨xs, e⟩ := hi.allInts.items
  have hn : numsOf (intItems xs).toList = ns := by rw [← e]; exact hi.numsOf
  rw [nums_intItems] at hn
  rw [e] at hl
  refine PySem.W.ktm_sumG hh hl fun h' tk t' hk => ?_
  have := h h' tk t' hk
  rw [preSum_eq, List.take_of_length_le (by simp), hn]; exact this
def dSumA : RCall := fun ds S Q => match ds with
  | [.tup xs] => ∃ ns : List Int, xs = ns.map D.int ∧ Q (.int ns.sum) S
  | [d] => ∃ ns : List Int, RdL S d (ns.map D.int) ∧ Q (.int ns.sum) S
  | _ => False
theorem cd_sumA (hc : X.calm = true) : CallR X (.builtin "sum") (lcl X.K dSumA) := by
  intro pins s σ H vs us Q I rv h
  obtain ⟨ds, S, R, dv, so, h, k⟩ := h
  unfold dSumA at h
  split at h
  · rename_i xs
    obtain ⟨v, rfl, a, ws, rfl, q, r⟩ := dvs1 dv
    obtain ⟨ns, rfl, h⟩ := h
    cases r.ints
    obtain ⟨its, rr, ht, hz⟩ := I.tuple q.sq
    obtain ⟨o, ho, hcl, n, hd⟩ := ht
    rw [Vals.ref1 rv]
    exact sum_tup (I.ok.hd hc) ⟨o, ho, hcl, n, hd⟩ rr.ints fun h' tk t' hk => ⟨.int _, H, I.kept hk, ⟨_, rfl⟩, k (.int ns.sum) S _ H (Go.refl so) rfl h⟩
  · rename_i d _
    obtain ⟨v, rfl, r⟩ := dvs1 dv
    obtain ⟨ns, hx, h⟩ := h
    obtain ⟨a, ws, rfl, q, r⟩ := hx.sq so r
    cases r.ints
    exact cr_sum hc pins s σ H _ us Q I rv ⟨a, ns, rfl, q, k (.int ns.sum) S _ H (Go.refl so) rfl h⟩
  · exact h.elim
end
end DL
set_option Elab.async false
set_option linter.all false
set_option maxRecDepth 100000
set_option maxHeartbeats 4000000
namespace K01
open PySem PySem.Spec PyProof.Rows L2 DL
local macro_rules | `(tactic| walk_at "w") => `(tactic| conv => whnf)
local macro_rules | `(tactic| walk_at "g") => `(tactic| ((conv => whnf); repeat' (first | (refine IFB.t ?_ ?_; rfl; conv => whnf) | (refine IFB.f ?_ ?_; rfl; conv => whnf))))
def topS (i : Nat) : Stmt := PySem.Challenge.pw_wholeplays_k01_whole_shares_judged_and_m.main.body.getD i (.Pass ⟨0, 0, 0, 0⟩)
abbrev s_is_integer : Stmt := topS 7
theorem sc_is_integer : FnScope ["value"] ["value"] (defScope s_is_integer) := ⟨rfl, rfl, rfl, by decide +kernel, rfl, by decide +kernel, by decide +kernel⟩
abbrev s_is_pair : Stmt := topS 8
theorem sc_is_pair : FnScope ["value"] ["value"] (defScope s_is_pair) := ⟨rfl, rfl, rfl, by decide +kernel, rfl, by decide +kernel, by decide +kernel⟩
abbrev s_is_row_or_list : Stmt := topS 9
theorem sc_is_row_or_list : FnScope ["value"] ["value"] (defScope s_is_row_or_list) := ⟨rfl, rfl, rfl, by decide +kernel, rfl, by decide +kernel, by decide +kernel⟩
abbrev s_lowest : Stmt := topS 10
theorem sc_lowest : FnScope ["top", "bottom", "common"] ["top", "bottom"] (defScope s_lowest) := ⟨rfl, rfl, rfl, by decide +kernel, rfl, by decide +kernel, by decide +kernel⟩
abbrev s_is_number_of : Stmt := topS 11
theorem sc_is_number_of : FnScope ["told"] ["told"] (defScope s_is_number_of) := ⟨rfl, rfl, rfl, by decide +kernel, rfl, by decide +kernel, by decide +kernel⟩
abbrev s_sum_of_two : Stmt := topS 12
theorem sc_sum_of_two : FnScope ["a", "b"] ["a", "b"] (defScope s_sum_of_two) := ⟨rfl, rfl, rfl, by decide +kernel, rfl, by decide +kernel, by decide +kernel⟩
abbrev s_sum_of_all : Stmt := topS 13
theorem sc_sum_of_all : FnScope ["numbers", "total", "a"] ["numbers"] (defScope s_sum_of_all) := ⟨rfl, rfl, rfl, by decide +kernel, rfl, by decide +kernel, by decide +kernel⟩
abbrev s_is_number : Stmt := topS 15
theorem sc_is_number : FnScope ["told"] ["told"] (defScope s_is_number) := ⟨rfl, rfl, rfl, by decide +kernel, rfl, by decide +kernel, by decide +kernel⟩
abbrev s_is_shares_of : Stmt := topS 16
theorem sc_is_shares_of : FnScope ["told", "share"] ["told"] (defScope s_is_shares_of) := ⟨rfl, rfl, rfl, by decide +kernel, rfl, by decide +kernel, by decide +kernel⟩
abbrev s_is_shares : Stmt := topS 17
theorem sc_is_shares : FnScope ["told"] ["told"] (defScope s_is_shares) := ⟨rfl, rfl, rfl, by decide +kernel, rfl, by decide +kernel, by decide +kernel⟩
abbrev s_are_weights : Stmt := topS 18
theorem sc_are_weights : FnScope ["told", "weight"] ["told"] (defScope s_are_weights) := ⟨rfl, rfl, rfl, by decide +kernel, rfl, by decide +kernel, by decide +kernel⟩
abbrev s_shares_by : Stmt := topS 19
theorem sc_shares_by : FnScope ["weights", "total", "weight"] ["weights"] (defScope s_shares_by) := ⟨rfl, rfl, rfl, by decide +kernel, rfl, by decide +kernel, by decide +kernel⟩
abbrev s_shares : Stmt := topS 20
theorem sc_shares : FnScope ["weights"] ["weights"] (defScope s_shares) := ⟨rfl, rfl, rfl, by decide +kernel, rfl, by decide +kernel, by decide +kernel⟩
abbrev s_law_deck : Stmt := topS 22
theorem sc_law_deck : FnScope ["script", "at", "cell", "stir"] ["script", "at"] (defScope s_law_deck) := ⟨rfl, rfl, rfl, by decide +kernel, rfl, by decide +kernel, by decide +kernel⟩
abbrev s_law_take : Stmt := topS 23
theorem sc_law_take : FnScope ["deck", "many", "taken"] ["deck", "many"] (defScope s_law_take) := ⟨rfl, rfl, rfl, by decide +kernel, rfl, by decide +kernel, by decide +kernel⟩
abbrev s_law_gcd : Stmt := topS 24
theorem sc_law_gcd : FnScope ["u", "v"] ["u", "v"] (defScope s_law_gcd) := ⟨rfl, rfl, rfl, by decide +kernel, rfl, by decide +kernel, by decide +kernel⟩
abbrev s_law_pair : Stmt := topS 25
theorem sc_law_pair : FnScope ["upper", "lower", "common"] ["upper", "lower"] (defScope s_law_pair) := ⟨rfl, rfl, rfl, by decide +kernel, rfl, by decide +kernel, by decide +kernel⟩
abbrev s_law_plus : Stmt := topS 26
theorem sc_law_plus : FnScope ["u", "v"] ["u", "v"] (defScope s_law_plus) := ⟨rfl, rfl, rfl, by decide +kernel, rfl, by decide +kernel, by decide +kernel⟩
abbrev s_law_same : Stmt := topS 29
theorem sc_law_same : FnScope ["found", "due", "at"] ["found", "due"] (defScope s_law_same) := ⟨rfl, rfl, rfl, by decide +kernel, rfl, by decide +kernel, by decide +kernel⟩
abbrev s_law_weights : Stmt := topS 30
theorem sc_law_weights : FnScope ["deck", "most", "many", "way", "total", "even", "at", "found", "over", "more"] ["deck", "most"] (defScope s_law_weights) := ⟨rfl, rfl, rfl, by decide +kernel, rfl, by decide +kernel, by decide +kernel⟩
abbrev s_law_shares : Stmt := topS 31
theorem sc_law_shares : FnScope ["weights", "total", "x"] ["weights"] (defScope s_law_shares) := ⟨rfl, rfl, rfl, by decide +kernel, rfl, by decide +kernel, by decide +kernel⟩
abbrev s_law_odd : Stmt := topS 32
theorem sc_law_odd : FnScope ["deck", "u", "top", "bottom", "some", "far", "by", "odd"] ["deck", "u"] (defScope s_law_odd) := ⟨rfl, rfl, rfl, by decide +kernel, rfl, by decide +kernel, by decide +kernel⟩
abbrev s_law_is_number : Stmt := topS 33
theorem sc_law_is_number : FnScope ["u", "x"] ["u"] (defScope s_law_is_number) := ⟨rfl, rfl, rfl, by decide +kernel, rfl, by decide +kernel, by decide +kernel⟩
abbrev s_law_is_shares : Stmt := topS 34
theorem sc_law_is_shares : FnScope ["told_one", "u", "total"] ["told_one"] (defScope s_law_is_shares) := ⟨rfl, rfl, rfl, by decide +kernel, rfl, by decide +kernel, by decide +kernel⟩
abbrev s_law_bent : Stmt := topS 35
theorem sc_law_bent : FnScope ["deck", "own", "at", "way", "more", "less"] ["deck", "own"] (defScope s_law_bent) := ⟨rfl, rfl, rfl, by decide +kernel, rfl, by decide +kernel, by decide +kernel⟩
abbrev s_law_right : Stmt := topS 36
theorem sc_law_right : FnScope ["deck", "weights", "due", "kept", "found", "by", "third", "turn", "bent", "odd", "x"] ["deck"] (defScope s_law_right) := ⟨rfl, rfl, rfl, by decide +kernel, rfl, by decide +kernel, by decide +kernel⟩
abbrev s_law : Stmt := topS 37
theorem sc_law : FnScope ["script", "at"] ["script"] (defScope s_law) := ⟨rfl, rfl, rfl, by decide +kernel, rfl, by decide +kernel, by decide +kernel⟩
structure Txt (K : PySem.W.Frag) (mg : Str → Option Value) where
  a_is_integer : Addr
  fd_is_integer : FuncData
  m_is_integer : mg "is_integer" = some (.ref a_is_integer)
  F_is_integer : Fun K "is_integer" "is_integer" s_is_integer a_is_integer fd_is_integer
  d_is_integer : Binds K fd_is_integer ["value"] []
  a_is_pair : Addr
  fd_is_pair : FuncData
  m_is_pair : mg "is_pair" = some (.ref a_is_pair)
  F_is_pair : Fun K "is_pair" "is_pair" s_is_pair a_is_pair fd_is_pair
  d_is_pair : Binds K fd_is_pair ["value"] []
  a_is_row_or_list : Addr
  fd_is_row_or_list : FuncData
  m_is_row_or_list : mg "is_row_or_list" = some (.ref a_is_row_or_list)
  F_is_row_or_list : Fun K "is_row_or_list" "is_row_or_list" s_is_row_or_list a_is_row_or_list fd_is_row_or_list
  d_is_row_or_list : Binds K fd_is_row_or_list ["value"] []
  a_lowest : Addr
  fd_lowest : FuncData
  m_lowest : mg "lowest" = some (.ref a_lowest)
  F_lowest : Fun K "lowest" "lowest" s_lowest a_lowest fd_lowest
  d_lowest : Binds K fd_lowest ["top", "bottom"] []
  a_is_number_of : Addr
  fd_is_number_of : FuncData
  m_is_number_of : mg "is_number_of" = some (.ref a_is_number_of)
  F_is_number_of : Fun K "is_number_of" "is_number_of" s_is_number_of a_is_number_of fd_is_number_of
  d_is_number_of : Binds K fd_is_number_of ["told"] []
  a_sum_of_two : Addr
  fd_sum_of_two : FuncData
  m_sum_of_two : mg "sum_of_two" = some (.ref a_sum_of_two)
  F_sum_of_two : Fun K "sum_of_two" "sum_of_two" s_sum_of_two a_sum_of_two fd_sum_of_two
  d_sum_of_two : Binds K fd_sum_of_two ["a", "b"] []
  a_sum_of_all : Addr
  fd_sum_of_all : FuncData
  m_sum_of_all : mg "sum_of_all" = some (.ref a_sum_of_all)
  F_sum_of_all : Fun K "sum_of_all" "sum_of_all" s_sum_of_all a_sum_of_all fd_sum_of_all
  d_sum_of_all : Binds K fd_sum_of_all ["numbers"] []
  a_is_number : Addr
  fd_is_number : FuncData
  m_is_number : mg "is_number" = some (.ref a_is_number)
  F_is_number : Fun K "is_number" "is_number" s_is_number a_is_number fd_is_number
  d_is_number : Binds K fd_is_number ["told"] []
  a_is_shares_of : Addr
  fd_is_shares_of : FuncData
  m_is_shares_of : mg "is_shares_of" = some (.ref a_is_shares_of)
  F_is_shares_of : Fun K "is_shares_of" "is_shares_of" s_is_shares_of a_is_shares_of fd_is_shares_of
  d_is_shares_of : Binds K fd_is_shares_of ["told"] []
  a_is_shares : Addr
  fd_is_shares : FuncData
  m_is_shares : mg "is_shares" = some (.ref a_is_shares)
  F_is_shares : Fun K "is_shares" "is_shares" s_is_shares a_is_shares fd_is_shares
  d_is_shares : Binds K fd_is_shares ["told"] []
  a_are_weights : Addr
  fd_are_weights : FuncData
  m_are_weights : mg "are_weights" = some (.ref a_are_weights)
  F_are_weights : Fun K "are_weights" "are_weights" s_are_weights a_are_weights fd_are_weights
  d_are_weights : Binds K fd_are_weights ["told"] []
  a_shares_by : Addr
  fd_shares_by : FuncData
  m_shares_by : mg "shares_by" = some (.ref a_shares_by)
  F_shares_by : Fun K "shares_by" "shares_by" s_shares_by a_shares_by fd_shares_by
  d_shares_by : Binds K fd_shares_by ["weights"] []
  a_shares : Addr
  fd_shares : FuncData
  m_shares : mg "shares" = some (.ref a_shares)
  F_shares : Fun K "shares" "shares" s_shares a_shares fd_shares
  d_shares : Binds K fd_shares ["weights"] []
  a_law_deck : Addr
  fd_law_deck : FuncData
  m_law_deck : mg "_law_deck" = some (.ref a_law_deck)
  F_law_deck : Fun K "_law_deck" "_law_deck" s_law_deck a_law_deck fd_law_deck
  d_law_deck : Binds K fd_law_deck ["script", "at"] []
  a_law_take : Addr
  fd_law_take : FuncData
  m_law_take : mg "_law_take" = some (.ref a_law_take)
  F_law_take : Fun K "_law_take" "_law_take" s_law_take a_law_take fd_law_take
  d_law_take : Binds K fd_law_take ["deck", "many"] []
  a_law_gcd : Addr
  fd_law_gcd : FuncData
  m_law_gcd : mg "_law_gcd" = some (.ref a_law_gcd)
  F_law_gcd : Fun K "_law_gcd" "_law_gcd" s_law_gcd a_law_gcd fd_law_gcd
  d_law_gcd : Binds K fd_law_gcd ["u", "v"] []
  a_law_pair : Addr
  fd_law_pair : FuncData
  m_law_pair : mg "_law_pair" = some (.ref a_law_pair)
  F_law_pair : Fun K "_law_pair" "_law_pair" s_law_pair a_law_pair fd_law_pair
  d_law_pair : Binds K fd_law_pair ["upper", "lower"] []
  a_law_plus : Addr
  fd_law_plus : FuncData
  m_law_plus : mg "_law_plus" = some (.ref a_law_plus)
  F_law_plus : Fun K "_law_plus" "_law_plus" s_law_plus a_law_plus fd_law_plus
  d_law_plus : Binds K fd_law_plus ["u", "v"] []
  a_law_same : Addr
  fd_law_same : FuncData
  m_law_same : mg "_law_same" = some (.ref a_law_same)
  F_law_same : Fun K "_law_same" "_law_same" s_law_same a_law_same fd_law_same
  d_law_same : Binds K fd_law_same ["found", "due"] []
  a_law_weights : Addr
  fd_law_weights : FuncData
  m_law_weights : mg "_law_weights" = some (.ref a_law_weights)
  F_law_weights : Fun K "_law_weights" "_law_weights" s_law_weights a_law_weights fd_law_weights
  d_law_weights : Binds K fd_law_weights ["deck", "most"] []
  a_law_shares : Addr
  fd_law_shares : FuncData
  m_law_shares : mg "_law_shares" = some (.ref a_law_shares)
  F_law_shares : Fun K "_law_shares" "_law_shares" s_law_shares a_law_shares fd_law_shares
  d_law_shares : Binds K fd_law_shares ["weights"] []
  a_law_odd : Addr
  fd_law_odd : FuncData
  m_law_odd : mg "_law_odd" = some (.ref a_law_odd)
  F_law_odd : Fun K "_law_odd" "_law_odd" s_law_odd a_law_odd fd_law_odd
  d_law_odd : Binds K fd_law_odd ["deck", "u"] []
  a_law_is_number : Addr
  fd_law_is_number : FuncData
  m_law_is_number : mg "_law_is_number" = some (.ref a_law_is_number)
  F_law_is_number : Fun K "_law_is_number" "_law_is_number" s_law_is_number a_law_is_number fd_law_is_number
  d_law_is_number : Binds K fd_law_is_number ["u"] []
  a_law_is_shares : Addr
  fd_law_is_shares : FuncData
  m_law_is_shares : mg "_law_is_shares" = some (.ref a_law_is_shares)
  F_law_is_shares : Fun K "_law_is_shares" "_law_is_shares" s_law_is_shares a_law_is_shares fd_law_is_shares
  d_law_is_shares : Binds K fd_law_is_shares ["told_one"] []
  a_law_bent : Addr
  fd_law_bent : FuncData
  m_law_bent : mg "_law_bent" = some (.ref a_law_bent)
  F_law_bent : Fun K "_law_bent" "_law_bent" s_law_bent a_law_bent fd_law_bent
  d_law_bent : Binds K fd_law_bent ["deck", "own"] []
  a_law_right : Addr
  fd_law_right : FuncData
  m_law_right : mg "_law_right" = some (.ref a_law_right)
  F_law_right : Fun K "_law_right" "_law_right" s_law_right a_law_right fd_law_right
  d_law_right : Binds K fd_law_right ["deck"] []
  a_law : Addr
  fd_law : FuncData
  m_law : mg "law" = some (.ref a_law)
  F_law : Fun K "law" "law" s_law a_law fd_law
  d_law : Binds K fd_law ["script"] []
  b_abs : mg "abs" = none
  b_all : mg "all" = none
  b_bool : mg "bool" = none
  b_int : mg "int" = none
  b_isinstance : mg "isinstance" = none
  b_len : mg "len" = none
  b_list : mg "list" = none
  b_max : mg "max" = none
  b_min : mg "min" = none
  b_range : mg "range" = none
  b_repr : mg "repr" = none
  b_str : mg "str" = none
  b_sum : mg "sum" = none
  b_tuple : mg "tuple" = none
  z_ONE : Addr
  m_ONE : mg "ONE" = some (.ref z_ONE)
  v_ONE : ∀ H, DV K H (.tup [.int 1, .int 1]) (.ref z_ONE)
  z_ZERO : Addr
  m_ZERO : mg "ZERO" = some (.ref z_ZERO)
  v_ZERO : ∀ H, DV K H (.tup [.int 0, .int 1]) (.ref z_ZERO)
  i_gcd : mg "gcd" = some (.builtin "math.gcd")
theorem kb_is_number_0_told {K : PySem.W.Frag} {mg : Str → Option Value} (T : Txt K mg) : KBD K T.fd_is_number ["told"] ["told"] (gk 0 1 [0]) (gk 0 1 [0]) := KBD.of 0 1 [0] T.F_is_number (by decide) fun _ _ _ _ _ _ us ws h1 h2 => match us, ws, h1, h2 with | [], [_], _, _ => rfl
theorem kb_is_shares_0_told {K : PySem.W.Frag} {mg : Str → Option Value} (T : Txt K mg) : KBD K T.fd_is_shares ["told"] ["told"] (gk 0 1 [0]) (gk 0 1 [0]) := KBD.of 0 1 [0] T.F_is_shares (by decide) fun _ _ _ _ _ _ us ws h1 h2 => match us, ws, h1, h2 with | [], [_], _, _ => rfl
theorem kb_shares_0_weights {K : PySem.W.Frag} {mg : Str → Option Value} (T : Txt K mg) : KBD K T.fd_shares ["weights"] ["weights"] (gk 0 1 [0]) (gk 0 1 [0]) := KBD.of 0 1 [0] T.F_shares (by decide) fun _ _ _ _ _ _ us ws h1 h2 => match us, ws, h1, h2 with | [], [_], _, _ => rfl
end K01
set_option Elab.async false
set_option linter.all false
set_option maxRecDepth 100000
set_option maxHeartbeats 4000000
namespace K01
open PySem PySem.Spec PyProof.Rows L2 DL
local macro_rules | `(tactic| walk_at "w") => `(tactic| conv => whnf)
local macro_rules | `(tactic| walk_at "g") => `(tactic| ((conv => whnf); repeat' (first | (refine IFB.t ?_ ?_; rfl; conv => whnf) | (refine IFB.f ?_ ?_; rfl; conv => whnf))))

set_option exponentiation.threshold 4000
/-- a value whose kind is known -/
def Kn (S : Sto) : D → Prop
  | .ref a => (∃ xs, S a = some (.lst xs)) ∨ ∃ kvs, S a = some (.dK kvs)
  | .ty _ => False
  | .exc _ _ => False
  | _ => True
theorem Kn.ext {S S' : Sto} {d : D} (h : Kn S d) (x : Ext S S') : Kn S' d := by
  cases d with
  | ref a =>
    rcases h with ⟨xs, e⟩ | ⟨kvs, e⟩
    · exact .inl ⟨xs, x _ _ e⟩
    · exact .inr ⟨kvs, x _ _ e⟩
  | _ => exact h
def isInt : D → Bool
  | .int _ => true
  | _ => false
def isPair : D → Bool
  | .tup xs => decide ((xs.length : Int) = 2)
  | _ => false
def isNum : D → Bool
  | .tup [.int t, .int b] => decide (0 < b) && decide (Nat.gcd t.natAbs b.natAbs = 1)
  | _ => false
def numQ : D → Rat
  | .tup [.int t, .int b] => (t : Rat) / (b : Rat)
  | _ => 0
def OddV (S : Sto) (d : D) : Prop := Kn S d ∧ ∀ xs, d = .tup xs → (∀ x ∈ xs, Kn S x) ∧ ∀ t b, xs = [.int t, .int b] → t.natAbs < 2 ^ 300 ∧ b.natAbs < 2 ^ 300
theorem OddV.ext {S S' : Sto} {d : D} (h : OddV S d) (x : Ext S S') : OddV S' d := ⟨h.1.ext x, fun xs e => ⟨fun z hz => ((h.2 xs e).1 z hz).ext x, (h.2 xs e).2⟩⟩
theorem fr_lit {t b : Int} (hb : 0 < b) (hg : Nat.gcd t.natAbs b.natAbs = 1) : D.tup [.int t, .int b] = fr ((t : Rat) / (b : Rat)) := by
  have := low_fr (t := t) hb
  rw [hg, show ((1 : Nat) : Int) = 1 from rfl, Int.ediv_one, Int.ediv_one] at this
  exact this
theorem isNum_of {t b : Int} (hb : 0 < b) : isNum (.tup [.int t, .int b]) = decide (Nat.gcd t.natAbs b.natAbs = 1) := by
  show (decide (0 < b) && decide (Nat.gcd t.natAbs b.natAbs = 1)) = _
  rw [decide_eq_true hb, Bool.true_and]
theorem isNum_np {t b : Int} (hb : ¬ 0 < b) : isNum (.tup [.int t, .int b]) = false := by
  show (decide (0 < b) && decide (Nat.gcd t.natAbs b.natAbs = 1)) = _
  rw [decide_eq_false hb, Bool.false_and]
theorem isNum_fr (q : Rat) : isNum (fr q) = true := by
  show (decide (0 < (q.den : Int)) && decide (Nat.gcd q.num.natAbs (q.den : Int).natAbs = 1)) = true
  rw [decide_eq_true (den_pos' q), Int.natAbs_natCast, Bool.true_and]
  exact decide_eq_true q.reduced
theorem numQ_fr (q : Rat) : numQ (fr q) = q := num_div_den' q
theorem isNum_inv : ∀ {d : D}, isNum d = true → ∃ t b, d = .tup [.int t, .int b] ∧ 0 < b ∧ Nat.gcd t.natAbs b.natAbs = 1
  | .tup [.int t, .int b], h => by
    have h' : (decide (0 < b) && decide (Nat.gcd t.natAbs b.natAbs = 1)) = true := h
    rw [Bool.and_eq_true] at h'
    exact ⟨t, b, rfl, of_decide_eq_true h'.1, of_decide_eq_true h'.2⟩
theorem isNum_eq {d : D} (h : isNum d = true) : d = fr (numQ d) := by
  obtain ⟨t, b, rfl, hb, hg⟩ := isNum_inv h
  exact fr_lit hb hg
theorem pyr_pair {S : Sto} (t b : Int) : PyR S (.tup [.int t, .int b]) (.tuple [.int t, .int b]) := .tup (.cons (.int _) (.cons (.int _) .nil))
theorem eqv_low {t b : Int} (hb : 0 < b) : (if false = true then !PyData.eqv (.tuple [.int ((t : Rat) / (b : Rat)).num, .int (((t : Rat) / (b : Rat)).den : Int)]) (.tuple [.int t, .int b]) else PyData.eqv (.tuple [.int ((t : Rat) / (b : Rat)).num, .int (((t : Rat) / (b : Rat)).den : Int)]) (.tuple [.int t, .int b])) = decide (Nat.gcd t.natAbs b.natAbs = 1) := by
  rw [if_neg (by decide)]
  by_cases hg : Nat.gcd t.natAbs b.natAbs = 1
  · rw [decide_eq_true hg]
    have e1 := low_num (t := t) hb
    have e2 := low_den (t := t) hb
    rw [hg, show ((1 : Nat) : Int) = 1 from rfl, Int.ediv_one] at e1 e2
    rw [← e1, ← e2]
    exact SeqAt.eqv_refl _ rfl
  · rw [decide_eq_false hg]
    have h1 : ¬ (((t : Rat) / (b : Rat)).num = t ∧ (((t : Rat) / (b : Rat)).den : Int) = b) := fun ⟨e1, e2⟩ => by
      have r := ((t : Rat) / (b : Rat)).reduced
      rw [e1] at r
      have e3 : ((t : Rat) / (b : Rat)).den = b.natAbs := by omega
      rw [e3] at r
      exact hg r
    simp [PyData.eqv, PyData.eqvAll]
    omega
theorem frP_eq (a b : Rat) : PyData.eqv (.tuple [.int a.num, .int (a.den : Int)]) (.tuple [.int b.num, .int (b.den : Int)]) = decide (a = b) := by
  by_cases h : a = b
  · subst h
    rw [decide_eq_true rfl]
    exact SeqAt.eqv_refl _ rfl
  · rw [decide_eq_false h]
    have h1 : ¬ (a.num = b.num ∧ a.den = b.den) := fun ⟨e1, e2⟩ => h (Rat.ext e1 e2)
    simp [PyData.eqv, PyData.eqvAll]
    omega
theorem frE_eq (a b : Rat) : (if false = true then !PyData.eqv (.tuple [.int a.num, .int (a.den : Int)]) (.tuple [.int b.num, .int (b.den : Int)]) else PyData.eqv (.tuple [.int a.num, .int (a.den : Int)]) (.tuple [.int b.num, .int (b.den : Int)])) = decide (a = b) := by
  rw [if_neg (by decide), frP_eq]
theorem nat_mul_lt {N M : Int} {a b : Nat} (h : N.natAbs < 2 ^ a) (h' : M.natAbs < 2 ^ b) {c : Nat} (hc : a + b ≤ c) : (N * M).natAbs < 2 ^ c := lt_up (wide_lt h h') hc
theorem rb_add {n m : Nat} {a b : Rat} (ha : RB n a) (hb : RB m b) : RB (n + m + 1) (a + b) := by
  rw [← add_fr]
  have b1 : ((b.den : Int)).natAbs < 2 ^ m := by rw [Int.natAbs_natCast]; exact hb.2
  have a1 : ((a.den : Int)).natAbs < 2 ^ n := by rw [Int.natAbs_natCast]; exact ha.2
  have h1 := nat_mul_lt ha.1 b1 (Nat.le_refl _)
  have h2 := nat_mul_lt hb.1 a1 (Nat.le_refl _)
  have h3 := nat_mul_lt a1 b1 (c := n + m + 1) (by omega)
  rw [Nat.add_comm m n] at h2
  have e : 2 ^ (n + m + 1) = 2 * 2 ^ (n + m) := by rw [Nat.pow_succ, Nat.mul_comm]
  exact rb_div (Int.mul_pos (den_pos' a) (den_pos' b)) (by rw [e]; omega) h3
theorem sum_rb : ∀ {qs : List Rat}, (∀ q ∈ qs, RB 300 q) → RB (301 * qs.length + 1) qs.sum
  | [], _ => ⟨by decide, by decide⟩
  | q :: qs, h => by
    rw [List.sum_cons, List.length_cons]
    exact (rb_add (h q (by simp)) (sum_rb fun z hz => h z (List.mem_cons_of_mem _ hz))).mono (by omega)
theorem take_rb {qs : List Rat} (h : ∀ q ∈ qs, RB 300 q) (hl : qs.length ≤ 9) (i : Nat) : RB 3000 (qs.take i).sum :=
  (sum_rb fun q hq => h q (List.mem_of_mem_take hq)).mono (by rw [List.length_take]; omega)
def sp_is_integer : DSp := fun ds S Q _ => ∃ d, ds = [d] ∧ Kn S d ∧ Q (.bl (isInt d)) S
def sp_is_pair : DSp := fun ds S Q _ => ∃ d, ds = [d] ∧ Kn S d ∧ Q (.bl (isPair d)) S
def SeqI (S : Sto) (d : D) (ws : List Int) : Prop := (∃ p, d = .ref p ∧ S p = some (.lst (ws.map D.int))) ∨ d = .tup (ws.map D.int)
def sp_is_row_or_list : DSp := fun ds S Q _ => ∃ d ws, ds = [d] ∧ SeqI S d ws ∧ Q (.bl true) S
def sp_lowest : DSp := fun ds S Q _ => ∃ t b : Int, ds = [.int t, .int b] ∧ 0 < b ∧ b.natAbs < 2 ^ 8000 ∧ Q (fr ((t : Rat) / (b : Rat))) S
def sp_is_number_of : DSp := fun ds S Q _ => ∃ d, ds = [d] ∧ OddV S d ∧ Q (.bl (isNum d)) S
def sp_is_number : DSp := sp_is_number_of
def sp_sum_of_two : DSp := fun ds S Q _ => ∃ a b, ds = [fr a, fr b] ∧ RB 3000 a ∧ RB 3000 b ∧ Q (fr (a + b)) S
def sp_sum_of_all : DSp := fun ds S Q _ => ∃ qs : List Rat, ds = [shD qs] ∧ (∀ q ∈ qs, RB 3000 q) ∧ (∀ i, RB 3000 (qs.take i).sum) ∧ Q (fr qs.sum) S
theorem ok_is_integer {P : Program} {w : World} {K : PySem.W.Frag} {mg : Str → Option Value} {base : Heap} (T : Txt K mg) : FnOk P w K mg base (L2.CX P w) 1 T.a_is_integer T.fd_is_integer ["value"] (toSp K sp_is_integer) := by
  refine fnD T.F_is_integer sc_is_integer (fun ds S Q E h => ?_) (fun cdv A outer s H E RX hr => ⟨_, (pds_one (pd_ret (pd_and (pd_isi1 .int (pd_var 0) T.b_isinstance T.b_int) (pd_one (pd_not (pd_isi1 .bool (pd_var 0) T.b_isinstance T.b_bool)))))), fun ds S Q h => ?_⟩)
  · obtain ⟨_, rfl, _⟩ := h
    rfl
  · obtain ⟨d, rfl, hk, h⟩ := h
    cases d with
    | ref a =>
      rcases hk with ⟨xs, e⟩ | ⟨kvs, e⟩
      · walk_at "g"
        refine .inl ⟨xs, e, ?_⟩
        walk_at "g"
        exact h
      · walk_at "g"
        refine .inr ⟨kvs, e, ?_⟩
        walk_at "g"
        exact h
    | ty _ => exact hk.elim
    | exc _ _ => exact hk.elim
    | _ => walk_at "g"; exact h

theorem ok_is_pair {P : Program} {w : World} {K : PySem.W.Frag} {mg : Str → Option Value} {base : Heap} (T : Txt K mg) : FnOk P w K mg base (L2.CX P w) 1 T.a_is_pair T.fd_is_pair ["value"] (toSp K sp_is_pair) := by
  refine fnD T.F_is_pair sc_is_pair (fun ds S Q E h => ?_) (fun cdv A outer s H E RX hr => ⟨_, (pds_one (pd_ret (pd_and (pd_isi1 .tup (pd_var 0) T.b_isinstance T.b_tuple) (pd_one (pd_cmp (od_eq hr.units) (pd_blt cd_len T.b_len (by decide +kernel) (pda_cons (pd_var 0) pda_nil)) pd_int))))), fun ds S Q h => ?_⟩)
  · obtain ⟨_, rfl, _⟩ := h
    rfl
  · obtain ⟨d, rfl, hk, h⟩ := h
    cases d with
    | ref a =>
      rcases hk with ⟨xs, e⟩ | ⟨kvs, e⟩
      · walk_at "g"
        refine .inl ⟨xs, e, ?_⟩
        walk_at "g"
        exact h
      · walk_at "g"
        refine .inr ⟨kvs, e, ?_⟩
        walk_at "g"
        exact h
    | ty _ => exact hk.elim
    | exc _ _ => exact hk.elim
    | _ => walk_at "g"; exact h

theorem ok_is_row_or_list {P : Program} {w : World} {K : PySem.W.Frag} {mg : Str → Option Value} {base : Heap} (T : Txt K mg) : FnOk P w K mg base (L2.CX P w) 1 T.a_is_row_or_list T.fd_is_row_or_list ["value"] (toSp K sp_is_row_or_list) := by
  refine fnD T.F_is_row_or_list sc_is_row_or_list (fun ds S Q E h => ?_) (fun cdv A outer s H E RX hr => ⟨_, (pds_one (pd_ret (pd_isi2 .lst .tup (pd_var 0) T.b_isinstance T.b_list T.b_tuple))), fun ds S Q h => ?_⟩)
  · obtain ⟨_, _, rfl, _⟩ := h
    rfl
  · obtain ⟨d, ws, rfl, ⟨p, rfl, e⟩ | rfl, h⟩ := h
    · walk_at "g"
      refine .inl ⟨_, e, ?_⟩
      exact h
    · walk_at "g"
      exact h

theorem ok_lowest {P : Program} {w : World} {K : PySem.W.Frag} {mg : Str → Option Value} {base : Heap} (T : Txt K mg) : FnOk P w K mg base (L2.CX P w) 1 T.a_lowest T.fd_lowest ["top", "bottom"] (toSp K sp_lowest) := by
  refine fnD T.F_lowest sc_lowest (fun ds S Q E h => ?_) (fun cdv A outer s H E RX hr => ⟨_, (pds_cons (pd_set 2 sc_lowest.nd (pd_bltFun cd_gcd T.i_gcd (pda_cons (pd_var 0) (pda_cons (pd_var 1) pda_nil))))
    (pds_cons (pd_ifS (pdt_cmp od_lt (pd_var 1) pd_int) (pds_one (pd_set 2 sc_lowest.nd (pd_neg (pd_var 2)))) pds_nil)
    (pds_one (pd_ret (pd_tup (pda_cons (pd_bin od_fdiv (pd_var 0) (pd_var 2)) (pda_cons (pd_bin od_fdiv (pd_var 1) (pd_var 2)) pda_nil))))))), fun ds S Q h => ?_⟩)
  · obtain ⟨_, _, rfl, _⟩ := h
    rfl
  · obtain ⟨t, b, rfl, h0, hb, h⟩ := h
    walk_at "w"
    refine IFB.f (decide_eq_false (by omega)) ?_
    walk_at "w"
    refine ⟨gcd_w h0 hb (by decide) (by decide) _, ?_⟩
    walk_at "w"
    refine ⟨gcd_w h0 hb (by decide) (by decide) _, ?_⟩
    walk_at "w"
    rw [low_fr h0]
    exact h

theorem ok_is_number_of {P : Program} {w : World} {K : PySem.W.Frag} {mg : Str → Option Value} {base : Heap} (T : Txt K mg) : FnOk P w K mg base (L2.CX P w) 2 T.a_is_number_of T.fd_is_number_of ["told"] (toSp K sp_is_number_of) := by
  refine fnD T.F_is_number_of sc_is_number_of (fun ds S Q E h => ?_) (fun cdv A outer s H E RX hr => ⟨_, (pds_cons (pd_ifS (PDW.pt (pdw_or (pdt_not (pdt_tru (pd_call (takes_of rfl rfl rfl rfl) (ok_is_pair T) (hr.mono (by decide)) T.m_is_pair T.F_is_pair.kp T.d_is_pair (pda_cons (pd_var 0) pda_nil)))) (pdw_or (pdt_not (pdt_tru (pd_call (takes_of rfl rfl rfl rfl) (ok_is_integer T) (hr.mono (by decide)) T.m_is_integer T.F_is_integer.kp T.d_is_integer (pda_cons (pd_ix (pd_var 0) pd_int) pda_nil)))) (pdw_or1 (pdt_not (pdt_tru (pd_call (takes_of rfl rfl rfl rfl) (ok_is_integer T) (hr.mono (by decide)) T.m_is_integer T.F_is_integer.kp T.d_is_integer (pda_cons (pd_ix (pd_var 0) pd_int) pda_nil)))))))) (pds_one (pd_ret pd_bl)) pds_nil)
    (pds_one (pd_ret (pd_and (pd_cmp od_gt (pd_ix (pd_var 0) pd_int) pd_int) (pd_one (pd_cmp (od_eq hr.units) (pd_call (takes_of rfl rfl rfl rfl) (ok_lowest T) (hr.mono (by decide)) T.m_lowest T.F_lowest.kp T.d_lowest (pda_cons (pd_ix (pd_var 0) pd_int) (pda_cons (pd_ix (pd_var 0) pd_int) pda_nil))) (pd_var 0))))))), fun ds S Q h => ?_⟩)
  · obtain ⟨_, rfl, _⟩ := h
    rfl
  · obtain ⟨d, rfl, hk, h⟩ := h
    walk_at "w"
    refine ⟨d, rfl, hk.1, ?_⟩
    cases hp : isPair d with
    | false =>
      have e : isNum d = false := by
        cases hn : isNum d with
        | false => rfl
        | true =>
          obtain ⟨t, b, rfl, _⟩ := isNum_inv hn
          cases hp
      walk_at "g"
      rw [e] at h
      exact h
    | true =>
      obtain ⟨x, y, rfl⟩ : ∃ x y, d = .tup [x, y] := by
        cases d with
        | tup xs =>
          have h2 : (xs.length : Int) = 2 := of_decide_eq_true hp
          match xs, h2 with
          | [x, y], _ => exact ⟨x, y, rfl⟩
          | [], h2 => simp at h2
          | [_], h2 => simp at h2
          | _ :: _ :: _ :: _, h2 => simp at h2; omega
        | _ => cases hp
      obtain ⟨hk2, hk3⟩ := hk.2 _ rfl
      walk_at "g"
      refine ⟨x, rfl, ?_⟩
      walk_at "g"
      refine ⟨x, rfl, hk2 x (by simp), ?_⟩
      cases hx : isInt x with
      | false =>
        have e : isNum (.tup [x, y]) = false := by
          cases x <;> first | rfl | (cases hx)
        walk_at "g"
        rw [e] at h
        exact h
      | true =>
        walk_at "g"
        refine ⟨y, rfl, ?_⟩
        walk_at "g"
        refine ⟨y, rfl, hk2 y (by simp), ?_⟩
        cases hy : isInt y with
        | false =>
          have e : isNum (.tup [x, y]) = false := by
            cases y <;> first | (cases x <;> rfl) | (cases hy)
          walk_at "g"
          rw [e] at h
          exact h
        | true =>
          obtain ⟨t, rfl⟩ : ∃ t, x = .int t := by cases x <;> first | exact ⟨_, rfl⟩ | (cases hx)
          obtain ⟨b, rfl⟩ : ∃ b, y = .int b := by cases y <;> first | exact ⟨_, rfl⟩ | (cases hy)
          obtain ⟨_, hb⟩ := hk3 t b rfl
          walk_at "g"
          refine ⟨_, rfl, ?_⟩
          walk_at "w"
          refine IFB.p (fun c1 => ?_) (fun c1 => ?_)
          · walk_at "g"
            refine ⟨_, rfl, ?_⟩
            walk_at "g"
            refine ⟨_, rfl, ?_⟩
            walk_at "g"
            refine ⟨t, b, rfl, c1, lt_up hb (by decide), ?_⟩
            walk_at "w"
            refine ⟨_, _, pyr_fr _, pyr_pair t b, rfl, rfl, ?_⟩
            rw [eqv_low c1]
            rw [isNum_of c1] at h
            exact h
          · rw [isNum_np c1] at h
            exact h

theorem ok_sum_of_two {P : Program} {w : World} {K : PySem.W.Frag} {mg : Str → Option Value} {base : Heap} (T : Txt K mg) : FnOk P w K mg base (L2.CX P w) 2 T.a_sum_of_two T.fd_sum_of_two ["a", "b"] (toSp K sp_sum_of_two) := by
  refine fnD T.F_sum_of_two sc_sum_of_two (fun ds S Q E h => ?_) (fun cdv A outer s H E RX hr => ⟨_, (pds_one (pd_ret (pd_call (takes_of rfl rfl rfl rfl) (ok_lowest T) (hr.mono (by decide)) T.m_lowest T.F_lowest.kp T.d_lowest (pda_cons (pd_bin od_add (pd_bin od_mul (pd_ix (pd_var 0) pd_int) (pd_ix (pd_var 1) pd_int)) (pd_bin od_mul (pd_ix (pd_var 1) pd_int) (pd_ix (pd_var 0) pd_int))) (pda_cons (pd_bin od_mul (pd_ix (pd_var 0) pd_int) (pd_ix (pd_var 1) pd_int)) pda_nil))))), fun ds S Q h => ?_⟩)
  · obtain ⟨_, _, rfl, _⟩ := h
    rfl
  · obtain ⟨a, b, rfl, ha, hb, h⟩ := h
    have b1 : ((b.den : Int)).natAbs < 2 ^ 3000 := by rw [Int.natAbs_natCast]; exact hb.2
    have a1 : ((a.den : Int)).natAbs < 2 ^ 3000 := by rw [Int.natAbs_natCast]; exact ha.2
    walk_at "w"
    refine ⟨.int a.num, rfl, ?_⟩
    walk_at "w"
    refine ⟨.int (b.den : Int), rfl, ?_⟩
    walk_at "w"
    refine ⟨.inl (wide_mul ha.1 b1 (by decide) (by decide) (by decide)), ?_⟩
    walk_at "w"
    refine ⟨.int b.num, rfl, ?_⟩
    walk_at "w"
    refine ⟨.int (a.den : Int), rfl, ?_⟩
    walk_at "w"
    refine ⟨.inl (wide_mul hb.1 a1 (by decide) (by decide) (by decide)), ?_⟩
    walk_at "w"
    refine ⟨.int (a.den : Int), rfl, ?_⟩
    walk_at "w"
    refine ⟨.int (b.den : Int), rfl, ?_⟩
    walk_at "w"
    refine ⟨.inl (wide_mul a1 b1 (by decide) (by decide) (by decide)), ?_⟩
    walk_at "w"
    refine ⟨_, _, rfl, Int.mul_pos (den_pos' a) (den_pos' b), lt_up (wide_lt a1 b1) (by decide), ?_⟩
    rw [add_fr]
    exact h

theorem ok_sum_of_all {P : Program} {w : World} {K : PySem.W.Frag} {mg : Str → Option Value} {base : Heap} (T : Txt K mg) : FnOk P w K mg base (L2.CX P w) 3 T.a_sum_of_all T.fd_sum_of_all ["numbers"] (toSp K sp_sum_of_all) := by
  refine fnD T.F_sum_of_all sc_sum_of_all (fun ds S Q E h => ?_) (fun cdv A outer s H E RX hr => ⟨_, (pds_cons (pd_set 1 sc_sum_of_all.nd (pd_glob (v := .ref T.z_ZERO) (d := (.tup [.int 0, .int 1])) T.m_ZERO rfl T.v_ZERO))
    (pds_cons (pd_for (passes_of rfl) rfl (pdi_it (pd_var 0)) (pdg_name 2 sc_sum_of_all.nd) (pds_one (pd_set 1 sc_sum_of_all.nd (pd_call (takes_of rfl rfl rfl rfl) (ok_sum_of_two T) (hr.mono (by decide)) T.m_sum_of_two T.F_sum_of_two.kp T.d_sum_of_two (pda_cons (pd_var 1) (pda_cons (pd_var 2) pda_nil))))))
    (pds_one (pd_ret (pd_var 1))))), fun ds S Q h => ?_⟩)
  · obtain ⟨_, rfl, _⟩ := h
    rfl
  · obtain ⟨qs, rfl, hb, hs, h⟩ := h
    walk_at "w"
    refine for_xs (fun i ρ' S' => S' = S ∧ ∃ o, ρ' = [some (shD qs), some (fr (qs.take i).sum), o]) ⟨rfl, _, by rw [List.take_zero, List.sum_nil]; rfl⟩ (fun _ _ _ h => trivial) ?_ ?_
    · rintro i x _ _ hi ⟨rfl, o, rfl⟩
      obtain ⟨q, hq, rfl⟩ := fr_at hi
      walk_at "w"
      refine ⟨_, q, rfl, hs i, hb q (List.mem_of_getElem? hq), ?_⟩
      walk_at "w"
      exact ⟨rfl, _, by rw [take_succ_sum hq]; rfl⟩
    · rintro _ _ ⟨rfl, o, rfl⟩
      rw [List.length_map, List.take_length]
      walk_at "w"
      exact h

theorem ok_is_number {P : Program} {w : World} {K : PySem.W.Frag} {mg : Str → Option Value} {base : Heap} (T : Txt K mg) : FnOk P w K mg base (L2.CX P w) 3 T.a_is_number T.fd_is_number ["told"] (toSp K sp_is_number) := by
  refine fnD T.F_is_number sc_is_number (fun ds S Q E h => ?_) (fun cdv A outer s H E RX hr => ⟨_, (pds_one (pd_ret (pd_call (takes_of rfl rfl rfl rfl) (ok_is_number_of T) (hr.mono (by decide)) T.m_is_number_of T.F_is_number_of.kp T.d_is_number_of (pda_cons (pd_var 0) pda_nil)))), fun ds S Q h => ?_⟩)
  · obtain ⟨_, rfl, _⟩ := h
    rfl
  · obtain ⟨d, rfl, hk, h⟩ := h
    walk_at "w"
    exact ⟨d, rfl, hk, h⟩
end K01
set_option Elab.async false
set_option linter.all false
set_option maxRecDepth 100000
set_option maxHeartbeats 4000000
namespace K01
open PySem PySem.Spec PyProof.Rows L2 DL
local macro_rules | `(tactic| walk_at "w") => `(tactic| conv => whnf)
local macro_rules | `(tactic| walk_at "g") => `(tactic| ((conv => whnf); repeat' (first | (refine IFB.t ?_ ?_; rfl; conv => whnf) | (refine IFB.f ?_ ?_; rfl; conv => whnf))))

def isShQ (qs : List Rat) : Bool := (qs.map fun q => decide (0 < q)).all id && decide (qs.sum = 1)
def isSh : D → Bool
  | .tup xs => !xs.isEmpty && (xs.all isNum && isShQ (xs.map numQ))
  | _ => false
def OddS (S : Sto) (d : D) : Prop := Kn S d ∧ ∀ xs, d = .tup xs → xs.length ≤ 9 ∧ ∀ x ∈ xs, OddV S x
theorem OddS.ext {S S' : Sto} {d : D} (h : OddS S d) (x : Ext S S') : OddS S' d := ⟨h.1.ext x, fun xs e => ⟨(h.2 xs e).1, fun z hz => ((h.2 xs e).2 z hz).ext x⟩⟩
theorem nums_fr {xs : List D} (h : xs.all isNum = true) : xs = (xs.map numQ).map fr := by
  rw [List.map_map]
  conv => lhs; rw [← List.map_id xs]
  apply List.map_congr_left
  intro x hx
  exact isNum_eq (List.all_eq_true.mp h x hx)
theorem nums_rb {S : Sto} {xs : List D} (h : ∀ x ∈ xs, OddV S x) (hn : xs.all isNum = true) : ∀ q ∈ xs.map numQ, RB 300 q := fun q hq => by
  obtain ⟨x, hx, rfl⟩ := List.mem_map.mp hq
  obtain ⟨t, b, rfl, hb, hg⟩ := isNum_inv (List.all_eq_true.mp hn x hx)
  obtain ⟨h1, h2⟩ := ((h _ hx).2 _ rfl).2 t b rfl
  exact rb_div hb h1 h2
theorem pos_num (q : Rat) : decide (q.num > 0) = decide (0 < q) := by
  rw [decide_eq_decide]
  have := (Rat.lt_iff 0 q)
  rw [show (0 : Rat).num = 0 from rfl, show (0 : Rat).den = 1 from rfl, Int.zero_mul] at this
  constructor
  · intro h; exact this.mpr (by have : 0 < q.num := h; omega)
  · intro h; have := this.mp h; show 0 < q.num; omega
def sp_is_shares_of : DSp := fun ds S Q _ => ∃ d, ds = [d] ∧ OddS S d ∧ Q (.bl (isSh d)) S
def sp_is_shares : DSp := sp_is_shares_of
def posD : D → D
  | .tup [.int t, .int _] => .bl (decide (t > 0))
  | d => d
theorem posD_fr (qs : List Rat) : (qs.map fr).map posD = (qs.map fun q => decide (0 < q)).map D.bl := by
  rw [List.map_map, List.map_map]
  apply List.map_congr_left
  intro q _
  show D.bl (decide (q.num > 0)) = D.bl (decide (0 < q))
  rw [pos_num]
def dvs (N : Int) (ws : List Int) : List Rat := ws.map fun (w : Int) => (w : Rat) / (N : Rat)
def divD (N : Int) : D → D
  | .int t => fr ((t : Rat) / (N : Rat))
  | d => d
theorem dvs_D (N : Int) (ws : List Int) : (ws.map D.int).map (divD N) = (dvs N ws).map fr := by
  unfold dvs
  rw [List.map_map, List.map_map]
  rfl
def sp_are_weights : DSp := fun ds S Q _ => ∃ d ws, ds = [d] ∧ SeqI S d ws ∧ ws ≠ [] ∧ (∀ w ∈ ws, 0 < w) ∧ ws.length ≤ 1000 ∧ Q (.bl true) S
def sp_shares_by : DSp := fun ds S Q _ => ∃ d ws, ds = [d] ∧ SeqI S d ws ∧ ws ≠ [] ∧ (∀ w ∈ ws, 0 < w) ∧ ws.length ≤ 1000 ∧ 0 < ws.sum ∧ ws.sum.natAbs < 2 ^ 1000 ∧ Q (shD (dvs ws.sum ws)) S
def sp_shares : DSp := sp_shares_by
theorem int_at {ms : List Int} {i : Nat} {x : D} (h : (ms.map D.int)[i]? = some x) : ∃ m, ms[i]? = some m ∧ x = .int m := by
  rw [List.getElem?_map] at h
  cases e : ms[i]? with
  | none => rw [e] at h; cases h
  | some m => rw [e] at h; exact ⟨m, rfl, (Option.some.inj h).symm⟩
/-- a comprehension that keeps some items -/
def WFl (xs : List D) (f : D → Bool) (S : Sto) : Nat → List D → Sto → Prop := fun i acc S' => i ≤ xs.length ∧ acc = (xs.take i).filter f ∧ Ext S S'
theorem lc_filt {xs : List D} {src : Sto → Prop} {p : Pat} {tt : RT} {te : RE} {vs : List Nat} {ρ : Ro} {S : Sto} {G : Addr → Sto → List D → Prop} (f : D → Bool) (hq : ∀ S', Ext S S' → src S')
    (hs : ∀ (i : Nat) x acc S', xs[i]? = some x → WFl xs f S i acc S' → Pat.put p x (dwipe ρ vs) fun ρ2 => tt ρ2 S' fun b S3 => IFB b (te ρ2 S3 fun d S4 => acc.length < sizeLine ∧ WFl xs f S (i + 1) (acc ++ [d]) S4) (WFl xs f S (i + 1) acc S3))
    (hd : ∀ S' q, Ext S S' → S' q = none → G q S' (xs.filter f)) :
    ∃ W : Nat → List D → Sto → Prop, W 0 [] S ∧ ∀ i acc S', W i acc S' → src S' ∧
      (∀ x, xs[i]? = some x → Pat.put p x (dwipe ρ vs) fun ρ2 => tt ρ2 S' fun b S3 => IFB b (te ρ2 S3 fun d S4 => acc.length < sizeLine ∧ W (i + 1) (acc ++ [d]) S4) (W (i + 1) acc S3)) ∧
      (i = xs.length → ∀ p, S' p = none → G p S' acc) := by
  refine ⟨WFl xs f S, ⟨Nat.zero_le _, by simp, Ext.refl S⟩, fun i acc S' w => ⟨hq S' w.2.2, fun x hx => hs i x acc S' hx w, fun h q hq => ?_⟩⟩
  subst h
  obtain ⟨_, rfl, e⟩ := w
  rw [List.take_length]
  exact hd S' q e hq
theorem take_filt {xs : List D} {i : Nat} {x : D} {f : D → Bool} (hx : xs[i]? = some x) : (xs.take (i + 1)).filter f = (xs.take i).filter f ++ (if f x then [x] else []) := by
  rw [List.take_succ, hx, List.filter_append]
  congr 1
  show [x].filter f = _
  cases hf : f x with
  | true => simp [hf]
  | false => simp [hf]
theorem wfl_t {xs : List D} {i : Nat} {f : D → Bool} {S S' S4 : Sto} {acc : List D} {x : D} (hx : xs[i]? = some x) (w : WFl xs f S i acc S') (hn : xs.length ≤ sizeLine) (hf : f x = true) (he : Ext S' S4) : acc.length < sizeLine ∧ WFl xs f S (i + 1) (acc ++ [x]) S4 := by
  obtain ⟨_, rfl, e⟩ := w
  have hi : i < xs.length := (List.getElem?_eq_some_iff.mp hx).1
  refine ⟨?_, hi, by rw [take_filt hx, hf]; rfl, e.trans he⟩
  have := List.length_filter_le f (xs.take i)
  rw [List.length_take] at this
  omega
theorem wfl_f {xs : List D} {i : Nat} {f : D → Bool} {S S' S4 : Sto} {acc : List D} {x : D} (hx : xs[i]? = some x) (w : WFl xs f S i acc S') (hf : f x = false) (he : Ext S' S4) : WFl xs f S (i + 1) acc S4 := by
  obtain ⟨_, rfl, e⟩ := w
  have hi : i < xs.length := (List.getElem?_eq_some_iff.mp hx).1
  exact ⟨hi, by rw [take_filt hx, hf]; simp, e.trans he⟩
theorem filt_empty (f : D → Bool) : ∀ xs : List D, (xs.filter fun x => !f x).isEmpty = xs.all f
  | [] => rfl
  | x :: xs => by
    have ih := filt_empty f xs
    rw [List.all_cons, List.filter_cons]
    cases h : f x with
    | true => simp only [Bool.not_true, Bool.false_eq_true, if_false, Bool.true_and]; exact ih
    | false => simp
theorem ok_is_shares_of {P : Program} {w : World} {K : PySem.W.Frag} {mg : Str → Option Value} {base : Heap} (T : Txt K mg) : FnOk P w K mg base (L2.CX P w) 4 T.a_is_shares_of T.fd_is_shares_of ["told"] (toSp K sp_is_shares_of) := by
  refine fnE T.F_is_shares_of sc_is_shares_of (fun ds S Q E h => ?_) (fun cdv A outer s H E RX hr => ⟨_, (pds_cons (pd_ifS (PDW.pt (pdw_or (pdt_not (pdt_tru (pd_isi1 .tup (pd_var 0) T.b_isinstance T.b_tuple))) (pdw_or (pdt_cmp (od_eq hr.units) (pd_blt cd_len T.b_len (by decide +kernel) (pda_cons (pd_var 0) pda_nil)) pd_int) (pdw_or1 (pdt_not (pdt_tru (pd_blt (cd_all rfl) T.b_all (by decide +kernel) (pda_cons (pd_lc (own := [("share", 1)]) (p := .n 1) rfl sc_is_shares_of.nd (pdi_it (pd_var 0)) (blkOk_by (N := ["told", "share"]) (sc := defScope s_is_shares_of) (own := [("share", 1)]) (by decide +kernel)) (fun _ _ _ _ _ => (pg_name (i := 1) sc_is_shares_of.nd rfl (by first | exact Or.inl rfl | exact Or.inr rfl))) (fun _ _ _ _ _ => pdts_nil) (fun _ _ _ _ _ => (pd_call takes0 (ok_is_number_of T) (hr.mono (by decide)) T.m_is_number_of T.F_is_number_of.kp T.d_is_number_of (pda_cons (pd_var 1) pda_nil)))) pda_nil)))))))) (pds_one (pd_ret pd_bl)) pds_nil)
    (pds_one (pd_ret (pd_and (pd_blt (cd_all rfl) T.b_all (by decide +kernel) (pda_cons (pd_lc (own := [("share", 1)]) (p := .n 1) rfl sc_is_shares_of.nd (pdi_it (pd_var 0)) (blkOk_by (N := ["told", "share"]) (sc := defScope s_is_shares_of) (own := [("share", 1)]) (by decide +kernel)) (fun _ _ _ _ _ => (pg_name (i := 1) sc_is_shares_of.nd rfl (by first | exact Or.inl rfl | exact Or.inr rfl))) (fun _ _ _ _ _ => pdts_nil) (fun _ _ _ _ _ => (pd_cmp od_gt (pd_ix (pd_var 1) pd_int) pd_int))) pda_nil)) (pd_one (pd_cmp (od_eq hr.units) (pd_call (takes_of rfl rfl rfl rfl) (ok_sum_of_all T) (hr.mono (by decide)) T.m_sum_of_all T.F_sum_of_all.kp T.d_sum_of_all (pda_cons (pd_var 0) pda_nil)) (pd_glob (v := .ref T.z_ONE) (d := (.tup [.int 1, .int 1])) T.m_ONE rfl T.v_ONE))))))), fun ds S Q h => ?_⟩)
  · obtain ⟨_, rfl, _⟩ := h
    rfl
  · obtain ⟨d, rfl, hk, h⟩ := h
    cases hd : d with
    | tup xs =>
      subst hd
      obtain ⟨hl, hx⟩ := hk.2 xs rfl
      walk_at "g"
      refine IFB.p (fun c0 => ?_) (fun c0 => ?_)
      · have e : xs = [] := List.eq_nil_of_length_eq_zero (by omega)
        subst e
        walk_at "g"
        exact ⟨S, Ext.refl _, h⟩
      · have hne : xs.isEmpty = false := by cases xs with
          | nil => exact absurd rfl c0
          | cons _ _ => rfl
        have eS : isSh (.tup xs) = (xs.all isNum && isShQ (xs.map numQ)) := by
          show (!xs.isEmpty && _) = _
          rw [hne]
          rfl
        rw [eS] at h
        walk_at "w"
        refine lc_xsm (fun x => D.bl (isNum x)) (fun _ _ => trivial) ?_ ?_
        · rintro i x acc S2 hi w2
          walk_at "w"
          refine IFB.t rfl ?_
          walk_at "w"
          refine ⟨x, rfl, (hx x (List.mem_of_getElem? hi)).ext w2.2.2, ?_⟩
          exact lc_leafL hi w2 (by show _ ≤ 16777216; omega) rfl (Ext.refl _)
        · rintro S2 v ex hv
          walk_at "w"
          refine ⟨xs.map isNum, .inl ⟨v, rfl, by rw [sup_same, List.map_map]; rfl⟩, ?_⟩
          have x2 := ex.trans (Ext.new hv (.lst (xs.map fun x => D.bl (isNum x))))
          rw [show (xs.map isNum).all id = xs.all isNum by rw [List.all_map]; rfl]
          cases hn : xs.all isNum with
          | false =>
            rw [hn] at h
            walk_at "g"
            exact ⟨S, x2, h⟩
          | true =>
            rw [hn] at h
            have e9 := nums_fr hn
            have hrb := nums_rb hx hn
            have hlq : (xs.map numQ).length ≤ 9 := by rw [List.length_map]; exact hl
            generalize xs.map numQ = qs at *
            subst e9
            walk_at "g"
            refine lc_xsm posD (fun _ _ => trivial) ?_ ?_
            · rintro i x acc S3 hi w3
              obtain ⟨q, hq, rfl⟩ := fr_at hi
              walk_at "w"
              refine IFB.t rfl ?_
              walk_at "w"
              refine ⟨_, rfl, ?_⟩
              walk_at "w"
              exact lc_leafL hi w3 (by rw [List.length_map]; show _ ≤ 16777216; omega) rfl (Ext.refl _)
            · rintro S3 v3 ex3 hv3
              rw [posD_fr]
              walk_at "w"
              refine ⟨qs.map fun q => decide (0 < q), .inl ⟨v3, rfl, sup_same⟩, ?_⟩
              have x3 := (x2.trans ex3).trans (Ext.new hv3 (.lst ((qs.map fun q => decide (0 < q)).map D.bl)))
              have eQ : isShQ qs = ((qs.map fun q => decide (0 < q)).all id && decide (qs.sum = 1)) := rfl
              rw [eQ] at h
              cases hp : (qs.map fun q => decide (0 < q)).all id with
              | false =>
                rw [hp] at h
                walk_at "g"
                exact ⟨S, x3, h⟩
              | true =>
                rw [hp] at h
                walk_at "g"
                refine ⟨qs, rfl, fun q hq => (hrb q hq).mono (by decide), take_rb hrb hlq, ?_⟩
                walk_at "w"
                refine ⟨_, _, pyr_fr _, pyr_fr 1, rfl, rfl, ?_⟩
                rw [frE_eq]
                exact ⟨S, x3, h⟩
    | ref a =>
      subst hd
      rcases hk.1 with ⟨xs, e⟩ | ⟨kvs, e⟩
      · walk_at "g"
        refine .inl ⟨xs, e, ?_⟩
        walk_at "g"
        exact ⟨S, Ext.refl _, h⟩
      · walk_at "g"
        refine .inr ⟨kvs, e, ?_⟩
        walk_at "g"
        exact ⟨S, Ext.refl _, h⟩
    | ty _ => subst hd; exact hk.1.elim
    | exc _ _ => subst hd; exact hk.1.elim
    | _ => subst hd; walk_at "g"; exact ⟨S, Ext.refl _, h⟩

theorem ok_is_shares {P : Program} {w : World} {K : PySem.W.Frag} {mg : Str → Option Value} {base : Heap} (T : Txt K mg) : FnOk P w K mg base (L2.CX P w) 5 T.a_is_shares T.fd_is_shares ["told"] (toSp K sp_is_shares) := by
  refine fnD T.F_is_shares sc_is_shares (fun ds S Q E h => ?_) (fun cdv A outer s H E RX hr => ⟨_, (pds_one (pd_ret (pd_call (takes_of rfl rfl rfl rfl) (ok_is_shares_of T) (hr.mono (by decide)) T.m_is_shares_of T.F_is_shares_of.kp T.d_is_shares_of (pda_cons (pd_var 0) pda_nil)))), fun ds S Q h => ?_⟩)
  · obtain ⟨_, rfl, _⟩ := h
    rfl
  · obtain ⟨d, rfl, hk, h⟩ := h
    walk_at "w"
    exact ⟨d, rfl, hk, h⟩

theorem ok_are_weights {P : Program} {w : World} {K : PySem.W.Frag} {mg : Str → Option Value} {base : Heap} (T : Txt K mg) : FnOk P w K mg base (L2.CX P w) 2 T.a_are_weights T.fd_are_weights ["told"] (toSp K sp_are_weights) := by
  refine fnE T.F_are_weights sc_are_weights (fun ds S Q E h => ?_) (fun cdv A outer s H E RX hr => ⟨_, (pds_one (pd_ret (pd_and (pd_call (takes_of rfl rfl rfl rfl) (ok_is_row_or_list T) (hr.mono (by decide)) T.m_is_row_or_list T.F_is_row_or_list.kp T.d_is_row_or_list (pda_cons (pd_var 0) pda_nil)) (pd_and (pd_cmp od_gt (pd_blt cd_len T.b_len (by decide +kernel) (pda_cons (pd_var 0) pda_nil)) pd_int) (pd_one (pd_blt (cd_all rfl) T.b_all (by decide +kernel) (pda_cons (pd_lc (own := [("weight", 1)]) (p := .n 1) rfl sc_are_weights.nd (pdi_it (pd_var 0)) (blkOk_by (N := ["told", "weight"]) (sc := defScope s_are_weights) (own := [("weight", 1)]) (by decide +kernel)) (fun _ _ _ _ _ => (pg_name (i := 1) sc_are_weights.nd rfl (by first | exact Or.inl rfl | exact Or.inr rfl))) (fun _ _ _ _ _ => pdts_nil) (fun _ _ _ _ _ => (pd_and (pd_call takes0 (ok_is_integer T) (hr.mono (by decide)) T.m_is_integer T.F_is_integer.kp T.d_is_integer (pda_cons (pd_var 1) pda_nil)) (pd_one (pd_cmp od_gt (pd_var 1) pd_int))))) pda_nil))))))), fun ds S Q h => ?_⟩)
  · obtain ⟨_, _, rfl, _⟩ := h
    rfl
  · obtain ⟨d, ws, rfl, hd, hne, hp, hl, h⟩ := h
    have h0 := List.length_pos_iff.mpr hne
    rcases hd with ⟨p, rfl, e⟩ | rfl
    · skip
      walk_at "w"
      refine ⟨_, ws, rfl, .inl ⟨p, rfl, e⟩, ?_⟩
      walk_at "w"
      refine IFB.t rfl ?_
      walk_at "w"
      refine ⟨_, .inl ⟨p, rfl, e⟩, ?_⟩
      walk_at "w"
      rw [List.length_map]
      refine IFB.t (decide_eq_true (by omega)) ?_
      walk_at "w"
      refine ⟨_, .inl ⟨p, rfl, e⟩, ?_⟩
      refine lc_xsm (fun _ => D.bl true) (fun S' ex => .inl ⟨p, rfl, ex _ _ e⟩) ?_ ?_
      · rintro i x acc S2 hi w2
        obtain ⟨m, hm, rfl⟩ := int_at hi
        have hm0 := hp m (List.mem_of_getElem? hm)
        walk_at "w"
        refine IFB.t rfl ?_
        walk_at "w"
        refine ⟨_, rfl, trivial, ?_⟩
        walk_at "w"
        refine IFB.t rfl ?_
        walk_at "w"
        exact lc_leafL hi w2 (by rw [List.length_map]; show _ ≤ 16777216; omega) (by rw [decide_eq_true hm0]) (Ext.refl _)
      · rintro S2 v ex hv
        walk_at "w"
        refine ⟨(ws.map D.int).map fun _ => true, .inl ⟨v, rfl, by rw [sup_same, trues]⟩, ?_⟩
        rw [show ((ws.map D.int).map fun _ => true).all id = true by simp]
        exact ⟨S, ex.trans (Ext.new hv _), h⟩
    · skip
      walk_at "w"
      refine ⟨_, ws, rfl, .inr rfl, ?_⟩
      walk_at "w"
      refine IFB.t rfl ?_
      walk_at "w"
      rw [List.length_map]
      refine IFB.t (decide_eq_true (by omega)) ?_
      walk_at "w"
      refine lc_xsm (fun _ => D.bl true) (fun S' ex => trivial) ?_ ?_
      · rintro i x acc S2 hi w2
        obtain ⟨m, hm, rfl⟩ := int_at hi
        have hm0 := hp m (List.mem_of_getElem? hm)
        walk_at "w"
        refine IFB.t rfl ?_
        walk_at "w"
        refine ⟨_, rfl, trivial, ?_⟩
        walk_at "w"
        refine IFB.t rfl ?_
        walk_at "w"
        exact lc_leafL hi w2 (by rw [List.length_map]; show _ ≤ 16777216; omega) (by rw [decide_eq_true hm0]) (Ext.refl _)
      · rintro S2 v ex hv
        walk_at "w"
        refine ⟨(ws.map D.int).map fun _ => true, .inl ⟨v, rfl, by rw [sup_same, trues]⟩, ?_⟩
        rw [show ((ws.map D.int).map fun _ => true).all id = true by simp]
        exact ⟨S, ex.trans (Ext.new hv _), h⟩

theorem ok_shares_by {P : Program} {w : World} {K : PySem.W.Frag} {mg : Str → Option Value} {base : Heap} (T : Txt K mg) : FnOk P w K mg base (L2.CX P w) 2 T.a_shares_by T.fd_shares_by ["weights"] (toSp K sp_shares_by) := by
  refine fnE T.F_shares_by sc_shares_by (fun ds S Q E h => ?_) (fun cdv A outer s H E RX hr => ⟨_, (pds_cons (pd_set 1 sc_shares_by.nd (pd_blt (cd_sumA rfl) T.b_sum (by decide +kernel) (pda_cons (pd_var 0) pda_nil)))
    (pds_one (pd_ret (pd_bltTy cd_tuple T.b_tuple (by decide +kernel) (pda_cons (pd_lc (own := [("weight", 2)]) (p := .n 2) rfl sc_shares_by.nd (pdi_it (pd_var 0)) (blkOk_by (N := ["weights", "total", "weight"]) (sc := defScope s_shares_by) (own := [("weight", 2)]) (by decide +kernel)) (fun _ _ _ _ _ => (pg_name (i := 2) sc_shares_by.nd rfl (by first | exact Or.inl rfl | exact Or.inr rfl))) (fun _ _ _ _ _ => pdts_nil) (fun _ _ _ _ _ => (pd_call takes0 (ok_lowest T) (hr.mono (by decide)) T.m_lowest T.F_lowest.kp T.d_lowest (pda_cons (pd_var 2) (pda_cons (pd_var 1) pda_nil))))) pda_nil))))), fun ds S Q h => ?_⟩)
  · obtain ⟨_, _, rfl, _⟩ := h
    rfl
  · obtain ⟨d, ws, rfl, hd, hne, hp, hl, hs0, hs1, h⟩ := h
    rcases hd with ⟨p, rfl, e⟩ | rfl
    · skip
      walk_at "w"
      refine ⟨ws, .inl ⟨p, rfl, e⟩, ?_⟩
      walk_at "w"
      refine ⟨_, .inl ⟨p, rfl, e⟩, ?_⟩
      walk_at "w"
      refine lc_xsm (divD ws.sum) (fun S' ex => .inl ⟨p, rfl, ex _ _ e⟩) ?_ ?_
      · rintro i x acc S2 hi w2
        obtain ⟨m, hm, rfl⟩ := int_at hi
        walk_at "w"
        refine IFB.t rfl ?_
        walk_at "w"
        refine ⟨_, _, rfl, hs0, lt_up hs1 (by decide), ?_⟩
        exact lc_leafL hi w2 (by rw [List.length_map]; show _ ≤ 16777216; omega) rfl (Ext.refl _)
      · rintro S2 v ex hv
        walk_at "w"
        refine ⟨_, .inl ⟨v, rfl, sup_same⟩, ?_⟩
        rw [dvs_D]
        exact ⟨S, ex.trans (Ext.new hv _), h⟩
    · skip
      walk_at "w"
      refine ⟨ws, rfl, ?_⟩
      walk_at "w"
      refine lc_xsm (divD ws.sum) (fun S' ex => trivial) ?_ ?_
      · rintro i x acc S2 hi w2
        obtain ⟨m, hm, rfl⟩ := int_at hi
        walk_at "w"
        refine IFB.t rfl ?_
        walk_at "w"
        refine ⟨_, _, rfl, hs0, lt_up hs1 (by decide), ?_⟩
        exact lc_leafL hi w2 (by rw [List.length_map]; show _ ≤ 16777216; omega) rfl (Ext.refl _)
      · rintro S2 v ex hv
        walk_at "w"
        refine ⟨_, .inl ⟨v, rfl, sup_same⟩, ?_⟩
        rw [dvs_D]
        exact ⟨S, ex.trans (Ext.new hv _), h⟩

theorem ok_shares {P : Program} {w : World} {K : PySem.W.Frag} {mg : Str → Option Value} {base : Heap} (T : Txt K mg) : FnOk P w K mg base (L2.CX P w) 3 T.a_shares T.fd_shares ["weights"] (toSp K sp_shares) := by
  refine fnD T.F_shares sc_shares (fun ds S Q E h => ?_) (fun cdv A outer s H E RX hr => ⟨_, (pds_cons (pd_ifS (pdt_not (pdt_tru (pd_call (takes_of rfl rfl rfl rfl) (ok_are_weights T) (hr.mono (by decide)) T.m_are_weights T.F_are_weights.kp T.d_are_weights (pda_cons (pd_var 0) pda_nil)))) (pds_one pd_never) pds_nil)
    (pds_one (pd_ret (pd_call (takes_of rfl rfl rfl rfl) (ok_shares_by T) (hr.mono (by decide)) T.m_shares_by T.F_shares_by.kp T.d_shares_by (pda_cons (pd_var 0) pda_nil))))), fun ds S Q h => ?_⟩)
  · obtain ⟨_, _, rfl, _⟩ := h
    rfl
  · obtain ⟨d, ws, rfl, hd, hne, hp, hl, hs0, hs1, h⟩ := h
    walk_at "w"
    refine ⟨d, ws, rfl, hd, hne, hp, hl, ?_⟩
    walk_at "g"
    exact ⟨d, ws, rfl, hd, hne, hp, hl, hs0, hs1, h⟩
end K01
set_option Elab.async false
set_option linter.all false
set_option maxRecDepth 100000
set_option maxHeartbeats 4000000
namespace K01
open PySem PySem.Spec PyProof.Rows L2 DL
local macro_rules | `(tactic| walk_at "w") => `(tactic| conv => whnf)
local macro_rules | `(tactic| walk_at "g") => `(tactic| ((conv => whnf); repeat' (first | (refine IFB.t ?_ ?_; rfl; conv => whnf) | (refine IFB.f ?_ ?_; rfl; conv => whnf))))

def DeckD (S : Sto) (a : Addr) : Prop := ∃ d0 d1 : Int, S a = some (.lst [.int d0, .int d1]) ∧ 0 ≤ d1 ∧ d1 < 2 ^ 64
theorem DeckD.ne {S : Sto} {a p : Addr} (h : DeckD S a) (hp : S p = none) : p ≠ a := fun z => by
  obtain ⟨_, _, e, _⟩ := h
  rw [← z, hp] at e
  cases e
theorem DeckD.sup {S : Sto} {a p : Addr} {x : Cell} (h : DeckD S a) (hp : p ≠ a) : DeckD (sup S p x) a := by
  obtain ⟨w0, w1, e, r⟩ := h
  exact ⟨w0, w1, by rw [sup_ne hp.symm]; exact e, r⟩
/-- beside a, what was there stays -/
def ExtB (a : Addr) (S S' : Sto) : Prop := ∀ b c, b ≠ a → S b = some c → S' b = some c
theorem ExtB.refl (a : Addr) (S : Sto) : ExtB a S S := fun _ _ _ h => h
theorem ExtB.trans {a : Addr} {S S1 S2 : Sto} (x : ExtB a S S1) (y : ExtB a S1 S2) : ExtB a S S2 := fun b c n h => y b c n (x b c n h)
theorem ExtB.of {a : Addr} {S S' : Sto} (h : ∀ b, b ≠ a → S' b = S b) : ExtB a S S' := fun b c n e => by rw [h b n]; exact e
theorem ExtB.ext {a : Addr} {S S' : Sto} (h : Ext S S') : ExtB a S S' := fun b c _ e => h b c e
theorem ExtB.free {a : Addr} {S S' : Sto} (x : ExtB a S S') {p : Addr} (hn : p ≠ a) (h : S' p = none) : S p = none := by
  cases q : S p with
  | none => rfl
  | some o => rw [x p o hn q] at h; cases h
theorem ExtB.wr {a : Addr} {S S' : Sto} {p : Addr} {c : Cell} (e : ExtB a S S') (h : S p = none) : ExtB a S (sup S' p c) := fun b o n q => by
  rw [sup_ne (fun z => ?_)]
  · exact e b o n q
  · subst z; rw [h] at q; cases q
theorem DeckD.ext {S S' : Sto} {a : Addr} (h : DeckD S a) (e : Ext S S') : DeckD S' a := by
  obtain ⟨w0, w1, q, r⟩ := h
  exact ⟨w0, w1, e _ _ q, r⟩
def sp_law_deck : DSp := fun ds S Q _ => ∃ (xs : List Int) (p : Int), ds = [.fro (xs.map D.int), .int p] ∧ 0 ≤ p ∧ p < 2 ^ 40 ∧ ∀ a S', S a = none → DeckD S' a → (∀ b, b ≠ a → S' b = S b) → Q (.ref a) S'
def sp_law_take : DSp := fun ds S Q _ => ∃ (a : Addr) (u : Int), ds = [.ref a, .int u] ∧ DeckD S a ∧ 0 < u ∧ u < 2 ^ 200 ∧ ∀ (f : Int) S', 0 ≤ f → f < u → DeckD S' a → (∀ b, b ≠ a → S' b = S b) → Q (.int f) S'
def sp_law_gcd : DSp := fun ds S Q _ => ∃ u v : Nat, ds = [.int (u : Int), .int (v : Int)] ∧ Q (.int ((Nat.gcd u v : Nat) : Int)) S
def sp_law_pair : DSp := fun ds S Q _ => ∃ t b : Int, ds = [.int t, .int b] ∧ 0 < b ∧ b.natAbs < 2 ^ 8000 ∧ Q (fr ((t : Rat) / (b : Rat))) S
def sp_law_plus : DSp := fun ds S Q _ => ∃ a b, ds = [fr a, fr b] ∧ RB 3000 a ∧ RB 3000 b ∧ Q (fr (a + b)) S
theorem atI_map {xs : List Int} {p : Int} (h : 0 ≤ p) (h1 : p < xs.length) : ∃ c, atI (xs.map D.int) p = some (.int c) := by
  obtain ⟨n, rfl⟩ := Int.eq_ofNat_of_zero_le h
  have : n < xs.length := by omega
  exact ⟨xs[n], atI_nat (by simp [this])⟩
theorem abs_nat (i : Int) : (if i < 0 then -i else i) = (i.natAbs : Int) := by split <;> omega
theorem small_of {i j : Int} (h0 : 0 ≤ i) (h : i < 2 ^ 64) : CMulW i j ∨ CMul i j := small_l (by omega) h
theorem ok_law_deck {P : Program} {w : World} {K : PySem.W.Frag} {mg : Str → Option Value} {base : Heap} (T : Txt K mg) : FnOk P w K mg base (L2.CX P w) 1 T.a_law_deck T.fd_law_deck ["script", "at"] (toSp K sp_law_deck) := by
  refine fnD T.F_law_deck sc_law_deck (fun ds S Q E h => ?_) (fun cdv A outer s H E RX hr => ⟨_, (pds_cons (pd_set 2 sc_law_deck.nd pd_int)
    (pds_cons (pd_ifS (pdt_cmp od_lt (pd_var 1) (pd_blt cd_len T.b_len (by decide +kernel) (pda_cons (pd_var 0) pda_nil))) (pds_one (pd_set 2 sc_law_deck.nd (pd_ix (pd_var 0) (pd_var 1)))) pds_nil)
    (pds_cons (pd_set 3 sc_law_deck.nd (pd_bin od_mod (pd_bltTy cd_int T.b_int (by decide +kernel) (pda_cons (pd_bin od_add (pd_bin od_add (pd_var 2) (pd_bin od_mul pd_int (pd_var 1))) pd_int) pda_nil)) pd_int))
    (pds_cons (pd_set 3 sc_law_deck.nd (pd_bin od_mod (pd_bltTy cd_int T.b_int (by decide +kernel) (pda_cons (pd_bin od_add (pd_bin od_add (pd_bin od_mul (pd_bin od_mul (pd_var 3) (pd_var 3)) (pd_var 3)) (pd_bin od_mul pd_int (pd_var 1))) pd_int) pda_nil)) pd_int))
    (pds_cons (pd_ifS (pdt_cmp od_lt (pd_var 2) (pd_bin od_pow pd_int pd_int)) (pds_one (pd_ret (pd_lst (pda_cons pd_int (pda_cons (pd_var 3) pda_nil))))) pds_nil)
    (pds_one (pd_ret (pd_lst (pda_cons (pd_bin od_sub (pd_var 2) (pd_bin od_pow pd_int pd_int)) (pda_cons (pd_var 3) pda_nil)))))))))), fun ds S Q h => ?_⟩)
  · obtain ⟨_, _, rfl, _⟩ := h
    rfl
  · obtain ⟨xs, p, rfl, h0, h1, h⟩ := h
    walk_at "w"
    refine ⟨_, .inr rfl, ?_⟩
    walk_at "w"
    refine IFB.p (fun c1 => ?_) (fun c1 => ?_)
    · obtain ⟨c, ec⟩ := atI_map (xs := xs) h0 (by simpa using c1)
      walk_at "w"
      refine ⟨_, _, .inr rfl, ec, ?_⟩
      walk_at "w"
      refine ⟨small_l (by decide) (by decide), ?_⟩
      walk_at "w"
      refine ⟨by decide, ?_⟩
      generalize hm : (_ + _ + (104729 : Int)) % _ = mx
      have hx0 : 0 ≤ mx := by rw [← hm]; exact Int.emod_nonneg _ (by decide)
      have hx1 : mx < 2 ^ 64 := by rw [← hm]; exact Int.lt_of_lt_of_le (Int.emod_lt_of_pos _ (by decide)) (by decide)
      walk_at "w"
      refine ⟨small_of hx0 hx1, ?_⟩
      walk_at "w"
      refine ⟨small_r (by omega) hx1, ?_⟩
      walk_at "w"
      refine ⟨small_l (by decide) (by decide), ?_⟩
      walk_at "w"
      refine ⟨by decide, ?_⟩
      walk_at "w"
      refine ⟨by decide, ?_⟩
      walk_at "w"
      refine IFB.p (fun c2 => ?_) (fun c2 => ?_)
      · walk_at "w"
        intro a ha
        exact h a _ ha ⟨_, _, sup_same, Int.emod_nonneg _ (by decide), Int.lt_of_lt_of_le (Int.emod_lt_of_pos _ (by decide)) (by decide)⟩ (fun b hb => sup_ne hb)
      · walk_at "w"
        refine ⟨by decide, ?_⟩
        walk_at "w"
        intro a ha
        exact h a _ ha ⟨_, _, sup_same, Int.emod_nonneg _ (by decide), Int.lt_of_lt_of_le (Int.emod_lt_of_pos _ (by decide)) (by decide)⟩ (fun b hb => sup_ne hb)
    · skip
      walk_at "w"
      refine ⟨small_l (by decide) (by decide), ?_⟩
      walk_at "w"
      refine ⟨by decide, ?_⟩
      generalize hm : (_ + _ + (104729 : Int)) % _ = mx
      have hx0 : 0 ≤ mx := by rw [← hm]; exact Int.emod_nonneg _ (by decide)
      have hx1 : mx < 2 ^ 64 := by rw [← hm]; exact Int.lt_of_lt_of_le (Int.emod_lt_of_pos _ (by decide)) (by decide)
      walk_at "w"
      refine ⟨small_of hx0 hx1, ?_⟩
      walk_at "w"
      refine ⟨small_r (by omega) hx1, ?_⟩
      walk_at "w"
      refine ⟨small_l (by decide) (by decide), ?_⟩
      walk_at "w"
      refine ⟨by decide, ?_⟩
      walk_at "w"
      refine ⟨by decide, ?_⟩
      walk_at "w"
      refine IFB.p (fun c2 => ?_) (fun c2 => ?_)
      · walk_at "w"
        intro a ha
        exact h a _ ha ⟨_, _, sup_same, Int.emod_nonneg _ (by decide), Int.lt_of_lt_of_le (Int.emod_lt_of_pos _ (by decide)) (by decide)⟩ (fun b hb => sup_ne hb)
      · walk_at "w"
        refine ⟨by decide, ?_⟩
        walk_at "w"
        intro a ha
        exact h a _ ha ⟨_, _, sup_same, Int.emod_nonneg _ (by decide), Int.lt_of_lt_of_le (Int.emod_lt_of_pos _ (by decide)) (by decide)⟩ (fun b hb => sup_ne hb)

theorem ok_law_take {P : Program} {w : World} {K : PySem.W.Frag} {mg : Str → Option Value} {base : Heap} (T : Txt K mg) : FnOk P w K mg base (L2.CX P w) 1 T.a_law_take T.fd_law_take ["deck", "many"] (toSp K sp_law_take) := by
  refine fnD T.F_law_take sc_law_take (fun ds S Q E h => ?_) (fun cdv A outer s H E RX hr => ⟨_, (pds_cons (pd_ifS (pdt_cmp od_gt (pd_ix (pd_var 0) pd_int) pd_int) (pds_cons (pd_set 2 sc_law_take.nd (pd_bin od_mod (pd_bltTy cd_int T.b_int (by decide +kernel) (pda_cons (pd_ix (pd_var 0) pd_int) pda_nil)) (pd_var 1)))
    (pds_cons (pd_asg (pd_bin od_fdiv (pd_ix (pd_var 0) pd_int) (pd_var 1)) (pdg_sub sd_list (pd_var 0) pd_int))
    (pds_one (pd_ret (pd_var 2))))) pds_nil)
    (pds_cons (pd_asg (pd_bin od_mod (pd_bltTy cd_int T.b_int (by decide +kernel) (pda_cons (pd_bin od_add (pd_bin od_mul (pd_ix (pd_var 0) pd_int) pd_int) pd_int) pda_nil)) (pd_bin od_pow pd_int pd_int)) (pdg_sub sd_list (pd_var 0) pd_int))
    (pds_one (pd_ret (pd_bin od_mod (pd_bin od_fdiv (pd_ix (pd_var 0) pd_int) (pd_bin od_pow pd_int pd_int)) (pd_var 1)))))), fun ds S Q h => ?_⟩)
  · obtain ⟨_, _, rfl, _⟩ := h
    rfl
  · obtain ⟨a, u, rfl, ⟨w0, w1, e, h1, h2⟩, h6, h7, h⟩ := h
    walk_at "w"
    refine ⟨_, _, .inl ⟨a, rfl, e⟩, rfl, ?_⟩
    walk_at "w"
    refine IFB.p (fun c1 => ?_) (fun c1 => ?_)
    · walk_at "w"
      refine ⟨_, _, .inl ⟨a, rfl, e⟩, rfl, ?_⟩
      walk_at "w"
      refine ⟨h6, ?_⟩
      walk_at "w"
      refine ⟨_, _, .inl ⟨a, rfl, e⟩, rfl, ?_⟩
      walk_at "w"
      refine ⟨div_s h6 (Int.lt_trans h7 (by decide)), ?_⟩
      walk_at "w"
      refine ⟨_, 0, e, rfl, ?_⟩
      walk_at "w"
      exact h _ _ (Int.emod_nonneg _ (by omega)) (Int.emod_lt_of_pos _ h6) ⟨_, _, sup_same, h1, h2⟩ (fun b hb => sup_ne hb)
    · walk_at "w"
      refine ⟨_, _, .inl ⟨a, rfl, e⟩, rfl, ?_⟩
      walk_at "w"
      refine ⟨small_of h1 h2, ?_⟩
      walk_at "w"
      refine ⟨by decide, ?_⟩
      walk_at "w"
      refine ⟨by decide, ?_⟩
      walk_at "w"
      refine ⟨_, 1, e, rfl, ?_⟩
      generalize hm : (w1 * _ + _) % _ = mx
      have hx0 : 0 ≤ mx := by rw [← hm]; exact Int.emod_nonneg _ (by decide)
      have hx1 : mx < 2 ^ 64 := by rw [← hm]; exact Int.lt_of_lt_of_le (Int.emod_lt_of_pos _ (by decide)) (by decide)
      have e1 : sup S a (.lst (List.set [.int w0, .int w1] 1 (.int mx))) a = some (.lst [.int w0, .int mx]) := sup_same
      walk_at "w"
      refine ⟨_, _, .inl ⟨a, rfl, e1⟩, rfl, ?_⟩
      walk_at "w"
      refine ⟨by decide, ?_⟩
      walk_at "w"
      refine ⟨div_s (by decide) (by decide), ?_⟩
      walk_at "w"
      refine ⟨h6, ?_⟩
      walk_at "w"
      exact h _ _ (Int.emod_nonneg _ (by omega)) (Int.emod_lt_of_pos _ h6) ⟨_, _, e1, hx0, hx1⟩ (fun b hb => sup_ne hb)

theorem ok_law_gcd {P : Program} {w : World} {K : PySem.W.Frag} {mg : Str → Option Value} {base : Heap} (T : Txt K mg) : FnOk P w K mg base (L2.CX P w) 1 T.a_law_gcd T.fd_law_gcd ["u", "v"] (toSp K sp_law_gcd) := by
  refine fnD T.F_law_gcd sc_law_gcd (fun ds S Q E h => ?_) (fun cdv A outer s H E RX hr => ⟨_, (pds_cons (pd_while (passes_of rfl) (pdt_cmp (od_ne hr.units) (pd_var 1) pd_int) (pds_one (pd_par 0 1 rfl sc_law_gcd.nd (pda_cons (pd_var 1) (pda_cons (pd_bin od_mod (pd_bltTy cd_int T.b_int (by decide +kernel) (pda_cons (pd_var 0) pda_nil)) (pd_var 1)) pda_nil)) rfl)))
    (pds_one (pd_ret (pd_var 0)))), fun ds S Q h => ?_⟩)
  · obtain ⟨_, _, rfl, _⟩ := h
    rfl
  · obtain ⟨u, v, rfl, h⟩ := h
    walk_at "w"
    refine ⟨fun m ρ' S' => S' = S ∧ ∃ x : Nat, ρ' = [some (.int (x : Int)), some (.int (m : Int))] ∧ Nat.gcd x m = Nat.gcd u v, ⟨v, rfl, u, rfl, rfl⟩, ?_⟩
    rintro m _ _ ⟨rfl, x, rfl, hg⟩
    walk_at "w"
    refine IFB.np (fun c1 => ?_) (fun c1 => ?_)
    · walk_at "w"
      refine ⟨by omega, ?_⟩
      walk_at "w"
      exact ⟨x % m, Nat.mod_lt _ (by omega), rfl, m, rfl, by rw [Nat.gcd_comm, ← Nat.gcd_rec, Nat.gcd_comm]; exact hg⟩
    · have e : m = 0 := by omega
      subst e
      rw [Nat.gcd_zero_right] at hg
      subst hg
      walk_at "w"
      exact h

theorem ok_law_pair {P : Program} {w : World} {K : PySem.W.Frag} {mg : Str → Option Value} {base : Heap} (T : Txt K mg) : FnOk P w K mg base (L2.CX P w) 2 T.a_law_pair T.fd_law_pair ["upper", "lower"] (toSp K sp_law_pair) := by
  refine fnD T.F_law_pair sc_law_pair (fun ds S Q E h => ?_) (fun cdv A outer s H E RX hr => ⟨_, (pds_cons (pd_set 2 sc_law_pair.nd (pd_call (takes_of rfl rfl rfl rfl) (ok_law_gcd T) (hr.mono (by decide)) T.m_law_gcd T.F_law_gcd.kp T.d_law_gcd (pda_cons (pd_blt cd_abs T.b_abs (by decide +kernel) (pda_cons (pd_var 0) pda_nil)) (pda_cons (pd_blt cd_abs T.b_abs (by decide +kernel) (pda_cons (pd_var 1) pda_nil)) pda_nil))))
    (pds_cons (pd_ifS (pdt_cmp od_lt (pd_var 1) pd_int) (pds_one (pd_set 2 sc_law_pair.nd (pd_neg (pd_var 2)))) pds_nil)
    (pds_one (pd_ret (pd_tup (pda_cons (pd_bin od_fdiv (pd_var 0) (pd_var 2)) (pda_cons (pd_bin od_fdiv (pd_var 1) (pd_var 2)) pda_nil))))))), fun ds S Q h => ?_⟩)
  · obtain ⟨_, _, rfl, _⟩ := h
    rfl
  · obtain ⟨t, b, rfl, h0, hb, h⟩ := h
    walk_at "w"
    rw [abs_nat, abs_nat]
    refine ⟨t.natAbs, b.natAbs, rfl, ?_⟩
    walk_at "w"
    refine IFB.f (decide_eq_false (by omega)) ?_
    walk_at "w"
    refine ⟨gcd_w h0 hb (by decide) (by decide) _, ?_⟩
    walk_at "w"
    refine ⟨gcd_w h0 hb (by decide) (by decide) _, ?_⟩
    walk_at "w"
    rw [low_fr h0]
    exact h

theorem ok_law_plus {P : Program} {w : World} {K : PySem.W.Frag} {mg : Str → Option Value} {base : Heap} (T : Txt K mg) : FnOk P w K mg base (L2.CX P w) 3 T.a_law_plus T.fd_law_plus ["u", "v"] (toSp K sp_law_plus) := by
  refine fnD T.F_law_plus sc_law_plus (fun ds S Q E h => ?_) (fun cdv A outer s H E RX hr => ⟨_, (pds_one (pd_ret (pd_call (takes_of rfl rfl rfl rfl) (ok_law_pair T) (hr.mono (by decide)) T.m_law_pair T.F_law_pair.kp T.d_law_pair (pda_cons (pd_bin od_add (pd_bin od_mul (pd_ix (pd_var 0) pd_int) (pd_ix (pd_var 1) pd_int)) (pd_bin od_mul (pd_ix (pd_var 1) pd_int) (pd_ix (pd_var 0) pd_int))) (pda_cons (pd_bin od_mul (pd_ix (pd_var 0) pd_int) (pd_ix (pd_var 1) pd_int)) pda_nil))))), fun ds S Q h => ?_⟩)
  · obtain ⟨_, _, rfl, _⟩ := h
    rfl
  · obtain ⟨a, b, rfl, ha, hb, h⟩ := h
    have b1 : ((b.den : Int)).natAbs < 2 ^ 3000 := by rw [Int.natAbs_natCast]; exact hb.2
    have a1 : ((a.den : Int)).natAbs < 2 ^ 3000 := by rw [Int.natAbs_natCast]; exact ha.2
    walk_at "w"
    refine ⟨.int a.num, rfl, ?_⟩
    walk_at "w"
    refine ⟨.int (b.den : Int), rfl, ?_⟩
    walk_at "w"
    refine ⟨.inl (wide_mul ha.1 b1 (by decide) (by decide) (by decide)), ?_⟩
    walk_at "w"
    refine ⟨.int b.num, rfl, ?_⟩
    walk_at "w"
    refine ⟨.int (a.den : Int), rfl, ?_⟩
    walk_at "w"
    refine ⟨.inl (wide_mul hb.1 a1 (by decide) (by decide) (by decide)), ?_⟩
    walk_at "w"
    refine ⟨.int (a.den : Int), rfl, ?_⟩
    walk_at "w"
    refine ⟨.int (b.den : Int), rfl, ?_⟩
    walk_at "w"
    refine ⟨.inl (wide_mul a1 b1 (by decide) (by decide) (by decide)), ?_⟩
    walk_at "w"
    refine ⟨_, _, rfl, Int.mul_pos (den_pos' a) (den_pos' b), lt_up (wide_lt a1 b1) (by decide), ?_⟩
    rw [add_fr]
    exact h
theorem rec_law_same {P : Program} {w : World} {K : PySem.W.Frag} {mg : Str → Option Value} {base : Heap} (T : Txt K mg) (n : Nat) : FnOk P w K mg base (L2.CX P w) n T.a_law_same T.fd_law_same ["found", "due"] (toSp K (sp_same n)) := by
  induction n with
  | zero => exact fnok0.imp fun vs H Q E ⟨_, _, _, _, _, _, ⟨_, _, _, h, _⟩, _⟩ => h.elim
  | succ n ih =>
    refine fnE (k := n) (sp := sp_same (n + 1)) T.F_law_same sc_law_same (fun ds S Q E h => ?_) (fun cdv A outer s H E RX hr => ⟨_, (pds_cons (pd_ifS (pdt_tru (pd_isi2 .tup .lst (pd_var 1) T.b_isinstance T.b_tuple T.b_list)) (pds_cons (pd_ifS (PDW.pt (pdw_or (pdt_cmp (od_ne hr.units) (pd_isi1 .tup (pd_var 0) T.b_isinstance T.b_tuple) (pd_isi1 .tup (pd_var 1) T.b_isinstance T.b_tuple)) (pdw_or1 (pdt_cmp (od_ne hr.units) (pd_isi1 .lst (pd_var 0) T.b_isinstance T.b_list) (pd_isi1 .lst (pd_var 1) T.b_isinstance T.b_list))))) (pds_one (pd_ret pd_bl)) pds_nil)
      (pds_cons (pd_ifS (pdt_cmp (od_ne hr.units) (pd_blt cd_len T.b_len (by decide +kernel) (pda_cons (pd_var 0) pda_nil)) (pd_blt cd_len T.b_len (by decide +kernel) (pda_cons (pd_var 1) pda_nil))) (pds_one (pd_ret pd_bl)) pds_nil)
      (pds_one (pd_ret (pd_cmp (od_eqE hr.units) (pd_lc (own := [("at", 2)]) (p := .n 2) rfl sc_law_same.nd (pdi_range1 T.b_range (pda_cons (pd_blt cd_len T.b_len (by decide +kernel) (pda_cons (pd_var 1) pda_nil)) pda_nil)) (blkOk_by (N := ["found", "due", "at"]) (sc := defScope s_law_same) (own := [("at", 2)]) (by decide +kernel)) (fun _ _ _ _ _ => (pg_name (i := 2) sc_law_same.nd rfl (by first | exact Or.inl rfl | exact Or.inr rfl))) (fun _ _ _ _ _ => (pdts_one (pdt_not (pdt_tru (pd_call takes0 ih hr T.m_law_same T.F_law_same.kp T.d_law_same (pda_cons (pd_ix (pd_var 0) (pd_var 2)) (pda_cons (pd_ix (pd_var 1) (pd_var 2)) pda_nil))))))) (fun _ _ _ _ _ => (pd_var 2))) (pd_lst pda_nil)))))) pds_nil)
      (pds_cons (pd_ifS (pdt_cmp od_is (pd_var 1) pd_non) (pds_one (pd_ret (pd_cmp od_is (pd_var 0) pd_non))) pds_nil)
      (pds_cons (pd_ifS (pdt_tru (pd_isi1 .str (pd_var 1) T.b_isinstance T.b_str)) (pds_one (pd_ret (pd_and (pd_isi1 .str (pd_var 0) T.b_isinstance T.b_str) (pd_one (pd_cmp (od_eq hr.units) (pd_var 0) (pd_var 1)))))) pds_nil)
      (pds_cons (pd_ifS (PDW.pt (pdw_or (pdt_tru (pd_isi1 .bool (pd_var 1) T.b_isinstance T.b_bool)) (pdw_or1 (pdt_tru (pd_isi1 .bool (pd_var 0) T.b_isinstance T.b_bool))))) (pds_one (pd_ret (pd_and (pd_isi1 .bool (pd_var 1) T.b_isinstance T.b_bool) (pd_and (pd_isi1 .bool (pd_var 0) T.b_isinstance T.b_bool) (pd_one (pd_cmp (od_eq hr.units) (pd_var 0) (pd_var 1))))))) pds_nil)
      (pds_one (pd_ret (pd_and (pd_isi1 .int (pd_var 0) T.b_isinstance T.b_int) (pd_one (pd_cmp (od_eq hr.units) (pd_var 0) (pd_var 1)))))))))), fun ds S Q h => ?_⟩)
    · obtain ⟨_, _, rfl, _⟩ := h
      rfl
    · skip
      obtain ⟨told, due, rfl, hs, h⟩ := h
      cases due with
      | non => cases (show told = .non from hs); walk_at "g"; exact ⟨S, Ext.refl _, h⟩
      | bl b => cases (show told = .bl b from hs); walk_at "g"; rw [decide_eq_true rfl]; exact ⟨S, Ext.refl _, h⟩
      | str b => cases (show told = .str b from hs); walk_at "g"; rw [decide_eq_true rfl]; exact ⟨S, Ext.refl _, h⟩
      | int b => cases (show told = .int b from hs); walk_at "g"; rw [decide_eq_true rfl]; exact ⟨S, Ext.refl _, h⟩
      | tup xs =>
        obtain ⟨ys, rfl, hl, hb, hq⟩ := (show ∃ ys, told = .tup ys ∧ ys.length = xs.length ∧ xs.length < 1000000 ∧ ∀ (i : Nat) y x, ys[i]? = some y → xs[i]? = some x → sameD S n y x from hs)
        walk_at "g"
        refine IFB.f (by simp [hl]) ?_
        walk_at "g"
        refine ⟨⟨by omega, by omega⟩, ?_⟩
        walk_at "w"
        refine ⟨fun _ acc S' => acc = [] ∧ Ext S S', ⟨rfl, Ext.refl _⟩, ?_⟩
        rintro i _ S3 ⟨rfl, ex3⟩
        refine ⟨trivial, fun x hx => ?_, fun hi => ?_⟩
        · obtain ⟨hi, rfl⟩ := rgI_inv hx
          have hi' : i < xs.length := by omega
          walk_at "w"
          rw [show (0 : Int) + (i : Int) = (i : Int) from Int.zero_add _]
          refine ⟨ys[i]'(by omega), atI_nat (List.getElem?_eq_getElem (by omega)), ?_⟩
          walk_at "w"
          refine ⟨xs[i], atI_nat (List.getElem?_eq_getElem (by omega)), ?_⟩
          walk_at "w"
          refine ⟨_, _, rfl, (hq i _ _ (List.getElem?_eq_getElem (by omega)) (List.getElem?_eq_getElem (by omega))).ext ex3, ?_⟩
          walk_at "g"
          exact ⟨rfl, ex3⟩
        · intro p hp
          walk_at "w"
          intro p2 hp2
          have hne : p ≠ p2 := fun z => by rw [← z, sup_same] at hp2; cases hp2
          refine .inr ⟨[], .inl ⟨p, rfl, by rw [sup_ne hne]; exact sup_same⟩, .inl ⟨p2, rfl, sup_same⟩, ?_⟩
          exact ⟨S, (ex3.trans (Ext.new hp _)).trans (Ext.new hp2 _), h⟩
      | fro xs =>
        obtain ⟨xs', ys, hx, hy, hl, hb, hq⟩ := (show ∃ xs' ys, RdL S (.fro xs) xs' ∧ RdL S told ys ∧ ys.length = xs'.length ∧ xs'.length < 1000000 ∧ ∀ (i : Nat) y x, ys[i]? = some y → xs'[i]? = some x → sameD S n y x from hs)
        rcases hx with ⟨_, hx, _⟩ | hx
        · cases hx
        · cases hx
          rcases hy with ⟨b, rfl, ey⟩ | rfl
          · walk_at "g"
            refine .inl ⟨ys, ey, ?_⟩
            walk_at "g"
            refine .inl ⟨ys, ey, ?_⟩
            walk_at "g"
            refine ⟨ys, .inl ⟨b, rfl, ey⟩, xs, .inr rfl, ?_⟩
            walk_at "g"
            refine IFB.f (by simp [hl]) ?_
            walk_at "g"
            refine ⟨xs, .inr rfl, ⟨by omega, by omega⟩, ?_⟩
            walk_at "w"
            refine ⟨fun _ acc S' => acc = [] ∧ Ext S S', ⟨rfl, Ext.refl _⟩, ?_⟩
            rintro i _ S3 ⟨rfl, ex3⟩
            refine ⟨trivial, fun x hx => ?_, fun hi => ?_⟩
            · obtain ⟨hi, rfl⟩ := rgI_inv hx
              have hi' : i < xs.length := by omega
              walk_at "w"
              rw [show (0 : Int) + (i : Int) = (i : Int) from Int.zero_add _]
              refine ⟨ys, ys[i]'(by omega), .inl ⟨b, rfl, ex3 _ _ ey⟩,  atI_nat (List.getElem?_eq_getElem (by omega)), ?_⟩
              walk_at "w"
              refine ⟨xs, xs[i], .inr rfl,  atI_nat (List.getElem?_eq_getElem (by omega)), ?_⟩
              walk_at "w"
              refine ⟨_, _, rfl, (hq i _ _ (List.getElem?_eq_getElem (by omega)) (List.getElem?_eq_getElem (by omega))).ext ex3, ?_⟩
              walk_at "g"
              exact ⟨rfl, ex3⟩
            · intro p hp
              walk_at "w"
              intro p2 hp2
              have hne : p ≠ p2 := fun z => by rw [← z, sup_same] at hp2; cases hp2
              refine .inr ⟨[], .inl ⟨p, rfl, by rw [sup_ne hne]; exact sup_same⟩, .inl ⟨p2, rfl, sup_same⟩, ?_⟩
              exact ⟨S, (ex3.trans (Ext.new hp _)).trans (Ext.new hp2 _), h⟩
          · walk_at "g"
            refine ⟨ys, .inr rfl, xs, .inr rfl, ?_⟩
            walk_at "g"
            refine IFB.f (by simp [hl]) ?_
            walk_at "g"
            refine ⟨xs, .inr rfl, ⟨by omega, by omega⟩, ?_⟩
            walk_at "w"
            refine ⟨fun _ acc S' => acc = [] ∧ Ext S S', ⟨rfl, Ext.refl _⟩, ?_⟩
            rintro i _ S3 ⟨rfl, ex3⟩
            refine ⟨trivial, fun x hx => ?_, fun hi => ?_⟩
            · obtain ⟨hi, rfl⟩ := rgI_inv hx
              have hi' : i < xs.length := by omega
              walk_at "w"
              rw [show (0 : Int) + (i : Int) = (i : Int) from Int.zero_add _]
              refine ⟨ys, ys[i]'(by omega), .inr rfl,  atI_nat (List.getElem?_eq_getElem (by omega)), ?_⟩
              walk_at "w"
              refine ⟨xs, xs[i], .inr rfl,  atI_nat (List.getElem?_eq_getElem (by omega)), ?_⟩
              walk_at "w"
              refine ⟨_, _, rfl, (hq i _ _ (List.getElem?_eq_getElem (by omega)) (List.getElem?_eq_getElem (by omega))).ext ex3, ?_⟩
              walk_at "g"
              exact ⟨rfl, ex3⟩
            · intro p hp
              walk_at "w"
              intro p2 hp2
              have hne : p ≠ p2 := fun z => by rw [← z, sup_same] at hp2; cases hp2
              refine .inr ⟨[], .inl ⟨p, rfl, by rw [sup_ne hne]; exact sup_same⟩, .inl ⟨p2, rfl, sup_same⟩, ?_⟩
              exact ⟨S, (ex3.trans (Ext.new hp _)).trans (Ext.new hp2 _), h⟩
      | ref a =>
        obtain ⟨xs, ys, hx, hy, hl, hb, hq⟩ := (show ∃ xs ys, RdL S (.ref a) xs ∧ RdL S told ys ∧ ys.length = xs.length ∧ xs.length < 1000000 ∧ ∀ (i : Nat) y x, ys[i]? = some y → xs[i]? = some x → sameD S n y x from hs)
        rcases hx with ⟨_, e, ex⟩ | hx
        · cases e
          rcases hy with ⟨b, rfl, ey⟩ | rfl
          · walk_at "g"
            refine .inl ⟨xs, ex, ?_⟩
            walk_at "g"
            refine .inl ⟨ys, ey, ?_⟩
            walk_at "g"
            refine .inl ⟨xs, ex, ?_⟩
            walk_at "g"
            refine .inl ⟨ys, ey, ?_⟩
            walk_at "g"
            refine .inl ⟨xs, ex, ?_⟩
            walk_at "g"
            refine ⟨ys, .inl ⟨b, rfl, ey⟩, xs, .inl ⟨_, rfl, ex⟩, ?_⟩
            walk_at "g"
            refine IFB.f (by simp [hl]) ?_
            walk_at "g"
            refine ⟨xs, .inl ⟨_, rfl, ex⟩, ⟨by omega, by omega⟩, ?_⟩
            walk_at "w"
            refine ⟨fun _ acc S' => acc = [] ∧ Ext S S', ⟨rfl, Ext.refl _⟩, ?_⟩
            rintro i _ S3 ⟨rfl, ex3⟩
            refine ⟨trivial, fun x hx => ?_, fun hi => ?_⟩
            · obtain ⟨hi, rfl⟩ := rgI_inv hx
              have hi' : i < xs.length := by omega
              walk_at "w"
              rw [show (0 : Int) + (i : Int) = (i : Int) from Int.zero_add _]
              refine ⟨ys, ys[i]'(by omega), .inl ⟨b, rfl, ex3 _ _ ey⟩,  atI_nat (List.getElem?_eq_getElem (by omega)), ?_⟩
              walk_at "w"
              refine ⟨xs, xs[i], .inl ⟨_, rfl, ex3 _ _ ex⟩,  atI_nat (List.getElem?_eq_getElem (by omega)), ?_⟩
              walk_at "w"
              refine ⟨_, _, rfl, (hq i _ _ (List.getElem?_eq_getElem (by omega)) (List.getElem?_eq_getElem (by omega))).ext ex3, ?_⟩
              walk_at "g"
              exact ⟨rfl, ex3⟩
            · intro p hp
              walk_at "w"
              intro p2 hp2
              have hne : p ≠ p2 := fun z => by rw [← z, sup_same] at hp2; cases hp2
              refine .inr ⟨[], .inl ⟨p, rfl, by rw [sup_ne hne]; exact sup_same⟩, .inl ⟨p2, rfl, sup_same⟩, ?_⟩
              exact ⟨S, (ex3.trans (Ext.new hp _)).trans (Ext.new hp2 _), h⟩
          · walk_at "g"
            refine .inl ⟨xs, ex, ?_⟩
            walk_at "g"
            refine .inl ⟨xs, ex, ?_⟩
            walk_at "g"
            refine .inl ⟨xs, ex, ?_⟩
            walk_at "g"
            refine ⟨ys, .inr rfl, xs, .inl ⟨_, rfl, ex⟩, ?_⟩
            walk_at "g"
            refine IFB.f (by simp [hl]) ?_
            walk_at "g"
            refine ⟨xs, .inl ⟨_, rfl, ex⟩, ⟨by omega, by omega⟩, ?_⟩
            walk_at "w"
            refine ⟨fun _ acc S' => acc = [] ∧ Ext S S', ⟨rfl, Ext.refl _⟩, ?_⟩
            rintro i _ S3 ⟨rfl, ex3⟩
            refine ⟨trivial, fun x hx => ?_, fun hi => ?_⟩
            · obtain ⟨hi, rfl⟩ := rgI_inv hx
              have hi' : i < xs.length := by omega
              walk_at "w"
              rw [show (0 : Int) + (i : Int) = (i : Int) from Int.zero_add _]
              refine ⟨ys, ys[i]'(by omega), .inr rfl,  atI_nat (List.getElem?_eq_getElem (by omega)), ?_⟩
              walk_at "w"
              refine ⟨xs, xs[i], .inl ⟨_, rfl, ex3 _ _ ex⟩,  atI_nat (List.getElem?_eq_getElem (by omega)), ?_⟩
              walk_at "w"
              refine ⟨_, _, rfl, (hq i _ _ (List.getElem?_eq_getElem (by omega)) (List.getElem?_eq_getElem (by omega))).ext ex3, ?_⟩
              walk_at "g"
              exact ⟨rfl, ex3⟩
            · intro p hp
              walk_at "w"
              intro p2 hp2
              have hne : p ≠ p2 := fun z => by rw [← z, sup_same] at hp2; cases hp2
              refine .inr ⟨[], .inl ⟨p, rfl, by rw [sup_ne hne]; exact sup_same⟩, .inl ⟨p2, rfl, sup_same⟩, ?_⟩
              exact ⟨S, (ex3.trans (Ext.new hp _)).trans (Ext.new hp2 _), h⟩
        · cases hx
      | ty _ => obtain ⟨_, _, hx, _⟩ := (show ∃ xs ys, RdL S _ xs ∧ RdL S told ys ∧ _ from hs); rcases hx with ⟨_, hx, _⟩ | hx <;> cases hx
      | exc _ _ => obtain ⟨_, _, hx, _⟩ := (show ∃ xs ys, RdL S _ xs ∧ RdL S told ys ∧ _ from hs); rcases hx with ⟨_, hx, _⟩ | hx <;> cases hx
def sp_law_same : DSp := sp_same 5
theorem ok_law_same {P : Program} {w : World} {K : PySem.W.Frag} {mg : Str → Option Value} {base : Heap} (T : Txt K mg) : FnOk P w K mg base (L2.CX P w) 5 T.a_law_same T.fd_law_same ["found", "due"] (toSp K sp_law_same) := rec_law_same T 5
end K01
set_option Elab.async false
set_option linter.all false
set_option maxRecDepth 100000
set_option maxHeartbeats 4000000
namespace K01
open PySem PySem.Spec PyProof.Rows L2 DL
local macro_rules | `(tactic| walk_at "w") => `(tactic| conv => whnf)
local macro_rules | `(tactic| walk_at "g") => `(tactic| ((conv => whnf); repeat' (first | (refine IFB.t ?_ ?_; rfl; conv => whnf) | (refine IFB.f ?_ ?_; rfl; conv => whnf))))
def Wts (ws : List Int) : Prop := ws ≠ [] ∧ ws.length ≤ 6 ∧ (∀ w ∈ ws, 0 < w) ∧ ws.sum ≤ 60
theorem isum_pos : ∀ {ws : List Int}, ws ≠ [] → (∀ w ∈ ws, 0 < w) → 0 < ws.sum
  | [], h, _ => absurd rfl h
  | [w], _, h => by have := h w (by simp); simpa using this
  | w :: v :: ws, _, h => by
    have h1 := h w (by simp)
    have h2 := isum_pos (ws := v :: ws) (by simp) fun x hx => h x (List.mem_cons_of_mem _ hx)
    rw [List.sum_cons]
    omega
theorem isum_nn : ∀ {ws : List Int}, (∀ w ∈ ws, 0 < w) → 0 ≤ ws.sum
  | [], _ => Int.le_refl _
  | w :: ws, h => by
    have h1 := h w (by simp)
    have h2 := isum_nn (ws := ws) fun x hx => h x (List.mem_cons_of_mem _ hx)
    rw [List.sum_cons]
    omega
theorem sum_const (c : Int) : ∀ m : Nat, ((List.range m).map fun _ => c).sum = (m : Int) * c
  | 0 => by simp
  | m + 1 => by
    rw [List.range_succ, List.map_append, List.sum_append, sum_const c m]
    simp
    grind
def sp_law_weights : DSp := fun ds S Q _ => ∃ a, ds = [.ref a, .int 60] ∧ DeckD S a ∧ ∀ p ws S', S' p = some (.lst (ws.map D.int)) → p ≠ a → S p = none → DeckD S' a → ExtB a S S' → Wts ws → Q (.ref p) S'
def sp_law_shares : DSp := fun ds S Q _ => ∃ (p : Addr) (ws : List Int), ds = [.ref p] ∧ S p = some (.lst (ws.map D.int)) ∧ ws ≠ [] ∧ (∀ w ∈ ws, 0 < w) ∧ ws.length ≤ 1000 ∧ 0 < ws.sum ∧ ws.sum.natAbs < 2 ^ 1000 ∧ Q (shD (dvs ws.sum ws)) S
theorem lst_same {S : Sto} {n : Nat} {p q : Addr} {xs : List D} (h1 : S p = some (.lst xs)) (h2 : S q = some (.lst xs)) (hl : xs.length < 1000000) (h : ∀ x ∈ xs, sameD S n x x) : sameD S (n + 1) (.ref p) (.ref q) :=
  ⟨xs, xs, .inl ⟨q, rfl, h2⟩, .inl ⟨p, rfl, h1⟩, rfl, hl, fun i y x e1 e2 => by rw [e1] at e2; cases (Option.some.inj e2); exact h _ (List.mem_of_getElem? e1)⟩
theorem tup_same {S : Sto} {n : Nat} {xs : List D} (hl : xs.length < 1000000) (h : ∀ x ∈ xs, sameD S n x x) : sameD S (n + 1) (.tup xs) (.tup xs) :=
  ⟨xs, rfl, rfl, hl, fun i y x e1 e2 => by rw [e1] at e2; cases (Option.some.inj e2); exact h _ (List.mem_of_getElem? e1)⟩
theorem fr_same {S : Sto} {n : Nat} (q : Rat) : sameD S (n + 2) (fr q) (fr q) := tup_same (by show 2 < 1000000; decide) fun x hx => by
  rcases List.mem_cons.mp hx with rfl | hx
  · rfl
  · cases List.mem_singleton.mp hx; rfl
theorem sh_same {S : Sto} {n : Nat} {qs : List Rat} (hl : qs.length < 1000000) : sameD S (n + 3) (shD qs) (shD qs) := tup_same (by rw [List.length_map]; exact hl) fun x hx => by
  obtain ⟨q, _, rfl⟩ := List.mem_map.mp hx
  exact fr_same q
theorem bl_same {S : Sto} {n : Nat} (b : Bool) : sameD S (n + 1) (.bl b) (.bl b) := rfl
theorem ok_law_weights {P : Program} {w : World} {K : PySem.W.Frag} {mg : Str → Option Value} {base : Heap} (T : Txt K mg) : FnOk P w K mg base (L2.CX P w) 2 T.a_law_weights T.fd_law_weights ["deck", "most"] (toSp K sp_law_weights) := by
  refine fnD T.F_law_weights sc_law_weights (fun ds S Q E h => ?_) (fun cdv A outer s H E RX hr => ⟨_, (pds_cons (pd_par 2 3 rfl sc_law_weights.nd (pda_cons (pd_bin od_add pd_int (pd_call (takes_of rfl rfl rfl rfl) (ok_law_take T) (hr.mono (by decide)) T.m_law_take T.F_law_take.kp T.d_law_take (pda_cons (pd_var 0) (pda_cons pd_int pda_nil)))) (pda_cons (pd_call (takes_of rfl rfl rfl rfl) (ok_law_take T) (hr.mono (by decide)) T.m_law_take T.F_law_take.kp T.d_law_take (pda_cons (pd_var 0) (pda_cons pd_int pda_nil))) pda_nil)) rfl)
    (pds_cons (pd_set 4 sc_law_weights.nd (pd_bin od_add (pd_var 2) (pd_call (takes_of rfl rfl rfl rfl) (ok_law_take T) (hr.mono (by decide)) T.m_law_take T.F_law_take.kp T.d_law_take (pda_cons (pd_var 0) (pda_cons (pd_bin od_add (pd_bin od_sub (pd_var 1) (pd_var 2)) pd_int) pda_nil)))))
    (pds_cons (pd_set 5 sc_law_weights.nd (pd_bin od_add pd_int (pd_call (takes_of rfl rfl rfl rfl) (ok_law_take T) (hr.mono (by decide)) T.m_law_take T.F_law_take.kp T.d_law_take (pda_cons (pd_var 0) (pda_cons pd_int pda_nil)))))
    (pds_cons (pd_ifS (pdt_cmp (od_eq hr.units) (pd_var 3) pd_int) (pds_one (pd_ret (pd_lc (own := [("at", 6)]) (p := .n 6) rfl sc_law_weights.nd (pdi_range1 T.b_range (pda_cons (pd_var 2) pda_nil)) (blkOk_by (N := ["deck", "most", "many", "way", "total", "even", "at", "found", "over", "more"]) (sc := defScope s_law_weights) (own := [("at", 6)]) (by decide +kernel)) (fun _ _ _ _ _ => (pg_name (i := 6) sc_law_weights.nd rfl (by first | exact Or.inl rfl | exact Or.inr rfl))) (fun _ _ _ _ _ => pdts_nil) (fun _ _ _ _ _ => (pd_var 5))))) pds_nil)
    (pds_cons (pd_ifS (pdt_cmp (od_eq hr.units) (pd_var 3) pd_int) (pds_one (pd_set 4 sc_law_weights.nd (pd_ix (pd_lst (pda_cons pd_int (pda_cons pd_int (pda_cons pd_int pda_nil)))) (pd_call (takes_of rfl rfl rfl rfl) (ok_law_take T) (hr.mono (by decide)) T.m_law_take T.F_law_take.kp T.d_law_take (pda_cons (pd_var 0) (pda_cons pd_int pda_nil)))))) pds_nil)
    (pds_cons (pd_par 7 8 rfl sc_law_weights.nd (pda_cons (pd_lst pda_nil) (pda_cons (pd_bin od_sub (pd_var 4) (pd_var 2)) pda_nil)) rfl)
    (pds_cons (pd_for (passes_of rfl) rfl (pdi_range1 T.b_range (pda_cons (pd_bin od_sub (pd_var 2) pd_int) pda_nil)) (pdg_name 6 sc_law_weights.nd) (pds_cons (pd_set 9 sc_law_weights.nd (pd_call (takes_of rfl rfl rfl rfl) (ok_law_take T) (hr.mono (by decide)) T.m_law_take T.F_law_take.kp T.d_law_take (pda_cons (pd_var 0) (pda_cons (pd_bin od_add (pd_var 8) pd_int) pda_nil))))
    (pds_cons (pd_expr (pd_lm PySem.F.slot_list_append PySem.F.type_list_append md_append (pd_var 7) (pda_cons (pd_bin od_add pd_int (pd_var 9)) pda_nil)))
    (pds_one (pd_set 8 sc_law_weights.nd (pd_bin od_sub (pd_var 8) (pd_var 9)))))))
    (pds_cons (pd_expr (pd_lm PySem.F.slot_list_insert PySem.F.type_list_insert md_insert (pd_var 7) (pda_cons (pd_call (takes_of rfl rfl rfl rfl) (ok_law_take T) (hr.mono (by decide)) T.m_law_take T.F_law_take.kp T.d_law_take (pda_cons (pd_var 0) (pda_cons (pd_var 2) pda_nil))) (pda_cons (pd_bin od_add pd_int (pd_var 8)) pda_nil))))
    (pds_one (pd_ret (pd_var 7))))))))))), fun ds S Q h => ?_⟩)
  · obtain ⟨_, rfl, _⟩ := h
    rfl
  · obtain ⟨a, rfl, hd, h⟩ := h
    walk_at "w"
    refine ⟨a, 6, rfl, hd, by decide, by decide, ?_⟩
    rintro m0 S1 a0 a1 hd1 f1
    walk_at "w"
    refine ⟨a, 5, rfl, hd1, by decide, by decide, ?_⟩
    rintro way S2 b0 b1 hd2 f2
    have x2 : ExtB a S S2 := (ExtB.of f1).trans (ExtB.of f2)
    obtain ⟨m, hm⟩ := Int.eq_ofNat_of_zero_le (show 0 ≤ 1 + m0 by omega)
    walk_at "w"
    rw [hm]
    refine ⟨a, 60 - (m : Int) + 1, rfl, hd2, by omega, by omega, ?_⟩
    rintro t0 S3 c0 c1 hd3 f3
    have x3 := x2.trans (ExtB.of f3)
    walk_at "w"
    refine ⟨a, 9, rfl, hd3, by decide, by decide, ?_⟩
    rintro e0 S4 d0 d1 hd4 f4
    have x4 := x3.trans (ExtB.of f4)
    walk_at "w"
    have body : ∀ (tot : Int) (S5 : Sto), DeckD S5 a → ExtB a S S5 → (m : Int) ≤ tot → tot ≤ 60 → ∀ ρ : Ro, True := fun _ _ _ _ _ _ _ => trivial
    refine IFB.p (fun c => ?_) (fun c => ?_)
    · walk_at "w"
      refine ⟨⟨by omega, by omega⟩, ?_⟩
      walk_at "w"
      refine lc_rgm (fun _ => D.int (1 + e0)) ?_ ?_
      · rintro i acc S5 hi w5
        walk_at "w"
        refine IFB.t rfl ?_
        walk_at "w"
        exact lc_leaf hi w5 (by show _ ≤ 16777216; omega) rfl (Ext.refl _)
      · rintro S5 p ex5 hp
        have hpa := (hd4.ext ex5).ne hp
        refine h p ((List.range m).map fun _ => 1 + e0) _ (by rw [sup_same, List.map_map]; rfl) hpa ((x4.trans (ExtB.ext ex5)).free hpa hp) ((hd4.ext ex5).sup hpa) ((x4.trans (ExtB.ext ex5)).wr ((x4.trans (ExtB.ext ex5)).free hpa hp)) ⟨?_, ?_, ?_, ?_⟩
        · intro z
          have := congrArg List.length z
          simp at this
          omega
        · simp; omega
        · intro w hw
          obtain ⟨_, _, rfl⟩ := List.mem_map.mp hw
          omega
        · rw [sum_const]
          have : (m : Int) * (1 + e0) ≤ 6 * 9 := Int.mul_le_mul (by omega) (by omega) (by omega) (by decide)
          omega
    · walk_at "w"
      refine IFB.p (fun c2 => ?_) (fun c2 => ?_)
      · walk_at "w"
        intro q hq
        have hqa := hd4.ne hq
        walk_at "w"
        refine ⟨a, 3, rfl, hd4.sup hqa, by decide, by decide, ?_⟩
        rintro f S5 g0 g1 hdX f5
        have xX : ExtB a S S5 := (x4.wr (x4.free hqa hq)).trans (ExtB.of f5)
        have e5 : S5 q = some (.lst [.int 8, .int 16, .int 32]) := by rw [f5 q hqa]; exact sup_same
        obtain ⟨tot, hu, hu0, hu1⟩ : ∃ u : Int, atI [D.int 8, D.int 16, D.int 32] f = some (.int u) ∧ (m : Int) ≤ u ∧ u ≤ 60 := by
          rcases (show f = 0 ∨ f = 1 ∨ f = 2 by omega) with rfl | rfl | rfl
          · exact ⟨8, rfl, by omega, by decide⟩
          · exact ⟨16, rfl, by omega, by decide⟩
          · exact ⟨32, rfl, by omega, by decide⟩
        walk_at "w"
        refine ⟨_, _, .inl ⟨q, rfl, e5⟩, hu, ?_⟩
        walk_at "w"
        intro p hp
        have hpa := hdX.ne hp
        have hpS := xX.free hpa hp
        walk_at "w"
        refine ⟨⟨by omega, by omega⟩, for_rg (fun i ρ' S' => ∃ (ws : List Int) (over : Int) (o1 o2 : Option D), S' p = some (.lst (ws.map D.int)) ∧ ws.length = i ∧ (∀ w ∈ ws, 0 < w) ∧ ws.sum + over = tot - (m : Int) + (i : Int) ∧ 0 ≤ over ∧ DeckD S' a ∧ ExtB a S S' ∧ ρ' = [some (.ref a), some (.int 60), some (.int (m : Int)), some (.int way), some (.int tot), some (.int (1 + e0)), o1, some (.ref p), some (.int over), o2]) ⟨[], tot - (m : Int), _, _, sup_same, rfl, (fun _ z => by cases z), by simp, by omega, hdX.sup hpa, xX.wr hpS, rfl⟩ ?_ ?_⟩
        · rintro i _ S6 hi ⟨ws, over, o1, o2, e6, hl, hw, hs, ho, hd6, x6, rfl⟩
          walk_at "w"
          refine ⟨a, over + 1, rfl, hd6, by omega, by have := isum_nn hw; omega, ?_⟩
          rintro f S7 k0 k1 hd7 f7
          have e7 : S7 p = some (.lst (ws.map D.int)) := by rw [f7 p hpa]; exact e6
          walk_at "w"
          refine ⟨⟨_, e7⟩, ?_⟩
          walk_at "w"
          refine ⟨_, e7, by rw [List.length_map]; show _ < 16777216; omega, ?_⟩
          walk_at "w"
          refine ⟨ws ++ [1 + f], over - f, _, _, by rw [sup_same, List.map_append]; rfl, by simp; omega, fun w hw2 => ?_, ?_, by omega, hd7.sup hpa, (x6.trans (ExtB.of f7)).wr hpS, rfl⟩
          · rcases List.mem_append.mp hw2 with hw2 | hw2
            · exact hw w hw2
            · cases List.mem_singleton.mp hw2
              omega
          · simp
            omega
        · rintro _ S6 ⟨ws, over, o1, o2, e6, hl, hw, hs, ho, hd6, x6, rfl⟩
          walk_at "w"
          refine ⟨⟨_, e6⟩, ?_⟩
          walk_at "w"
          refine ⟨a, (m : Int), rfl, hd6, by omega, by omega, ?_⟩
          rintro f S7 k0 k1 hd7 f7
          have e7 : S7 p = some (.lst (ws.map D.int)) := by rw [f7 p hpa]; exact e6
          walk_at "w"
          refine ⟨_, e7, by rw [List.length_map]; show _ < 16777216; omega, k0, by omega, ?_⟩
          walk_at "w"
          have hsm : (ws.take f.toNat).sum + (ws.drop f.toNat).sum = ws.sum := by rw [← List.sum_append, List.take_append_drop]
          refine h p (ws.take f.toNat ++ [1 + over] ++ ws.drop f.toNat) _ (by rw [sup_same, List.map_append, List.map_append, List.map_take, List.map_drop]; rfl) hpa hpS (hd7.sup hpa) ((x6.trans (ExtB.of f7)).wr hpS) ⟨by simp, ?_, ?_, ?_⟩
          · simp; omega
          · intro w hw2
            rcases List.mem_append.mp hw2 with hw2 | hw2
            · rcases List.mem_append.mp hw2 with hw2 | hw2
              · exact hw w (List.mem_of_mem_take hw2)
              · cases List.mem_singleton.mp hw2
                omega
            · exact hw w (List.mem_of_mem_drop hw2)
          · rw [List.sum_append, List.sum_append]
            simp
            omega
      · have hdX := hd4
        have xX := x4
        obtain ⟨tot, htot⟩ : ∃ tot, tot = (m : Int) + t0 := ⟨_, rfl⟩
        rw [← htot]
        have hu0 : (m : Int) ≤ tot := by omega
        have hu1 : tot ≤ 60 := by omega
        walk_at "w"
        intro p hp
        have hpa := hdX.ne hp
        have hpS := xX.free hpa hp
        walk_at "w"
        refine ⟨⟨by omega, by omega⟩, for_rg (fun i ρ' S' => ∃ (ws : List Int) (over : Int) (o1 o2 : Option D), S' p = some (.lst (ws.map D.int)) ∧ ws.length = i ∧ (∀ w ∈ ws, 0 < w) ∧ ws.sum + over = tot - (m : Int) + (i : Int) ∧ 0 ≤ over ∧ DeckD S' a ∧ ExtB a S S' ∧ ρ' = [some (.ref a), some (.int 60), some (.int (m : Int)), some (.int way), some (.int tot), some (.int (1 + e0)), o1, some (.ref p), some (.int over), o2]) ⟨[], tot - (m : Int), _, _, sup_same, rfl, (fun _ z => by cases z), by simp, by omega, hdX.sup hpa, xX.wr hpS, rfl⟩ ?_ ?_⟩
        · rintro i _ S6 hi ⟨ws, over, o1, o2, e6, hl, hw, hs, ho, hd6, x6, rfl⟩
          walk_at "w"
          refine ⟨a, over + 1, rfl, hd6, by omega, by have := isum_nn hw; omega, ?_⟩
          rintro f S7 k0 k1 hd7 f7
          have e7 : S7 p = some (.lst (ws.map D.int)) := by rw [f7 p hpa]; exact e6
          walk_at "w"
          refine ⟨⟨_, e7⟩, ?_⟩
          walk_at "w"
          refine ⟨_, e7, by rw [List.length_map]; show _ < 16777216; omega, ?_⟩
          walk_at "w"
          refine ⟨ws ++ [1 + f], over - f, _, _, by rw [sup_same, List.map_append]; rfl, by simp; omega, fun w hw2 => ?_, ?_, by omega, hd7.sup hpa, (x6.trans (ExtB.of f7)).wr hpS, rfl⟩
          · rcases List.mem_append.mp hw2 with hw2 | hw2
            · exact hw w hw2
            · cases List.mem_singleton.mp hw2
              omega
          · simp
            omega
        · rintro _ S6 ⟨ws, over, o1, o2, e6, hl, hw, hs, ho, hd6, x6, rfl⟩
          walk_at "w"
          refine ⟨⟨_, e6⟩, ?_⟩
          walk_at "w"
          refine ⟨a, (m : Int), rfl, hd6, by omega, by omega, ?_⟩
          rintro f S7 k0 k1 hd7 f7
          have e7 : S7 p = some (.lst (ws.map D.int)) := by rw [f7 p hpa]; exact e6
          walk_at "w"
          refine ⟨_, e7, by rw [List.length_map]; show _ < 16777216; omega, k0, by omega, ?_⟩
          walk_at "w"
          have hsm : (ws.take f.toNat).sum + (ws.drop f.toNat).sum = ws.sum := by rw [← List.sum_append, List.take_append_drop]
          refine h p (ws.take f.toNat ++ [1 + over] ++ ws.drop f.toNat) _ (by rw [sup_same, List.map_append, List.map_append, List.map_take, List.map_drop]; rfl) hpa hpS (hd7.sup hpa) ((x6.trans (ExtB.of f7)).wr hpS) ⟨by simp, ?_, ?_, ?_⟩
          · simp; omega
          · intro w hw2
            rcases List.mem_append.mp hw2 with hw2 | hw2
            · rcases List.mem_append.mp hw2 with hw2 | hw2
              · exact hw w (List.mem_of_mem_take hw2)
              · cases List.mem_singleton.mp hw2
                omega
            · exact hw w (List.mem_of_mem_drop hw2)
          · rw [List.sum_append, List.sum_append]
            simp
            omega
theorem ok_law_shares {P : Program} {w : World} {K : PySem.W.Frag} {mg : Str → Option Value} {base : Heap} (T : Txt K mg) : FnOk P w K mg base (L2.CX P w) 3 T.a_law_shares T.fd_law_shares ["weights"] (toSp K sp_law_shares) := by
  refine fnE T.F_law_shares sc_law_shares (fun ds S Q E h => ?_) (fun cdv A outer s H E RX hr => ⟨_, (pds_cons (pd_set 1 sc_law_shares.nd (pd_blt (cd_sumA rfl) T.b_sum (by decide +kernel) (pda_cons (pd_var 0) pda_nil)))
    (pds_one (pd_ret (pd_bltTy cd_tuple T.b_tuple (by decide +kernel) (pda_cons (pd_lc (own := [("x", 2)]) (p := .n 2) rfl sc_law_shares.nd (pdi_it (pd_var 0)) (blkOk_by (N := ["weights", "total", "x"]) (sc := defScope s_law_shares) (own := [("x", 2)]) (by decide +kernel)) (fun _ _ _ _ _ => (pg_name (i := 2) sc_law_shares.nd rfl (by first | exact Or.inl rfl | exact Or.inr rfl))) (fun _ _ _ _ _ => pdts_nil) (fun _ _ _ _ _ => (pd_call takes0 (ok_law_pair T) (hr.mono (by decide)) T.m_law_pair T.F_law_pair.kp T.d_law_pair (pda_cons (pd_var 2) (pda_cons (pd_var 1) pda_nil))))) pda_nil))))), fun ds S Q h => ?_⟩)
  · obtain ⟨_, _, rfl, _⟩ := h
    rfl
  · obtain ⟨p, ws, rfl, e, hne, hp, hl, hs0, hs1, h⟩ := h
    skip
    walk_at "w"
    refine ⟨ws, .inl ⟨p, rfl, e⟩, ?_⟩
    walk_at "w"
    refine ⟨_, .inl ⟨p, rfl, e⟩, ?_⟩
    walk_at "w"
    refine lc_xsm (divD ws.sum) (fun S' ex => .inl ⟨p, rfl, ex _ _ e⟩) ?_ ?_
    · rintro i x acc S2 hi w2
      obtain ⟨m, hm, rfl⟩ := int_at hi
      walk_at "w"
      refine IFB.t rfl ?_
      walk_at "w"
      refine ⟨_, _, rfl, hs0, lt_up hs1 (by decide), ?_⟩
      exact lc_leafL hi w2 (by rw [List.length_map]; show _ ≤ 16777216; omega) rfl (Ext.refl _)
    · rintro S2 v ex hv
      walk_at "w"
      refine ⟨_, .inl ⟨v, rfl, sup_same⟩, ?_⟩
      rw [dvs_D]
      exact ⟨S, ex.trans (Ext.new hv _), h⟩
end K01
set_option Elab.async false
set_option linter.all false
set_option maxRecDepth 100000
set_option maxHeartbeats 4000000
namespace K01
open PySem PySem.Spec PyProof.Rows L2 DL
local macro_rules | `(tactic| walk_at "w") => `(tactic| conv => whnf)
local macro_rules | `(tactic| walk_at "g") => `(tactic| ((conv => whnf); repeat' (first | (refine IFB.t ?_ ?_; rfl; conv => whnf) | (refine IFB.f ?_ ?_; rfl; conv => whnf))))

def sp_law_is_number : DSp := fun ds S Q _ => ∃ d, ds = [d] ∧ OddV S d ∧ Q (.bl (isNum d)) S
def sp_law_is_shares : DSp := fun ds S Q _ => ∃ d, ds = [d] ∧ OddS S d ∧ Q (.bl (isSh d)) S
theorem all_ints {x y : D} (h : [x, y].all isInt = true) : ∃ t b, x = .int t ∧ y = .int b := by
  have h1 := List.all_eq_true.mp h x (by simp)
  have h2 := List.all_eq_true.mp h y (by simp)
  obtain ⟨t, rfl⟩ : ∃ t, x = .int t := by cases x <;> first | exact ⟨_, rfl⟩ | (cases h1)
  obtain ⟨b, rfl⟩ : ∃ b, y = .int b := by cases y <;> first | exact ⟨_, rfl⟩ | (cases h2)
  exact ⟨t, b, rfl, rfl⟩
theorem isNum_ints {x y : D} (h : [x, y].all isInt = false) : isNum (.tup [x, y]) = false := by
  cases hn : isNum (.tup [x, y]) with
  | false => rfl
  | true =>
    obtain ⟨t, b, e, _⟩ := isNum_inv hn
    cases e
    cases h
def isPos : D → Bool
  | .tup [.int t, .int _] => decide (0 < t)
  | _ => true
theorem pos_all (qs : List Rat) : (qs.map fr).all isPos = (qs.map fun q => decide (0 < q)).all id := by
  rw [List.all_map, List.all_map]
  congr 1
  funext q
  show decide (0 < q.num) = decide (0 < q)
  rw [← pos_num]
theorem ok_law_is_number {P : Program} {w : World} {K : PySem.W.Frag} {mg : Str → Option Value} {base : Heap} (T : Txt K mg) : FnOk P w K mg base (L2.CX P w) 2 T.a_law_is_number T.fd_law_is_number ["u"] (toSp K sp_law_is_number) := by
  refine fnE T.F_law_is_number sc_law_is_number (fun ds S Q E h => ?_) (fun cdv A outer s H E RX hr => ⟨_, (pds_cons (pd_ifS (PDW.pt (pdw_or (pdt_not (pdt_tru (pd_isi1 .tup (pd_var 0) T.b_isinstance T.b_tuple))) (pdw_or1 (pdt_cmp (od_ne hr.units) (pd_blt cd_len T.b_len (by decide +kernel) (pda_cons (pd_var 0) pda_nil)) pd_int)))) (pds_one (pd_ret pd_bl)) pds_nil)
    (pds_cons (pd_ifS (PDW.pt (pdw_or (pdt_cmp (od_neE hr.units) (pd_lc (own := [("x", 1)]) (p := .n 1) rfl sc_law_is_number.nd (pdi_it (pd_var 0)) (blkOk_by (N := ["u", "x"]) (sc := defScope s_law_is_number) (own := [("x", 1)]) (by decide +kernel)) (fun _ _ _ _ _ => (pg_name (i := 1) sc_law_is_number.nd rfl (by first | exact Or.inl rfl | exact Or.inr rfl))) (fun _ _ _ _ _ => (pdts_one (PDW.pt (pdw_or (pdt_not (pdt_tru (pd_isi1 .int (pd_var 1) T.b_isinstance T.b_int))) (pdw_or1 (pdt_tru (pd_isi1 .bool (pd_var 1) T.b_isinstance T.b_bool))))))) (fun _ _ _ _ _ => (pd_var 1))) (pd_lst pda_nil)) (pdw_or1 (pdt_cmp od_lt (pd_ix (pd_var 0) pd_int) pd_int)))) (pds_one (pd_ret pd_bl)) pds_nil)
    (pds_one (pd_ret (pd_cmp (od_eq hr.units) (pd_call (takes_of rfl rfl rfl rfl) (ok_law_gcd T) (hr.mono (by decide)) T.m_law_gcd T.F_law_gcd.kp T.d_law_gcd (pda_cons (pd_blt cd_abs T.b_abs (by decide +kernel) (pda_cons (pd_ix (pd_var 0) pd_int) pda_nil)) (pda_cons (pd_ix (pd_var 0) pd_int) pda_nil))) pd_int))))), fun ds S Q h => ?_⟩)
  · obtain ⟨_, rfl, _⟩ := h
    rfl
  · obtain ⟨d, rfl, hk, h⟩ := h
    cases d with
    | tup xs =>
      walk_at "g"
      refine IFB.np (fun c0 => ?_) (fun c0 => ?_)
      · have e : isNum (.tup xs) = false := by
          cases hn : isNum (.tup xs) with
          | false => rfl
          | true =>
            obtain ⟨t, b, e, _⟩ := isNum_inv hn
            cases e
            exact absurd rfl c0
        rw [e] at h
        walk_at "g"
        exact ⟨S, Ext.refl _, h⟩
      · obtain ⟨x, y, rfl⟩ : ∃ x y, xs = [x, y] := by
          match xs, c0 with
          | [x, y], _ => exact ⟨x, y, rfl⟩
          | [], h2 => simp at h2
          | [_], h2 => simp at h2
          | _ :: _ :: _ :: _, h2 => simp at h2; omega
        obtain ⟨hk2, hk3⟩ := hk.2 _ rfl
        walk_at "g"
        refine lc_filt (fun x => !isInt x) (fun _ _ => trivial) ?_ ?_
        · rintro i z acc S2 hi w2
          have hz := (hk2 z (List.mem_of_getElem? hi)).ext w2.2.2
          have hl2 : [x, y].length ≤ sizeLine := by show 2 ≤ 16777216; decide
          cases z with
          | int n => walk_at "g"; exact wfl_f hi w2 rfl (Ext.refl _)
          | ref a =>
            rcases hz with ⟨xs, e⟩ | ⟨kvs, e⟩
            · walk_at "g"
              refine .inl ⟨xs, e, ?_⟩
              walk_at "g"
              exact wfl_t hi w2 hl2 rfl (Ext.refl _)
            · walk_at "g"
              refine .inr ⟨kvs, e, ?_⟩
              walk_at "g"
              exact wfl_t hi w2 hl2 rfl (Ext.refl _)
          | ty _ => exact hz.elim
          | exc _ _ => exact hz.elim
          | _ => walk_at "g"; exact wfl_t hi w2 hl2 rfl (Ext.refl _)
        · rintro S2 v ex hv
          have x2 := ex.trans (Ext.new hv (.lst ([x, y].filter fun x => !isInt x)))
          walk_at "w"
          intro p2 hp2
          have hne : v ≠ p2 := fun z => by rw [← z, sup_same] at hp2; cases hp2
          have x3 := x2.trans (Ext.new hp2 (.lst []))
          walk_at "w"
          refine .inr ⟨_, .inl ⟨v, rfl, by rw [sup_ne hne]; exact sup_same⟩, .inl ⟨p2, rfl, sup_same⟩, ?_⟩
          rw [filt_empty]
          cases ha : [x, y].all isInt with
          | false =>
            rw [isNum_ints ha] at h
            walk_at "g"
            exact ⟨S, x3, h⟩
          | true =>
            obtain ⟨t, b, rfl, rfl⟩ := all_ints ha
            walk_at "g"
            refine ⟨_, rfl, ?_⟩
            walk_at "w"
            refine IFB.p (fun c1 => ?_) (fun c1 => ?_)
            · rw [isNum_np (by omega)] at h
              walk_at "g"
              exact ⟨S, x3, h⟩
            · have hb : 0 < b := by omega
              rw [isNum_of hb] at h
              walk_at "g"
              refine ⟨_, rfl, ?_⟩
              walk_at "w"
              refine ⟨_, rfl, ?_⟩
              rw [abs_nat]
              obtain ⟨n, rfl⟩ := Int.eq_ofNat_of_zero_le (show 0 ≤ b by omega)
              rw [Int.natAbs_natCast] at h
              walk_at "w"
              refine ⟨t.natAbs, n, rfl, ?_⟩
              walk_at "w"
              rw [show decide (((Nat.gcd t.natAbs n : Nat) : Int) = 1) = decide (Nat.gcd t.natAbs n = 1) by rw [decide_eq_decide]; omega]
              exact ⟨S, x3, h⟩
    | ref a =>
      rcases hk.1 with ⟨xs, e⟩ | ⟨kvs, e⟩
      · walk_at "g"
        refine .inl ⟨xs, e, ?_⟩
        walk_at "g"
        exact ⟨S, Ext.refl _, h⟩
      · walk_at "g"
        refine .inr ⟨kvs, e, ?_⟩
        walk_at "g"
        exact ⟨S, Ext.refl _, h⟩
    | ty _ => exact hk.1.elim
    | exc _ _ => exact hk.1.elim
    | _ => walk_at "g"; exact ⟨S, Ext.refl _, h⟩
theorem ok_law_is_shares {P : Program} {w : World} {K : PySem.W.Frag} {mg : Str → Option Value} {base : Heap} (T : Txt K mg) : FnOk P w K mg base (L2.CX P w) 4 T.a_law_is_shares T.fd_law_is_shares ["told_one"] (toSp K sp_law_is_shares) := by
  refine fnE T.F_law_is_shares sc_law_is_shares (fun ds S Q E h => ?_) (fun cdv A outer s H E RX hr => ⟨_, (pds_cons (pd_ifS (PDW.pt (pdw_or (pdt_not (pdt_tru (pd_isi1 .tup (pd_var 0) T.b_isinstance T.b_tuple))) (pdw_or (pdt_cmp (od_eqE hr.units) (pd_var 0) (pd_tup pda_nil)) (pdw_or1 (pdt_cmp (od_neE hr.units) (pd_lc (own := [("u", 1)]) (p := .n 1) rfl sc_law_is_shares.nd (pdi_it (pd_var 0)) (blkOk_by (N := ["told_one", "u", "total"]) (sc := defScope s_law_is_shares) (own := [("u", 1)]) (by decide +kernel)) (fun _ _ _ _ _ => (pg_name (i := 1) sc_law_is_shares.nd rfl (by first | exact Or.inl rfl | exact Or.inr rfl))) (fun _ _ _ _ _ => (pdts_one (pdt_not (pdt_tru (pd_call takes0 (ok_law_is_number T) (hr.mono (by decide)) T.m_law_is_number T.F_law_is_number.kp T.d_law_is_number (pda_cons (pd_var 1) pda_nil)))))) (fun _ _ _ _ _ => (pd_var 1))) (pd_lst pda_nil)))))) (pds_one (pd_ret pd_bl)) pds_nil)
    (pds_cons (pd_set 2 sc_law_is_shares.nd (pd_tup (pda_cons pd_int (pda_cons pd_int pda_nil))))
    (pds_cons (pd_for (passes_of rfl) rfl (pdi_it (pd_var 0)) (pdg_name 1 sc_law_is_shares.nd) (pds_one (pd_set 2 sc_law_is_shares.nd (pd_call (takes_of rfl rfl rfl rfl) (ok_law_plus T) (hr.mono (by decide)) T.m_law_plus T.F_law_plus.kp T.d_law_plus (pda_cons (pd_var 2) (pda_cons (pd_var 1) pda_nil))))))
    (pds_one (pd_ret (pd_and (pd_cmp (od_eq hr.units) (pd_var 2) (pd_tup (pda_cons pd_int (pda_cons pd_int pda_nil)))) (pd_one (pd_cmp (od_eqE hr.units) (pd_lc (own := [("u", 1)]) (p := .n 1) rfl sc_law_is_shares.nd (pdi_it (pd_var 0)) (blkOk_by (N := ["told_one", "u", "total"]) (sc := defScope s_law_is_shares) (own := [("u", 1)]) (by decide +kernel)) (fun _ _ _ _ _ => (pg_name (i := 1) sc_law_is_shares.nd rfl (by first | exact Or.inl rfl | exact Or.inr rfl))) (fun _ _ _ _ _ => (pdts_one (pdt_cmp od_lt (pd_ix (pd_var 1) pd_int) pd_int))) (fun _ _ _ _ _ => (pd_var 1))) (pd_lst pda_nil))))))))), fun ds S Q h => ?_⟩)
  · obtain ⟨_, rfl, _⟩ := h
    rfl
  · obtain ⟨d, rfl, hk, h⟩ := h
    cases d with
    | tup xs =>
      obtain ⟨hl, hx⟩ := hk.2 xs rfl
      walk_at "g"
      refine .inl ⟨xs, rfl, rfl, ?_⟩
      have eS : isSh (.tup xs) = (!xs.isEmpty && (xs.all isNum && isShQ (xs.map numQ))) := rfl
      rw [eS] at h
      cases hne : xs.isEmpty with
      | true =>
        rw [hne] at h
        walk_at "g"
        exact ⟨S, Ext.refl _, h⟩
      | false =>
        rw [hne] at h
        walk_at "g"
        refine lc_filt (fun x => !isNum x) (fun _ _ => trivial) ?_ ?_
        · rintro i x acc S2 hi w2
          have hz := (hx x (List.mem_of_getElem? hi)).ext w2.2.2
          walk_at "w"
          refine ⟨x, rfl, hz, ?_⟩
          cases hn : isNum x with
          | true => walk_at "g"; exact wfl_f hi w2 (by show (!isNum x) = false; rw [hn]; rfl) (Ext.refl _)
          | false => walk_at "g"; exact wfl_t hi w2 (by show _ ≤ 16777216; omega) (by show (!isNum x) = true; rw [hn]; rfl) (Ext.refl _)
        · rintro S2 v ex hv
          have x2 := ex.trans (Ext.new hv (.lst (xs.filter fun x => !isNum x)))
          walk_at "w"
          intro p2 hp2
          have hne : v ≠ p2 := fun z => by rw [← z, sup_same] at hp2; cases hp2
          have x3 := x2.trans (Ext.new hp2 (.lst []))
          walk_at "w"
          refine .inr ⟨_, .inl ⟨v, rfl, by rw [sup_ne hne]; exact sup_same⟩, .inl ⟨p2, rfl, sup_same⟩, ?_⟩
          rw [filt_empty]
          cases hn : xs.all isNum with
          | false =>
            rw [hn] at h
            walk_at "g"
            exact ⟨S, x3, h⟩
          | true =>
            rw [hn] at h
            have e9 := nums_fr hn
            have hrb := nums_rb hx hn
            have hlq : (xs.map numQ).length ≤ 9 := by rw [List.length_map]; exact hl
            generalize xs.map numQ = qs at *
            subst e9
            walk_at "g"
            refine for_xs (fun i ρ' S' => Ext S S' ∧ ∃ o, ρ' = [some (shD qs), o, some (fr (qs.take i).sum)]) ⟨x3, _, by rw [List.take_zero, List.sum_nil]; rfl⟩ (fun _ _ _ h => trivial) ?_ ?_
            · rintro i x _ S4 hi ⟨x4, o, rfl⟩
              obtain ⟨q, hq, rfl⟩ := fr_at hi
              walk_at "w"
              refine ⟨_, q, rfl, take_rb hrb hlq i, (hrb q (List.mem_of_getElem? hq)).mono (by decide), ?_⟩
              walk_at "w"
              exact ⟨x4, _, by rw [take_succ_sum hq]; rfl⟩
            · rintro _ S4 ⟨x4, o, rfl⟩
              rw [List.length_map, List.take_length]
              walk_at "w"
              refine ⟨_, _, pyr_fr _, pyr_fr 1, rfl, rfl, ?_⟩
              rw [frE_eq]
              have eQ : isShQ qs = ((qs.map fun q => decide (0 < q)).all id && decide (qs.sum = 1)) := rfl
              rw [eQ] at h
              cases h1 : decide (qs.sum = 1) with
              | false =>
                rw [h1, Bool.and_false] at h
                walk_at "g"
                exact ⟨S, x4, h⟩
              | true =>
                rw [h1, Bool.and_true] at h
                walk_at "g"
                refine lc_filt (fun x => !isPos x) (fun _ _ => trivial) ?_ ?_
                · rintro i x acc S5 hi w5
                  obtain ⟨q, hq, rfl⟩ := fr_at hi
                  walk_at "w"
                  refine ⟨_, rfl, ?_⟩
                  walk_at "w"
                  refine IFB.p (fun c1 => ?_) (fun c1 => ?_)
                  · walk_at "w"
                    exact wfl_t hi w5 (by rw [List.length_map]; show _ ≤ 16777216; omega) (by show (!decide (0 < q.num)) = true; rw [decide_eq_false (by omega)]; rfl) (Ext.refl _)
                  · exact wfl_f hi w5 (by show (!decide (0 < q.num)) = false; rw [decide_eq_true (by omega)]; rfl) (Ext.refl _)
                · rintro S5 v5 ex5 hv5
                  have x5 := (x4.trans ex5).trans (Ext.new hv5 (.lst ((qs.map fr).filter fun x => !isPos x)))
                  walk_at "w"
                  intro p5 hp5
                  have hne5 : v5 ≠ p5 := fun z => by rw [← z, sup_same] at hp5; cases hp5
                  have x6 := x5.trans (Ext.new hp5 (.lst []))
                  walk_at "w"
                  refine .inr ⟨_, .inl ⟨v5, rfl, by rw [sup_ne hne5]; exact sup_same⟩, .inl ⟨p5, rfl, sup_same⟩, ?_⟩
                  rw [if_neg (by decide), filt_empty, pos_all]
                  exact ⟨S, x6, h⟩
    | ref a =>
      rcases hk.1 with ⟨xs, e⟩ | ⟨kvs, e⟩
      · walk_at "g"
        refine .inl ⟨xs, e, ?_⟩
        walk_at "g"
        exact ⟨S, Ext.refl _, h⟩
      · walk_at "g"
        refine .inr ⟨kvs, e, ?_⟩
        walk_at "g"
        exact ⟨S, Ext.refl _, h⟩
    | ty _ => exact hk.1.elim
    | exc _ _ => exact hk.1.elim
    | _ => walk_at "g"; exact ⟨S, Ext.refl _, h⟩
end K01
set_option Elab.async false
set_option linter.all false
set_option maxRecDepth 100000
set_option maxHeartbeats 4000000
namespace K01
open PySem PySem.Spec PyProof.Rows L2 DL
local macro_rules | `(tactic| walk_at "w") => `(tactic| conv => whnf)
local macro_rules | `(tactic| walk_at "g") => `(tactic| ((conv => whnf); repeat' (first | (refine IFB.t ?_ ?_; rfl; conv => whnf) | (refine IFB.f ?_ ?_; rfl; conv => whnf))))

theorem Kn.extB {S S' : Sto} {a : Addr} {d : D} (h : Kn S d) (x : ExtB a S S') (hd : DeckD S' a) : Kn S' d := by
  cases d with
  | ref r =>
    by_cases e : r = a
    · obtain ⟨_, _, e2, _⟩ := hd
      subst e
      exact .inl ⟨_, e2⟩
    · rcases h with ⟨xs, q⟩ | ⟨kvs, q⟩
      · exact .inl ⟨xs, x _ _ e q⟩
      · exact .inr ⟨kvs, x _ _ e q⟩
  | _ => exact h
theorem OddV.extB {S S' : Sto} {a : Addr} {d : D} (h : OddV S d) (x : ExtB a S S') (hd : DeckD S' a) : OddV S' d := ⟨h.1.extB x hd, fun xs e => ⟨fun z hz => ((h.2 xs e).1 z hz).extB x hd, (h.2 xs e).2⟩⟩
def AllOdd (S : Sto) (L : List D) : Prop := ∀ x ∈ L, OddV S x
theorem AllOdd.ext {S S' : Sto} {L : List D} (h : AllOdd S L) (x : Ext S S') : AllOdd S' L := fun d hd => (h d hd).ext x
theorem AllOdd.extB {S S' : Sto} {a : Addr} {L : List D} (h : AllOdd S L) (x : ExtB a S S') (hd : DeckD S' a) : AllOdd S' L := fun d hz => (h d hz).extB x hd
theorem all_nil {S : Sto} : AllOdd S [] := fun _ h => by cases h
theorem all_cons {S : Sto} {x : D} {L : List D} (h : OddV S x) (t : AllOdd S L) : AllOdd S (x :: L) := fun d hd => by
  rcases List.mem_cons.mp hd with rfl | hd
  · exact h
  · exact t d hd
theorem AllOdd.app {S : Sto} {L M : List D} (h : AllOdd S L) (t : AllOdd S M) : AllOdd S (L ++ M) := fun d hd => by
  rcases List.mem_append.mp hd with hd | hd
  · exact h d hd
  · exact t d hd
theorem odd_at {S : Sto} {d : D} (h : Kn S d) (hn : ∀ xs, d ≠ .tup xs) : OddV S d := ⟨h, fun xs e => absurd e (hn xs)⟩
theorem odd0 {S : Sto} : OddV S (.tup []) := ⟨trivial, fun xs e => by cases e; exact ⟨(fun _ z => by cases z), (fun t b z => by cases z)⟩⟩
theorem odd1 {S : Sto} {x : D} (h : Kn S x) : OddV S (.tup [x]) := ⟨trivial, fun xs e => by cases e; exact ⟨(fun z hz => by cases List.mem_singleton.mp hz; exact h), (fun t b z => by cases z)⟩⟩
theorem odd3 {S : Sto} {x y z : D} (h : Kn S x) (h2 : Kn S y) (h3 : Kn S z) : OddV S (.tup [x, y, z]) := ⟨trivial, fun xs e => by
  cases e
  refine ⟨fun w hw => ?_, fun t b z => by cases z⟩
  rcases List.mem_cons.mp hw with rfl | hw
  · exact h
  rcases List.mem_cons.mp hw with rfl | hw
  · exact h2
  · cases List.mem_singleton.mp hw; exact h3⟩
theorem odd2 {S : Sto} {x y : D} (h : Kn S x) (h2 : Kn S y) (hb : ∀ t b, x = .int t → y = .int b → t.natAbs < 2 ^ 300 ∧ b.natAbs < 2 ^ 300) : OddV S (.tup [x, y]) := ⟨trivial, fun xs e => by
  cases e
  refine ⟨fun w hw => ?_, fun t b z => by cases z; exact hb t b rfl rfl⟩
  rcases List.mem_cons.mp hw with rfl | hw
  · exact h
  · cases List.mem_singleton.mp hw; exact h2⟩
theorem oddI {S : Sto} {t b : Int} (h1 : t.natAbs < 2 ^ 300) (h2 : b.natAbs < 2 ^ 300) : OddV S (.tup [.int t, .int b]) := odd2 trivial trivial fun _ _ e1 e2 => by cases e1; cases e2; exact ⟨h1, h2⟩
theorem oddN {S : Sto} {x y : D} (h : Kn S x) (h2 : Kn S y) (hn : isInt x = false ∨ isInt y = false) : OddV S (.tup [x, y]) := odd2 h h2 fun t b e1 e2 => by
  subst e1 e2
  rcases hn with z | z <;> cases z
theorem odd_fr {S : Sto} {q : Rat} (h : RB 300 q) : OddV S (fr q) := oddI h.1 (by rw [Int.natAbs_natCast]; exact h.2)
theorem sup_of {S S' : Sto} {p : Addr} {c : Cell} (h : DL.sup S p c = S') : S' p = some c ∧ (S p = none → Ext S S') ∧ ∀ b, b ≠ p → S' b = S b := by
  subst h
  exact ⟨sup_same, fun e => Ext.new e c, fun b hb => sup_ne hb⟩
theorem DeckD.to {S S' : Sto} {a p : Addr} (h : DeckD S a) (hp : S p = none) (e : ∀ b, b ≠ p → S' b = S b) : DeckD S' a := by
  obtain ⟨d0, d1, e1, r⟩ := h
  exact ⟨d0, d1, by rw [e a (fun z => by subst z; rw [hp] at e1; cases e1)]; exact e1, r⟩
theorem bnd {z : Int} (h : z.natAbs < 2 ^ 202) : z.natAbs < 2 ^ 300 := lt_up h (by decide)
def sp_law_odd : DSp := fun ds S Q _ => ∃ (a : Addr) (q : Rat), ds = [.ref a, fr q] ∧ DeckD S a ∧ RB 100 q ∧ ∀ d S', OddV S' d → DeckD S' a → ExtB a S S' → Q d S'
theorem ok_law_odd {P : Program} {w : World} {K : PySem.W.Frag} {mg : Str → Option Value} {base : Heap} (T : Txt K mg) : FnOk P w K mg base (L2.CX P w) 3 T.a_law_odd T.fd_law_odd ["deck", "u"] (toSp K sp_law_odd) := by
  refine fnD T.F_law_odd sc_law_odd (fun ds S Q E h => ?_) (fun cdv A outer s H E RX hr => ⟨_, (pds_cons (pd_asg (pd_var 1) (pdg_tup rfl (pdgs_cons (pdg_name 2 sc_law_odd.nd) (pdgs_cons (pdg_name 3 sc_law_odd.nd) pdgs_nil))))
    (pds_cons (pd_set 4 sc_law_odd.nd (pd_lst (pda_cons (pd_var 1) (pda_cons (pd_tup (pda_cons (pd_bin od_mul pd_int (pd_var 2)) (pda_cons (pd_bin od_mul pd_int (pd_var 3)) pda_nil))) (pda_cons (pd_tup (pda_cons (pd_neg (pd_var 2)) (pda_cons (pd_var 3) pda_nil))) (pda_cons (pd_tup (pda_cons (pd_var 2) (pda_cons (pd_neg (pd_var 3)) pda_nil))) (pda_cons (pd_tup (pda_cons (pd_neg (pd_var 2)) (pda_cons (pd_neg (pd_var 3)) pda_nil))) (pda_cons (pd_tup (pda_cons (pd_var 2) pda_nil)) (pda_cons (pd_tup (pda_cons (pd_var 2) (pda_cons (pd_var 3) (pda_cons pd_int pda_nil)))) pda_nil)))))))))
    (pds_cons (pd_set 4 sc_law_odd.nd (pd_bin od_add (pd_var 4) (pd_lst (pda_cons (pd_lst (pda_cons (pd_var 2) (pda_cons (pd_var 3) pda_nil))) (pda_cons (pd_tup (pda_cons pd_int (pda_cons pd_int pda_nil))) (pda_cons (pd_tup (pda_cons pd_int (pda_cons pd_int pda_nil))) (pda_cons (pd_tup (pda_cons (pd_var 2) (pda_cons pd_int pda_nil))) (pda_cons (pd_tup (pda_cons pd_bl (pda_cons (pd_var 3) pda_nil))) (pda_cons (pd_tup (pda_cons (pd_var 2) (pda_cons pd_bl pda_nil))) (pda_cons pd_non (pda_cons pd_str (pda_cons (pd_var 2) pda_nil))))))))))))
    (pds_cons (pd_set 5 sc_law_odd.nd (pd_bin od_add (pd_bin od_pow pd_int pd_int) (pd_call (takes_of rfl rfl rfl rfl) (ok_law_take T) (hr.mono (by decide)) T.m_law_take T.F_law_take.kp T.d_law_take (pda_cons (pd_var 0) (pda_cons (pd_bin od_pow pd_int pd_int) pda_nil)))))
    (pds_cons (pd_set 6 sc_law_odd.nd (pd_ix (pd_lst (pda_cons (pd_bin od_add pd_int (pd_call (takes_of rfl rfl rfl rfl) (ok_law_take T) (hr.mono (by decide)) T.m_law_take T.F_law_take.kp T.d_law_take (pda_cons (pd_var 0) (pda_cons pd_int pda_nil)))) (pda_cons (pd_var 5) pda_nil))) (pd_call (takes_of rfl rfl rfl rfl) (ok_law_take T) (hr.mono (by decide)) T.m_law_take T.F_law_take.kp T.d_law_take (pda_cons (pd_var 0) (pda_cons pd_int pda_nil)))))
    (pds_cons (pd_set 7 sc_law_odd.nd (pd_ix (pd_lst (pda_cons pd_non (pda_cons pd_str (pda_cons (pd_tup (pda_cons pd_int pda_nil)) (pda_cons (pd_lst (pda_cons pd_int pda_nil)) (pda_cons pd_dnew (pda_cons pd_bl (pda_cons pd_bl pda_nil)))))))) (pd_call (takes_of rfl rfl rfl rfl) (ok_law_take T) (hr.mono (by decide)) T.m_law_take T.F_law_take.kp T.d_law_take (pda_cons (pd_var 0) (pda_cons pd_int pda_nil)))))
    (pds_cons (pd_set 4 sc_law_odd.nd (pd_bin od_add (pd_var 4) (pd_lst (pda_cons (pd_tup (pda_cons pd_non (pda_cons (pd_var 3) pda_nil))) (pda_cons (pd_disp2 (by decide) (pd_var 2) (pd_var 3)) (pda_cons (pd_call (takes_of rfl rfl rfl rfl) (ok_law_pair T) (hr.mono (by decide)) T.m_law_pair T.F_law_pair.kp T.d_law_pair (pda_cons (pd_var 5) (pda_cons (pd_bin od_add (pd_var 5) pd_int) pda_nil))) (pda_cons (pd_tup (pda_cons (pd_bin od_mul (pd_var 5) pd_int) (pda_cons (pd_bin od_mul (pd_var 5) pd_int) pda_nil))) (pda_cons (pd_tup (pda_cons pd_str (pda_cons pd_int pda_nil))) pda_nil))))))))
    (pds_cons (pd_set 4 sc_law_odd.nd (pd_bin od_add (pd_var 4) (pd_lst (pda_cons (pd_tup (pda_cons (pd_tup (pda_cons pd_int (pda_cons pd_int pda_nil))) (pda_cons pd_int pda_nil))) (pda_cons (pd_tup pda_nil) (pda_cons (pd_tup (pda_cons pd_int (pda_cons pd_int pda_nil))) (pda_cons (pd_tup (pda_cons (pd_bin od_add (pd_var 2) (pd_var 3)) (pda_cons (pd_var 3) pda_nil))) (pda_cons (pd_tup (pda_cons pd_bl (pda_cons pd_int pda_nil))) (pda_cons (pd_tup (pda_cons (pd_var 3) (pda_cons (pd_var 2) pda_nil))) (pda_cons (pd_tup (pda_cons (pd_var 2) (pda_cons (pd_bin od_mul pd_int (pd_var 3)) pda_nil))) pda_nil))))))))))
    (pds_cons (pd_set 4 sc_law_odd.nd (pd_bin od_add (pd_bin od_add (pd_var 4) (pd_bin od_mul (pd_lst (pda_cons (pd_tup (pda_cons (pd_bin od_mul (pd_var 6) (pd_var 2)) (pda_cons (pd_bin od_mul (pd_var 6) (pd_var 3)) pda_nil))) pda_nil)) pd_int)) (pd_lst (pda_cons (pd_tup (pda_cons pd_int (pda_cons (pd_var 6) pda_nil))) (pda_cons (pd_tup (pda_cons (pd_bin od_mul (pd_neg (pd_var 6)) (pd_var 2)) (pda_cons (pd_bin od_mul (pd_var 6) (pd_var 3)) pda_nil))) (pda_cons (pd_tup (pda_cons (pd_bin od_sub (pd_neg (pd_var 2)) (pd_bin od_mul (pd_var 6) (pd_var 3))) (pda_cons (pd_var 3) pda_nil))) pda_nil))))))
    (pds_cons (pd_set 4 sc_law_odd.nd (pd_bin od_add (pd_var 4) (pd_lst (pda_cons (pd_tup (pda_cons (pd_neg (pd_var 6)) (pda_cons pd_int pda_nil))) (pda_cons (pd_tup (pda_cons (pd_var 2) (pda_cons (pd_var 7) pda_nil))) (pda_cons (pd_tup (pda_cons (pd_var 7) (pda_cons (pd_var 3) pda_nil))) (pda_cons (pd_tup (pda_cons pd_int (pda_cons pd_int pda_nil))) (pda_cons (pd_tup (pda_cons pd_int (pda_cons (pd_neg pd_int) pda_nil))) (pda_cons (pd_tup (pda_cons pd_int (pda_cons pd_int pda_nil))) (pda_cons (pd_tup (pda_cons (pd_neg (pd_var 6)) (pda_cons (pd_bin od_add (pd_var 6) pd_int) pda_nil))) (pda_cons (pd_tup (pda_cons (pd_var 6) (pda_cons (pd_neg (pd_var 6)) pda_nil))) pda_nil)))))))))))
    (pds_one (pd_ret (pd_ix (pd_var 4) (pd_call (takes_of rfl rfl rfl rfl) (ok_law_take T) (hr.mono (by decide)) T.m_law_take T.F_law_take.kp T.d_law_take (pda_cons (pd_var 0) (pda_cons pd_int pda_nil)))))))))))))))), fun ds S Q h => ?_⟩)
  · obtain ⟨_, _, rfl, _⟩ := h
    rfl
  · obtain ⟨a, q, rfl, hd0, hq, h⟩ := h
    have x0 : ExtB a S S := ExtB.refl a S
    have t1 := hq.1
    have b1 := hq.2
    have b0 := den_pos' q
    skip
    refine ⟨rfl, ?_⟩
    walk_at "w"
    refine ⟨small_l (by decide) (by decide), ?_⟩
    walk_at "w"
    refine ⟨small_l (by decide) (by decide), ?_⟩
    walk_at "w"
    intro p1 hp1
    generalize h_p1 : DL.sup _ p1 _ = S1
    obtain ⟨e1, y1, f1⟩ := sup_of h_p1
    have y1 := y1 hp1
    have hd1 := (hd0).to hp1 f1
    have x1 := (x0).trans (ExtB.ext y1)
    clear h_p1
    generalize hL1 : ([fr q, _, _, _, _, _, _] : List D) = L1 at e1
    have a1 : AllOdd S1 L1 := by
      rw [← hL1]
      exact all_cons (odd_fr (hq.mono (by decide))) (all_cons (oddI (bnd (by omega)) (bnd (by omega))) (all_cons (oddI (bnd (by omega)) (bnd (by omega))) (all_cons (oddI (bnd (by omega)) (bnd (by omega))) (all_cons (oddI (bnd (by omega)) (bnd (by omega))) (all_cons (odd1 trivial) (all_cons (odd3 trivial trivial trivial) (all_nil)))))))
    have l1 : L1.length = 7 := by rw [← hL1]; rfl
    clear hL1
    walk_at "w"
    intro p2 hp2
    generalize h_p2 : DL.sup _ p2 _ = S2
    obtain ⟨e2, y2, f2⟩ := sup_of h_p2
    have y2 := y2 hp2
    have hd2 := (hd1).to hp2 f2
    have x2 := (x1).trans (ExtB.ext y2)
    clear h_p2
    walk_at "w"
    intro p3 hp3
    generalize h_p3 : DL.sup _ p3 _ = S3
    obtain ⟨e3, y3, f3⟩ := sup_of h_p3
    have y3 := y3 hp3
    have hd3 := (hd2).to hp3 f3
    have x3 := (x2).trans (ExtB.ext y3)
    clear h_p3
    have e2' := y3 _ _ e2
    have e1' := y3 _ _ (y2 _ _ e1)
    walk_at "w"
    refine ⟨_, _, e1', e3, by show _ + 9 ≤ 16777216; omega, ?_⟩
    intro p4 hp4
    generalize h_p4 : DL.sup _ p4 _ = S4
    obtain ⟨e4, y4, f4⟩ := sup_of h_p4
    have y4 := y4 hp4
    have hd4 := (hd3).to hp4 f4
    have x4 := (x3).trans (ExtB.ext y4)
    clear h_p4
    generalize hL4 : (L1 ++ _ : List D) = L4 at e4
    have a4 : AllOdd S4 L4 := by
      rw [← hL4]
      exact (a1.ext ((y2.trans y3).trans y4)).app (all_cons (odd_at (.inl ⟨_, y4 _ _ e2'⟩) (fun _ z => by cases z)) (all_cons (oddI (by decide) (by decide)) (all_cons (oddI (by decide) (by decide)) (all_cons (oddI (bnd (by omega)) (by decide)) (all_cons (oddN trivial trivial (.inl rfl)) (all_cons (oddN trivial trivial (.inr rfl)) (all_cons (odd_at trivial (fun _ z => by cases z)) (all_cons (odd_at trivial (fun _ z => by cases z)) (all_cons (odd_at trivial (fun _ z => by cases z)) (all_nil))))))))))
    have l4 : L4.length = 16 := by rw [← hL4, List.length_append, l1]; rfl
    clear hL4
    walk_at "w"
    refine ⟨by decide, ?_⟩
    walk_at "w"
    refine ⟨by decide, ?_⟩
    walk_at "w"
    refine ⟨a, _, rfl, hd4, by decide, by decide, ?_⟩
    rintro f S5 f0 f1 hd5 fr5
    have e5 : S5 p4 = some (.lst L4) := by rw [fr5 p4 (hd3.ne hp4)]; exact e4
    have a5 := a4.extB (ExtB.of fr5) hd5
    have x5 := x4.trans (ExtB.of fr5)
    have f1' : f < 10 ^ 30 := f1
    walk_at "w"
    generalize hfar : (10 : Int) ^ (30 : Int).toNat + f = far
    have hf0 : 10 ^ 30 ≤ far := by rw [← hfar]; show (10 : Int) ^ 30 ≤ 10 ^ 30 + f; omega
    have hf1 : far < 2 * 10 ^ 30 := by rw [← hfar]; show (10 : Int) ^ 30 + f < _; omega
    clear hfar
    refine ⟨a, 97, rfl, hd5, by decide, by decide, ?_⟩
    rintro g S6 g0 g1 hd6 fr6
    have x6 := x5.trans (ExtB.of fr6)
    walk_at "w"
    intro p7 hp7
    generalize h_p7 : DL.sup _ p7 _ = S7
    obtain ⟨e7, y7, f7⟩ := sup_of h_p7
    have y7 := y7 hp7
    have hd7 := (hd6).to hp7 f7
    have x7 := (x6).trans (ExtB.ext y7)
    clear h_p7
    walk_at "w"
    refine ⟨a, 2, rfl, hd7, by decide, by decide, ?_⟩
    rintro w8 S8 c0 c1 hd8 fr8
    have x8 := x7.trans (ExtB.of fr8)
    have a8 := ((a5.extB (ExtB.of fr6) hd6).ext y7).extB (ExtB.of fr8) hd8
    have e8 : S8 p4 = some (.lst L4) := by rw [fr8 p4 (hd3.ne hp4)]; exact y7 _ _ (by rw [fr6 p4 (hd3.ne hp4)]; exact e5)
    have e8' : S8 p7 = some (.lst [.int (2 + g), .int far]) := by rw [fr8 p7 (hd6.ne hp7)]; exact e7
    obtain ⟨by', hu, hy0, hy1⟩ : ∃ u : Int, atI [D.int (2 + g), D.int far] w8 = some (.int u) ∧ 2 ≤ u ∧ u < 2 ^ 101 := by
      rcases (show w8 = 0 ∨ w8 = 1 by omega) with rfl | rfl
      · exact ⟨2 + g, rfl, by omega, by omega⟩
      · exact ⟨far, rfl, by omega, by omega⟩
    walk_at "w"
    refine ⟨_, _, .inl ⟨p7, rfl, e8'⟩, hu, ?_⟩
    clear e7 e8' hu fr5 fr6 fr8 c0 c1 w8
    walk_at "w"
    intro p9 hp9
    generalize h_p9 : DL.sup _ p9 _ = S9
    obtain ⟨e9, y9, f9⟩ := sup_of h_p9
    have y9 := y9 hp9
    have hd9 := (hd8).to hp9 f9
    have x9 := (x8).trans (ExtB.ext y9)
    clear h_p9
    walk_at "w"
    intro p10 hp10
    generalize h_p10 : DL.sup _ p10 _ = S10
    obtain ⟨e10, y10, f10⟩ := sup_of h_p10
    have y10 := y10 hp10
    have hd10 := (hd9).to hp10 f10
    have x10 := (x9).trans (ExtB.ext y10)
    clear h_p10
    walk_at "w"
    intro p11 hp11
    generalize h_p11 : DL.sup _ p11 _ = S11
    obtain ⟨e11, y11, f11⟩ := sup_of h_p11
    have y11 := y11 hp11
    have hd11 := (hd10).to hp11 f11
    have x11 := (x10).trans (ExtB.ext y11)
    clear h_p11
    walk_at "w"
    refine ⟨a, 7, rfl, hd11, by decide, by decide, ?_⟩
    rintro w12 S12 c0 c1 hd12 fr12
    have x12 := x11.trans (ExtB.of fr12)
    have a12 := (((a8.ext y9).ext y10).ext y11).extB (ExtB.of fr12) hd12
    have e12 : S12 p4 = some (.lst L4) := by rw [fr12 p4 (hd3.ne hp4)]; exact y11 _ _ (y10 _ _ (y9 _ _ e8))
    have e12' : S12 p11 = some (.lst [.non, .str "2", .tup [.int 2], .ref p9, .ref p10, .bl false, .bl true]) := by rw [fr12 p11 (hd10.ne hp11)]; exact e11
    obtain ⟨od, hu, ko, no⟩ : ∃ od : D, atI [D.non, .str "2", .tup [.int 2], .ref p9, .ref p10, .bl false, .bl true] w12 = some od ∧ Kn S12 od ∧ isInt od = false := by
      rcases (show w12 = 0 ∨ w12 = 1 ∨ w12 = 2 ∨ w12 = 3 ∨ w12 = 4 ∨ w12 = 5 ∨ w12 = 6 by omega) with rfl | rfl | rfl | rfl | rfl | rfl | rfl
      · exact ⟨_, rfl, trivial, rfl⟩
      · exact ⟨_, rfl, trivial, rfl⟩
      · exact ⟨_, rfl, trivial, rfl⟩
      · exact ⟨_, rfl, .inl ⟨_, by rw [fr12 p9 (hd8.ne hp9)]; exact y11 _ _ (y10 _ _ e9)⟩, rfl⟩
      · exact ⟨_, rfl, .inr ⟨_, by rw [fr12 p10 (hd9.ne hp10)]; exact y11 _ _ e10⟩, rfl⟩
      · exact ⟨_, rfl, trivial, rfl⟩
      · exact ⟨_, rfl, trivial, rfl⟩
    walk_at "w"
    refine ⟨_, _, .inl ⟨p11, rfl, e12'⟩, hu, ?_⟩
    clear e9 e10 e11 e12' hu fr12 c0 c1 w12
    walk_at "w"
    intro p13 hp13
    walk_at "w"
    refine ⟨sup_same, ?_⟩
    rw [sup_sup]
    generalize h_p13 : DL.sup _ p13 _ = S13
    obtain ⟨e13, y13, f13⟩ := sup_of h_p13
    have y13 := y13 hp13
    have hd13 := (hd12).to hp13 f13
    have x13 := (x12).trans (ExtB.ext y13)
    clear h_p13
    walk_at "w"
    refine ⟨far, far + 7, rfl, by omega, lt_up (a := 202) (by omega) (by decide), ?_⟩
    have r13 : RB 300 ((far : Rat) / ((far + 7 : Int) : Rat)) := (rb_div (n := 202) (by omega) (by omega) (by omega)).mono (by decide)
    walk_at "w"
    refine ⟨small_r (by decide) (by decide), ?_⟩
    walk_at "w"
    refine ⟨small_r (by decide) (by decide), ?_⟩
    walk_at "w"
    intro p14 hp14
    generalize h_p14 : DL.sup _ p14 _ = S14
    obtain ⟨e14, y14, f14⟩ := sup_of h_p14
    have y14 := y14 hp14
    have hd14 := (hd13).to hp14 f14
    have x14 := (x13).trans (ExtB.ext y14)
    clear h_p14
    walk_at "w"
    refine ⟨_, _, y14 _ _ (y13 _ _ e12), e14, by show _ + 5 ≤ 16777216; omega, ?_⟩
    intro p15 hp15
    generalize h_p15 : DL.sup _ p15 _ = S15
    obtain ⟨e15, y15, f15⟩ := sup_of h_p15
    have y15 := y15 hp15
    have hd15 := (hd14).to hp15 f15
    have x15 := (x14).trans (ExtB.ext y15)
    clear h_p15
    generalize hL15 : (L4 ++ _ : List D) = L15 at e15
    have a15 : AllOdd S15 L15 := by
      rw [← hL15]
      exact (a12.ext ((y13.trans y14).trans y15)).app (all_cons (oddN trivial trivial (.inl rfl)) (all_cons (odd_at (.inr ⟨_, y15 _ _ (y14 _ _ e13)⟩) (fun _ z => by cases z)) (all_cons (odd_fr r13) (all_cons (oddI (bnd (by omega)) (bnd (by omega))) (all_cons (oddN trivial trivial (.inl rfl)) (all_nil))))))
    have l15 : L15.length = 21 := by rw [← hL15, List.length_append, l4]; rfl
    clear hL15
    have o15 := ((ko.ext y13).ext y14).ext y15
    clear e13 e14 a12 e12
    walk_at "w"
    refine ⟨small_l (by decide) (by decide), ?_⟩
    walk_at "w"
    intro p16 hp16
    generalize h_p16 : DL.sup _ p16 _ = S16
    obtain ⟨e16, y16, f16⟩ := sup_of h_p16
    have y16 := y16 hp16
    have hd16 := (hd15).to hp16 f16
    have x16 := (x15).trans (ExtB.ext y16)
    clear h_p16
    walk_at "w"
    refine ⟨_, _, y16 _ _ e15, e16, by show _ + 7 ≤ 16777216; omega, ?_⟩
    intro p17 hp17
    generalize h_p17 : DL.sup _ p17 _ = S17
    obtain ⟨e17, y17, f17⟩ := sup_of h_p17
    have y17 := y17 hp17
    have hd17 := (hd16).to hp17 f17
    have x17 := (x16).trans (ExtB.ext y17)
    clear h_p17
    generalize hL17 : (L15 ++ _ : List D) = L17 at e17
    have a17 : AllOdd S17 L17 := by
      rw [← hL17]
      exact (a15.ext (y16.trans y17)).app (all_cons (oddN trivial trivial (.inl rfl)) (all_cons (odd0) (all_cons (oddI (by decide) (by decide)) (all_cons (oddI (bnd (by omega)) (bnd (by omega))) (all_cons (oddN trivial trivial (.inl rfl)) (all_cons (oddI (bnd (by omega)) (bnd (by omega))) (all_cons (oddI (bnd (by omega)) (bnd (by omega))) (all_nil))))))))
    have l17 : L17.length = 28 := by rw [← hL17, List.length_append, l15]; rfl
    clear hL17
    have o17 := (o15.ext y16).ext y17
    have by1 : by'.natAbs < 2 ^ 101 := by omega
    have by2 : (-by').natAbs < 2 ^ 101 := by omega
    have b1' : (q.den : Int).natAbs < 2 ^ 100 := by omega
    have m1 : (by' * q.num).natAbs < 2 ^ 201 := nat_mul_lt by1 t1 (by decide)
    have m2 : (by' * (q.den : Int)).natAbs < 2 ^ 201 := nat_mul_lt by1 b1' (by decide)
    have m3 : (-by' * q.num).natAbs < 2 ^ 201 := nat_mul_lt by2 t1 (by decide)
    clear e16 a15 e15
    walk_at "w"
    refine ⟨.inl (wide_mul by1 t1 (by decide) (by decide) (by decide)), ?_⟩
    walk_at "w"
    refine ⟨.inl (wide_mul by1 b1' (by decide) (by decide) (by decide)), ?_⟩
    walk_at "w"
    intro p18 hp18
    generalize h_p18 : DL.sup _ p18 _ = S18
    obtain ⟨e18, y18, f18⟩ := sup_of h_p18
    have y18 := y18 hp18
    have hd18 := (hd17).to hp18 f18
    have x18 := (x17).trans (ExtB.ext y18)
    clear h_p18
    walk_at "w"
    refine ⟨_, e18, ⟨by decide, by decide⟩, by show 1 * 3 ≤ 16777216; decide, ?_⟩
    intro p19 hp19
    generalize h_p19 : DL.sup _ p19 _ = S19
    obtain ⟨e19, y19, f19⟩ := sup_of h_p19
    have y19 := y19 hp19
    have hd19 := (hd18).to hp19 f19
    have x19 := (x18).trans (ExtB.ext y19)
    clear h_p19
    walk_at "w"
    refine ⟨_, _, y19 _ _ (y18 _ _ e17), e19, by show _ + 3 ≤ 16777216; omega, ?_⟩
    intro p20 hp20
    generalize h_p20 : DL.sup _ p20 _ = S20
    obtain ⟨e20, y20, f20⟩ := sup_of h_p20
    have y20 := y20 hp20
    have hd20 := (hd19).to hp20 f20
    have x20 := (x19).trans (ExtB.ext y20)
    clear h_p20
    generalize hL20 : (L17 ++ _ : List D) = L20 at e20
    have a20 : AllOdd S20 L20 := by
      rw [← hL20]
      exact (a17.ext ((y18.trans y19).trans y20)).app (all_cons (oddI (bnd (by omega)) (bnd (by omega))) (all_cons (oddI (bnd (by omega)) (bnd (by omega))) (all_cons (oddI (bnd (by omega)) (bnd (by omega))) (all_nil))))
    have l20 : L20.length = 31 := by rw [← hL20, List.length_append, l17]; rfl
    clear hL20
    walk_at "w"
    refine ⟨.inl (wide_mul by2 t1 (by decide) (by decide) (by decide)), ?_⟩
    walk_at "w"
    refine ⟨.inl (wide_mul by1 b1' (by decide) (by decide) (by decide)), ?_⟩
    walk_at "w"
    refine ⟨.inl (wide_mul by1 b1' (by decide) (by decide) (by decide)), ?_⟩
    walk_at "w"
    intro p21 hp21
    generalize h_p21 : DL.sup _ p21 _ = S21
    obtain ⟨e21, y21, f21⟩ := sup_of h_p21
    have y21 := y21 hp21
    have hd21 := (hd20).to hp21 f21
    have x21 := (x20).trans (ExtB.ext y21)
    clear h_p21
    walk_at "w"
    refine ⟨_, _, y21 _ _ e20, e21, by show _ + 3 ≤ 16777216; omega, ?_⟩
    intro p22 hp22
    generalize h_p22 : DL.sup _ p22 _ = S22
    obtain ⟨e22, y22, f22⟩ := sup_of h_p22
    have y22 := y22 hp22
    have hd22 := (hd21).to hp22 f22
    have x22 := (x21).trans (ExtB.ext y22)
    clear h_p22
    generalize hL22 : (L20 ++ _ : List D) = L22 at e22
    have a22 : AllOdd S22 L22 := by
      rw [← hL22]
      exact (a20.ext (y21.trans y22)).app (all_cons (oddI (by decide) (bnd (by omega))) (all_cons (oddI (bnd (by omega)) (bnd (by omega))) (all_cons (oddI (bnd (by omega)) (bnd (by omega))) (all_nil))))
    have l22 : L22.length = 34 := by rw [← hL22, List.length_append, l20]; rfl
    clear hL22
    have o22 := ((((o17.ext y18).ext y19).ext y20).ext y21).ext y22
    clear e18 e19 e21 a17 a20 e17 e20
    walk_at "w"
    intro p23 hp23
    generalize h_p23 : DL.sup _ p23 _ = S23
    obtain ⟨e23, y23, f23⟩ := sup_of h_p23
    have y23 := y23 hp23
    have hd23 := (hd22).to hp23 f23
    have x23 := (x22).trans (ExtB.ext y23)
    clear h_p23
    walk_at "w"
    refine ⟨_, _, y23 _ _ e22, e23, by show _ + 8 ≤ 16777216; omega, ?_⟩
    have o23 := o22.ext y23
    intro p24 hp24
    generalize h_p24 : DL.sup _ p24 _ = S24
    obtain ⟨e24, y24, f24⟩ := sup_of h_p24
    have y24 := y24 hp24
    have hd24 := (hd23).to hp24 f24
    have x24 := (x23).trans (ExtB.ext y24)
    clear h_p24
    generalize hL24 : (L22 ++ _ : List D) = L24 at e24
    have a24 : AllOdd S24 L24 := by
      rw [← hL24]
      exact (a22.ext (y23.trans y24)).app (all_cons (oddI (bnd (by omega)) (by decide)) (all_cons (oddN trivial (o23.ext y24) (.inr no)) (all_cons (oddN (o23.ext y24) trivial (.inl no)) (all_cons (oddI (by decide) (by decide)) (all_cons (oddI (by decide) (by decide)) (all_cons (oddI (by decide) (by decide)) (all_cons (oddI (bnd (by omega)) (bnd (by omega))) (all_cons (oddI (bnd (by omega)) (bnd (by omega))) (all_nil)))))))))
    have l24 : L24.length = 42 := by rw [← hL24, List.length_append, l22]; rfl
    clear hL24
    walk_at "w"
    refine ⟨a, 42, rfl, hd24, by decide, by decide, ?_⟩
    rintro k0 S25 c0 c1 hd25 fr25
    obtain ⟨k, rfl⟩ := Int.eq_ofNat_of_zero_le c0
    have hk : k < L24.length := by omega
    have e25 : S25 p24 = some (.lst L24) := by rw [fr25 p24 (hd23.ne hp24)]; exact e24
    walk_at "w"
    refine ⟨_, L24[k], .inl ⟨p24, rfl, e25⟩, atI_nat (List.getElem?_eq_getElem hk), ?_⟩
    walk_at "w"
    exact h _ S25 ((a24 _ (List.getElem_mem hk)).extB (ExtB.of fr25) hd25) hd25 (x24.trans (ExtB.of fr25))
end K01
set_option Elab.async false
set_option linter.all false
set_option maxRecDepth 100000
set_option maxHeartbeats 4000000
namespace K01
open PySem PySem.Spec PyProof.Rows L2 DL
local macro_rules | `(tactic| walk_at "w") => `(tactic| conv => whnf)
local macro_rules | `(tactic| walk_at "g") => `(tactic| ((conv => whnf); repeat' (first | (refine IFB.t ?_ ?_; rfl; conv => whnf) | (refine IFB.f ?_ ?_; rfl; conv => whnf))))

def sp_law_bent : DSp := fun ds S Q _ => ∃ (a : Addr) (qs : List Rat), ds = [.ref a, shD qs] ∧ DeckD S a ∧ 0 < qs.length ∧ qs.length ≤ 6 ∧ (∀ q ∈ qs, RB 100 q) ∧ ∀ d S', OddS S' d → DeckD S' a → ExtB a S S' → Q d S'
theorem oddS_tup {S : Sto} {L : List D} (h : AllOdd S L) (hl : L.length ≤ 9) : OddS S (.tup L) := ⟨trivial, fun xs e => by cases e; exact ⟨hl, h⟩⟩
theorem oddS_at {S : Sto} {d : D} (h : Kn S d) (hn : ∀ xs, d ≠ .tup xs) : OddS S d := ⟨h, fun xs e => absurd e (hn xs)⟩
theorem odd_frs {S : Sto} {qs : List Rat} (h : ∀ q ∈ qs, RB 100 q) : AllOdd S (qs.map fr) := fun x hx => by
  obtain ⟨q, hq, rfl⟩ := List.mem_map.mp hx
  exact odd_fr ((h q hq).mono (by decide))
theorem AllOdd.take {S : Sto} {L : List D} (h : AllOdd S L) (k : Nat) : AllOdd S (L.take k) := fun x hx => h x (List.mem_of_mem_take hx)
theorem AllOdd.drop {S : Sto} {L : List D} (h : AllOdd S L) (k : Nat) : AllOdd S (L.drop k) := fun x hx => h x (List.mem_of_mem_drop hx)
theorem cut_fromI {xs : List D} {k : Nat} (h : k < xs.length) : DL.cutD xs (some ((k : Int) + 1)) none = xs.drop (k + 1) := by
  have := cut_from (xs := xs) (r := k + 1) (by omega)
  rw [show ((k + 1 : Nat) : Int) = (k : Int) + 1 by omega] at this
  exact this
theorem ok_law_bent {P : Program} {w : World} {K : PySem.W.Frag} {mg : Str → Option Value} {base : Heap} (T : Txt K mg) : FnOk P w K mg base (L2.CX P w) 4 T.a_law_bent T.fd_law_bent ["deck", "own"] (toSp K sp_law_bent) := by
  refine fnD T.F_law_bent sc_law_bent (fun ds S Q E h => ?_) (fun cdv A outer s H E RX hr => ⟨_, (pds_cons (pd_par 2 3 rfl sc_law_bent.nd (pda_cons (pd_call (takes_of rfl rfl rfl rfl) (ok_law_take T) (hr.mono (by decide)) T.m_law_take T.F_law_take.kp T.d_law_take (pda_cons (pd_var 0) (pda_cons (pd_blt cd_len T.b_len (by decide +kernel) (pda_cons (pd_var 1) pda_nil)) pda_nil))) (pda_cons (pd_call (takes_of rfl rfl rfl rfl) (ok_law_take T) (hr.mono (by decide)) T.m_law_take T.F_law_take.kp T.d_law_take (pda_cons (pd_var 0) (pda_cons pd_int pda_nil))) pda_nil)) rfl)
    (pds_cons (pd_ifS (pdt_cmp od_lt (pd_var 3) pd_int) (pds_one (pd_ret (pd_bin od_add (pd_bin od_add (pd_slice (pd_var 1) pdo_none (pdo_some (pd_var 2))) (pd_tup (pda_cons (pd_call (takes_of rfl rfl rfl rfl) (ok_law_odd T) (hr.mono (by decide)) T.m_law_odd T.F_law_odd.kp T.d_law_odd (pda_cons (pd_var 0) (pda_cons (pd_ix (pd_var 1) (pd_var 2)) pda_nil))) pda_nil))) (pd_slice (pd_var 1) (pdo_some (pd_bin od_add (pd_var 2) pd_int)) pdo_none)))) pds_nil)
    (pds_cons (pd_ifS (pdt_cmp (od_eq hr.units) (pd_var 3) pd_int) (pds_one (pd_ret (pd_bin od_add (pd_slice (pd_var 1) pdo_none (pdo_some (pd_var 2))) (pd_slice (pd_var 1) (pdo_some (pd_bin od_add (pd_var 2) pd_int)) pdo_none)))) pds_nil)
    (pds_cons (pd_ifS (pdt_cmp (od_eq hr.units) (pd_var 3) pd_int) (pds_one (pd_ret (pd_bin od_add (pd_bin od_add (pd_slice (pd_var 1) pdo_none (pdo_some (pd_var 2))) (pd_tup (pda_cons (pd_tup (pda_cons pd_int (pda_cons pd_int pda_nil))) pda_nil))) (pd_slice (pd_var 1) (pdo_some (pd_var 2)) pdo_none)))) pds_nil)
    (pds_cons (pd_ifS (pdt_cmp (od_eq hr.units) (pd_var 3) pd_int) (pds_cons (pd_set 4 sc_law_bent.nd (pd_call (takes_of rfl rfl rfl rfl) (ok_law_pair T) (hr.mono (by decide)) T.m_law_pair T.F_law_pair.kp T.d_law_pair (pda_cons (pd_bin od_add pd_int (pd_call (takes_of rfl rfl rfl rfl) (ok_law_take T) (hr.mono (by decide)) T.m_law_take T.F_law_take.kp T.d_law_take (pda_cons (pd_var 0) (pda_cons pd_int pda_nil)))) (pda_cons (pd_bin od_add pd_int (pd_call (takes_of rfl rfl rfl rfl) (ok_law_take T) (hr.mono (by decide)) T.m_law_take T.F_law_take.kp T.d_law_take (pda_cons (pd_var 0) (pda_cons pd_int pda_nil)))) pda_nil))))
    (pds_cons (pd_set 5 sc_law_bent.nd (pd_call (takes_of rfl rfl rfl rfl) (ok_law_plus T) (hr.mono (by decide)) T.m_law_plus T.F_law_plus.kp T.d_law_plus (pda_cons (pd_ix (pd_var 1) (pd_var 2)) (pda_cons (pd_tup (pda_cons (pd_neg (pd_ix (pd_var 4) pd_int)) (pda_cons (pd_ix (pd_var 4) pd_int) pda_nil))) pda_nil))))
    (pds_one (pd_ret (pd_bin od_add (pd_bin od_add (pd_slice (pd_var 1) pdo_none (pdo_some (pd_var 2))) (pd_tup (pda_cons (pd_var 4) (pda_cons (pd_var 5) pda_nil)))) (pd_slice (pd_var 1) (pdo_some (pd_bin od_add (pd_var 2) pd_int)) pdo_none)))))) pds_nil)
    (pds_cons (pd_ifS (pdt_cmp (od_eq hr.units) (pd_var 3) pd_int) (pds_one (pd_ret (pd_ix (pd_lst (pda_cons (pd_bltTy cd_list T.b_list (by decide +kernel) (pda_cons (pd_var 1) pda_nil)) (pda_cons pd_non (pda_cons pd_str (pda_cons (pd_tup pda_nil) (pda_cons (pd_ix (pd_var 1) pd_int) (pda_cons pd_int (pda_cons (pd_disp1 (pd_ix (pd_var 1) pd_int)) pda_nil)))))))) (pd_call (takes_of rfl rfl rfl rfl) (ok_law_take T) (hr.mono (by decide)) T.m_law_take T.F_law_take.kp T.d_law_take (pda_cons (pd_var 0) (pda_cons pd_int pda_nil)))))) pds_nil)
    (pds_one (pd_ret (pd_bin od_add (pd_slice (pd_var 1) (pdo_some (pd_var 2)) pdo_none) (pd_slice (pd_var 1) pdo_none (pdo_some (pd_var 2)))))))))))), fun ds S Q h => ?_⟩)
  · obtain ⟨_, _, rfl, _⟩ := h
    rfl
  · obtain ⟨a, qs, rfl, hd0, h0, h6, hb, h⟩ := h
    skip
    have hl : (qs.map fr).length = qs.length := List.length_map _
    have hA : ∀ S', AllOdd S' (qs.map fr) := fun S' => odd_frs hb
    walk_at "w"
    rw [hl]
    refine ⟨a, (qs.length : Int), rfl, hd0, by omega, by omega, ?_⟩
    rintro k0 S1 u0 u1 hd1 fr1
    obtain ⟨k, rfl⟩ := Int.eq_ofNat_of_zero_le u0
    have hk : k < qs.length := by omega
    have x1 : ExtB a S S1 := ExtB.of fr1
    walk_at "w"
    refine ⟨a, 8, rfl, hd1, by decide, by decide, ?_⟩
    rintro way S2 v0 v1 hd2 fr2
    have x2 := x1.trans (ExtB.of fr2)
    have eX : atI (qs.map fr) (k : Int) = some (fr qs[k]) := atI_nat (by rw [List.getElem?_map, List.getElem?_eq_getElem hk]; rfl)
    have e0 : atI (qs.map fr) (0 : Int) = some (fr qs[0]) := atI_nat (j := 0) (by rw [List.getElem?_map, List.getElem?_eq_getElem h0]; rfl)
    have rk := hb _ (List.getElem_mem hk)
    have r0 := hb _ (List.getElem_mem h0)
    have ct : DL.cutD (qs.map fr) none (some (k : Int)) = (qs.map fr).take k := cut_to (by omega)
    have cf : DL.cutD (qs.map fr) (some (k : Int)) none = (qs.map fr).drop k := cut_from (by omega)
    have cg : DL.cutD (qs.map fr) (some ((k : Int) + 1)) none = (qs.map fr).drop (k + 1) := cut_fromI (by omega)
    walk_at "w"
    refine IFB.p (fun c1 => ?_) (fun c1 => ?_)
    · walk_at "w"
      refine ⟨_, eX, ?_⟩
      walk_at "w"
      refine ⟨a, qs[k], rfl, hd2, rk, ?_⟩
      rintro d S3 od hd3 x3
      walk_at "w"
      refine ⟨by simp only [List.length_append, List.length_map, List.length_take, List.length_drop, List.length_cons, List.length_nil, DL.cutD]; show _ ≤ 16777216; omega, ?_⟩
      walk_at "w"
      refine ⟨by simp only [List.length_append, List.length_map, List.length_take, List.length_drop, List.length_cons, List.length_nil, DL.cutD]; show _ ≤ 16777216; omega, ?_⟩
      rw [ct, cg]
      exact h _ S3 (oddS_tup ((((hA S3).take k).app (all_cons od all_nil)).app ((hA S3).drop (k + 1))) (by simp; omega)) hd3 (x2.trans x3)
    walk_at "w"
    refine IFB.p (fun c2 => ?_) (fun c2 => ?_)
    · walk_at "w"
      refine ⟨by simp only [List.length_append, List.length_map, List.length_take, List.length_drop, List.length_cons, List.length_nil, DL.cutD]; show _ ≤ 16777216; omega, ?_⟩
      rw [ct, cg]
      exact h _ S2 (oddS_tup (((hA S2).take k).app ((hA S2).drop (k + 1))) (by simp; omega)) hd2 x2
    walk_at "w"
    refine IFB.p (fun c3 => ?_) (fun c3 => ?_)
    · walk_at "w"
      refine ⟨by simp only [List.length_append, List.length_map, List.length_take, List.length_drop, List.length_cons, List.length_nil, DL.cutD]; show _ ≤ 16777216; omega, ?_⟩
      walk_at "w"
      refine ⟨by simp only [List.length_append, List.length_map, List.length_take, List.length_drop, List.length_cons, List.length_nil, DL.cutD]; show _ ≤ 16777216; omega, ?_⟩
      rw [ct, cf]
      exact h _ S2 (oddS_tup ((((hA S2).take k).app (all_cons (oddI (by decide) (by decide)) all_nil)).app ((hA S2).drop k)) (by simp; omega)) hd2 x2
    walk_at "w"
    refine IFB.p (fun c4 => ?_) (fun c4 => ?_)
    · walk_at "w"
      refine ⟨a, 5, rfl, hd2, by decide, by decide, ?_⟩
      rintro f3 S3 g0 g1 hd3 fr3
      walk_at "w"
      refine ⟨a, 9, rfl, hd3, by decide, by decide, ?_⟩
      rintro f4 S4 g2 g3 hd4 fr4
      have x4 := (x2.trans (ExtB.of fr3)).trans (ExtB.of fr4)
      walk_at "w"
      refine ⟨1 + f3, 2 + f4, rfl, by omega, lt_up (a := 7) (by omega) (by decide), ?_⟩
      have rm : RB 7 (((1 + f3 : Int) : Rat) / ((2 + f4 : Int) : Rat)) := rb_div (by omega) (by omega) (by omega)
      generalize ((1 + f3 : Int) : Rat) / ((2 + f4 : Int) : Rat) = m at *
      walk_at "w"
      refine ⟨_, eX, ?_⟩
      walk_at "w"
      refine ⟨_, rfl, ?_⟩
      walk_at "w"
      refine ⟨_, rfl, ?_⟩
      walk_at "w"
      have en : D.tup [.int (-m.num), .int (m.den : Int)] = fr (-m) := by
        show _ = D.tup [.int (-m).num, .int ((-m).den : Int)]
        rw [Rat.neg_num, Rat.neg_den]
      have rn : RB 7 (-m) := ⟨by rw [Rat.neg_num, Int.natAbs_neg]; exact rm.1, by rw [Rat.neg_den]; exact rm.2⟩
      rw [en]
      refine ⟨qs[k], -m, rfl, rk.mono (by decide), rn.mono (by decide), ?_⟩
      have rl : RB 300 (qs[k] + -m) := (rb_add rk rn).mono (by decide)
      walk_at "w"
      refine ⟨by simp only [List.length_append, List.length_map, List.length_take, List.length_drop, List.length_cons, List.length_nil, DL.cutD]; show _ ≤ 16777216; omega, ?_⟩
      walk_at "w"
      refine ⟨by simp only [List.length_append, List.length_map, List.length_take, List.length_drop, List.length_cons, List.length_nil, DL.cutD]; show _ ≤ 16777216; omega, ?_⟩
      rw [ct, cg]
      exact h _ S4 (oddS_tup ((((hA S4).take k).app (all_cons (odd_fr (rm.mono (by decide))) (all_cons (odd_fr rl) all_nil))).app ((hA S4).drop (k + 1))) (by simp; omega)) hd4 x4
    walk_at "w"
    refine IFB.p (fun c5 => ?_) (fun c5 => ?_)
    · walk_at "w"
      intro p3 hp3
      generalize h_p3 : DL.sup _ p3 _ = S3
      obtain ⟨e3, y3, f3⟩ := sup_of h_p3
      have y3 := y3 hp3
      have hd3 := (hd2).to hp3 f3
      have x3 := (x2).trans (ExtB.ext y3)
      clear h_p3
      walk_at "w"
      refine ⟨_, e0, ?_⟩
      walk_at "w"
      intro p4 hp4
      walk_at "w"
      refine ⟨_, e0, ?_⟩
      refine ⟨sup_same, ?_⟩
      rw [sup_sup]
      generalize h_p4 : DL.sup _ p4 _ = S4
      obtain ⟨e4, y4, f4⟩ := sup_of h_p4
      have y4 := y4 hp4
      have hd4 := (hd3).to hp4 f4
      have x4 := (x3).trans (ExtB.ext y4)
      clear h_p4
      walk_at "w"
      intro p5 hp5
      generalize h_p5 : DL.sup _ p5 _ = S5
      obtain ⟨e5, y5, f5⟩ := sup_of h_p5
      have y5 := y5 hp5
      have hd5 := (hd4).to hp5 f5
      have x5 := (x4).trans (ExtB.ext y5)
      clear h_p5
      walk_at "w"
      refine ⟨a, 7, rfl, hd5, by decide, by decide, ?_⟩
      rintro w6 S6 g0 g1 hd6 fr6
      have x6 := x5.trans (ExtB.of fr6)
      have e6 : S6 p5 = some (.lst [.ref p3, .non, .str "1", .tup [], fr qs[0], .int 1, .ref p4]) := by rw [fr6 p5 (hd4.ne hp5)]; exact e5
      obtain ⟨d, hu, od⟩ : ∃ d : D, atI [D.ref p3, .non, .str "1", .tup [], fr qs[0], .int 1, .ref p4] w6 = some d ∧ OddS S6 d := by
        rcases (show w6 = 0 ∨ w6 = 1 ∨ w6 = 2 ∨ w6 = 3 ∨ w6 = 4 ∨ w6 = 5 ∨ w6 = 6 by omega) with rfl | rfl | rfl | rfl | rfl | rfl | rfl
        · exact ⟨_, rfl, oddS_at (.inl ⟨_, by rw [fr6 p3 (hd2.ne hp3)]; exact y5 _ _ (y4 _ _ e3)⟩) (fun _ z => by cases z)⟩
        · exact ⟨_, rfl, oddS_at trivial (fun _ z => by cases z)⟩
        · exact ⟨_, rfl, oddS_at trivial (fun _ z => by cases z)⟩
        · exact ⟨_, rfl, oddS_tup all_nil (by decide)⟩
        · exact ⟨_, rfl, oddS_tup (all_cons (odd_at trivial (fun _ z => by cases z)) (all_cons (odd_at trivial (fun _ z => by cases z)) all_nil)) (by show 2 ≤ 9; decide)⟩
        · exact ⟨_, rfl, oddS_at trivial (fun _ z => by cases z)⟩
        · exact ⟨_, rfl, oddS_at (.inr ⟨_, by rw [fr6 p4 (hd3.ne hp4)]; exact y5 _ _ e4⟩) (fun _ z => by cases z)⟩
      walk_at "w"
      refine ⟨_, _, .inl ⟨p5, rfl, e6⟩, hu, ?_⟩
      walk_at "w"
      exact h _ S6 od hd6 x6
    · walk_at "w"
      refine ⟨by simp only [List.length_append, List.length_map, List.length_take, List.length_drop, List.length_cons, List.length_nil, DL.cutD]; show _ ≤ 16777216; omega, ?_⟩
      rw [ct, cf]
      exact h _ S2 (oddS_tup (((hA S2).drop k).app ((hA S2).take k)) (by simp; omega)) hd2 x2
end K01
set_option Elab.async false
set_option linter.all false
set_option maxRecDepth 100000
set_option maxHeartbeats 4000000
namespace K01
open PySem PySem.Spec PyProof.Rows L2 DL
local macro_rules | `(tactic| walk_at "w") => `(tactic| conv => whnf)
local macro_rules | `(tactic| walk_at "g") => `(tactic| ((conv => whnf); repeat' (first | (refine IFB.t ?_ ?_; rfl; conv => whnf) | (refine IFB.f ?_ ?_; rfl; conv => whnf))))

def WG (ws : List Int) : Prop := ws ≠ [] ∧ ws.length ≤ 6 ∧ (∀ w ∈ ws, 0 < w) ∧ ∀ w ∈ ws, w < 2 ^ 80
theorem isum_mem : ∀ {ws : List Int}, (∀ w ∈ ws, 0 < w) → ∀ w ∈ ws, w ≤ ws.sum
  | w :: ws, h, v, hv => by
    have h0 := isum_nn (ws := ws) fun x hx => h x (List.mem_cons_of_mem _ hx)
    have h1 := h w (by simp)
    rw [List.sum_cons]
    rcases List.mem_cons.mp hv with rfl | hv
    · omega
    · have := isum_mem (fun x hx => h x (List.mem_cons_of_mem _ hx)) v hv
      omega
theorem isum_le {c : Int} : ∀ {ws : List Int}, (∀ w ∈ ws, w ≤ c) → ws.sum ≤ (ws.length : Int) * c
  | [], _ => by simp
  | w :: ws, h => by
    have h1 := h w (by simp)
    have h2 := isum_le (c := c) (ws := ws) fun x hx => h x (List.mem_cons_of_mem _ hx)
    rw [List.sum_cons, List.length_cons]
    have e : ((ws.length + 1 : Nat) : Int) * c = (ws.length : Int) * c + c := by
      rw [Int.natCast_add, Int.add_mul]
      simp
    rw [e]
    omega
theorem Wts.wg {ws : List Int} (h : Wts ws) : WG ws := ⟨h.1, h.2.1, h.2.2.1, fun w hw => by
  have h1 := isum_mem h.2.2.1 w hw
  have h2 := h.2.2.2
  have : (60 : Int) < 2 ^ 80 := by decide
  omega⟩
theorem WG.pos {ws : List Int} (h : WG ws) : 0 < ws.sum := isum_pos h.1 h.2.2.1
theorem WG.top {ws : List Int} (h : WG ws) : ws.sum.natAbs < 2 ^ 90 := by
  have h1 := isum_le (c := 2 ^ 80) (ws := ws) fun w hw => Int.le_of_lt (h.2.2.2 w hw)
  have h2 := h.pos
  have h3 : (ws.length : Int) * 2 ^ 80 ≤ 6 * 2 ^ 80 := Int.mul_le_mul_of_nonneg_right (by have := h.2.1; omega) (by decide)
  have h4 : (6 : Int) * 2 ^ 80 < 2 ^ 90 := by decide
  omega
theorem WG.log {ws : List Int} (h : WG ws) : ∀ i ∈ ws, i.natAbs.log2 < 1920 := fun i hi => by
  have h1 := h.2.2.1 i hi
  have h2 := h.2.2.2 i hi
  exact Nat.lt_trans ((Nat.log2_lt (show i.natAbs ≠ 0 by omega)).mpr (show i.natAbs < 2 ^ 80 by omega)) (by decide)
theorem nsum_le {c : Nat} : ∀ {ns : List Nat}, (∀ n ∈ ns, n ≤ c) → ns.sum ≤ ns.length * c
  | [], _ => by simp
  | n :: ns, h => by
    have h1 := h n (by simp)
    have h2 := nsum_le (c := c) (ns := ns) fun x hx => h x (List.mem_cons_of_mem _ hx)
    rw [List.sum_cons, List.length_cons, Nat.add_mul]
    omega
theorem WG.text {ws : List Int} (h : WG ws) : (listText (txI ws)).length ≤ sizeLine := by
  have h1 := listText_len_le (txI ws)
  have h2 : ((txI ws).map (·.length)).sum ≤ ((txI ws).map (·.length)).length * 1921 := nsum_le fun n hn => by
    obtain ⟨t, ht, rfl⟩ := List.mem_map.mp hn
    obtain ⟨i, hi, rfl⟩ := List.mem_map.mp ht
    exact int_text_len_1921 (h.log i hi)
  have h3 : (txI ws).length = ws.length := List.length_map _
  rw [List.length_map, h3] at h2
  rw [h3] at h1
  have h4 := h.2.1
  show _ ≤ 16777216
  omega
theorem msum (c : Int) : ∀ ws : List Int, (ws.map (c * ·)).sum = c * ws.sum
  | [] => by simp
  | w :: ws => by rw [List.map_cons, List.sum_cons, List.sum_cons, msum c ws, Int.mul_add]
theorem dvs_mul {c : Int} (hc : 0 < c) {ws : List Int} (h : 0 < ws.sum) : dvs (ws.map (c * ·)).sum (ws.map (c * ·)) = dvs ws.sum ws := by
  unfold dvs
  rw [List.map_map, msum]
  apply List.map_congr_left
  intro w _
  show ((c * w : Int) : Rat) / ((c * ws.sum : Int) : Rat) = (w : Rat) / ((ws.sum : Int) : Rat)
  rw [Rat.intCast_mul, Rat.intCast_mul]
  have h1 := ratNe hc
  have h2 := ratNe h
  grind
theorem sum_rev : ∀ ws : List Int, ws.reverse.sum = ws.sum
  | [] => rfl
  | w :: ws => by
    rw [List.reverse_cons, List.sum_append, sum_rev ws, List.sum_cons]
    simp
    omega
theorem dvs_rev (ws : List Int) : dvs ws.reverse.sum ws.reverse = (dvs ws.sum ws).reverse := by
  unfold dvs
  rw [sum_rev, List.map_reverse]
theorem dvs_sum {N : Int} (hp : 0 < N) (ws : List Int) : (dvs N ws).sum = ((ws.sum : Int) : Rat) / (N : Rat) := by
  have hN := ratNe hp
  unfold dvs
  induction ws with
  | nil => simp [Rat.div_def]
  | cons w ws ih =>
    rw [List.map_cons, List.sum_cons, List.sum_cons, ih, Rat.intCast_add]
    grind
theorem dvs_isSh {ws : List Int} (h1 : ws ≠ []) (h3 : ∀ w ∈ ws, 0 < w) : isSh (shD (dvs ws.sum ws)) = true := by
  have hp := isum_pos h1 h3
  have hn := ratNe hp
  have hne : (dvs ws.sum ws).map fr ≠ [] := fun z => h1 (List.map_eq_nil_iff.mp (List.map_eq_nil_iff.mp z))
  have e1 : (((dvs ws.sum ws).map fr).isEmpty) = false := by
    cases e : (dvs ws.sum ws).map fr with
    | nil => exact absurd e hne
    | cons _ _ => rfl
  have e2 : ((dvs ws.sum ws).map fr).all isNum = true := List.all_eq_true.mpr fun x hx => by
    obtain ⟨q, _, rfl⟩ := List.mem_map.mp hx
    exact isNum_fr q
  have e3 : ((dvs ws.sum ws).map fr).map numQ = dvs ws.sum ws := by
    rw [List.map_map]
    conv => rhs; rw [← List.map_id (dvs ws.sum ws)]
    apply List.map_congr_left
    intro q _
    exact numQ_fr q
  show (!((dvs ws.sum ws).map fr).isEmpty && (((dvs ws.sum ws).map fr).all isNum && isShQ (((dvs ws.sum ws).map fr).map numQ))) = true
  rw [e1, e2, e3]
  have e4 : ((dvs ws.sum ws).map fun q => decide (0 < q)).all id = true := by
    rw [List.all_map]
    refine List.all_eq_true.mpr fun q hq => ?_
    obtain ⟨w, hw, rfl⟩ := List.mem_map.mp hq
    have hw0 := h3 w hw
    refine decide_eq_true ?_
    have h5 := ratPos hp
    have h6 := ratPos hw0
    rw [Rat.div_def]
    exact Rat.mul_pos h6 (Rat.inv_pos.mpr h5)
  have e5 : decide ((dvs ws.sum ws).sum = 1) = true := by
    rw [dvs_sum hp]
    exact decide_eq_true (by grind)
  unfold isShQ
  rw [e4, e5]
  rfl
theorem dvs_rb {ws : List Int} (h : WG ws) : ∀ q ∈ dvs ws.sum ws, RB 100 q := fun q hq => by
  obtain ⟨w, hw, rfl⟩ := List.mem_map.mp hq
  have h1 := h.2.2.1 w hw
  have h2 := h.2.2.2 w hw
  have h3 := h.top
  exact (rb_div (n := 90) h.pos (show w.natAbs < 2 ^ 90 by omega) h3).mono (by decide)
theorem dvs_odd {S : Sto} {qs : List Rat} (h : ∀ q ∈ qs, RB 100 q) (hl : qs.length ≤ 6) : OddS S (shD qs) := oddS_tup (odd_frs h) (by rw [List.length_map]; omega)
def mulI (c : Int) : D → D
  | .int m => .int (c * m)
  | d => d
theorem mulI_D (c : Int) (ws : List Int) : (ws.map D.int).map (mulI c) = (ws.map (c * ·)).map D.int := by
  rw [List.map_map, List.map_map]
  rfl
theorem two_same {S : Sto} {p q : Addr} {x y : D} (h1 : S p = some (.lst [x, y])) (h2 : S q = some (.lst [x, y])) (hx : sameD S 4 x x) (hy : sameD S 4 y y) : sameD S 5 (.ref p) (.ref q) :=
  lst_same h1 h2 (by show 2 < 1000000; decide) fun z hz => by
    rcases List.mem_cons.mp hz with rfl | hz
    · exact hx
    · cases List.mem_singleton.mp hz; exact hy
theorem three_same {S : Sto} {p q : Addr} {x y z : D} (h1 : S p = some (.lst [x, y, z])) (h2 : S q = some (.lst [x, y, z])) (hx : sameD S 4 x x) (hy : sameD S 4 y y) (hz : sameD S 4 z z) : sameD S 5 (.ref p) (.ref q) :=
  lst_same h1 h2 (by show 3 < 1000000; decide) fun v hv => by
    rcases List.mem_cons.mp hv with rfl | hv
    · exact hx
    rcases List.mem_cons.mp hv with rfl | hv
    · exact hy
    · cases List.mem_singleton.mp hv; exact hz
theorem four_same {S : Sto} {p q : Addr} {x y z w : D} (h1 : S p = some (.lst [x, y, z, w])) (h2 : S q = some (.lst [x, y, z, w])) (hx : sameD S 4 x x) (hy : sameD S 4 y y) (hz : sameD S 4 z z) (hw : sameD S 4 w w) : sameD S 5 (.ref p) (.ref q) :=
  lst_same h1 h2 (by show 4 < 1000000; decide) fun v hv => by
    rcases List.mem_cons.mp hv with rfl | hv
    · exact hx
    rcases List.mem_cons.mp hv with rfl | hv
    · exact hy
    rcases List.mem_cons.mp hv with rfl | hv
    · exact hz
    · cases List.mem_singleton.mp hv; exact hw
def sp_law_right : DSp := fun ds S Q _ => ∃ a, ds = [.ref a] ∧ DeckD S a ∧ ∀ S', Q (.bl true) S'
def w3 : List Int := [5, 21, 4]
end K01
set_option Elab.async false
set_option linter.all false
set_option maxRecDepth 100000
set_option maxHeartbeats 4000000
namespace K01
open PySem PySem.Spec PyProof.Rows L2 DL
local macro_rules | `(tactic| walk_at "w") => `(tactic| conv => whnf)
local macro_rules | `(tactic| walk_at "g") => `(tactic| ((conv => whnf); repeat' (first | (refine IFB.t ?_ ?_; rfl; conv => whnf) | (refine IFB.f ?_ ?_; rfl; conv => whnf))))
theorem ok_law_right {P : Program} {w : World} {K : PySem.W.Frag} {mg : Str → Option Value} {base : Heap} (T : Txt K mg) : FnOk P w K mg base (L2.CX P w) 6 T.a_law_right T.fd_law_right ["deck"] (toSp K sp_law_right) := by
  refine fnD T.F_law_right sc_law_right (fun ds S Q E h => ?_) (fun cdv A outer s H E RX hr => ⟨_, pdss_G fun g => (have hr := room_G (g := g) hr; (pds_cons (pd_set 1 sc_law_right.nd (pd_call takes0 (ok_law_weights T) (hr.mono (by decide)) T.m_law_weights T.F_law_weights.kp T.d_law_weights (pda_cons (pd_var 0) (pda_cons pd_int pda_nil))))
    (pds_cons (pd_ifS (pdt_cmp (od_eq hr.units) (pd_call takes0 (ok_law_take T) (hr.mono (by decide)) T.m_law_take T.F_law_take.kp T.d_law_take (pda_cons (pd_var 0) (pda_cons pd_int pda_nil))) pd_int) (pds_one (pd_setLc 1 (own := [("x", 10)]) (p := .n 10) rfl sc_law_right.nd rfl rfl (sw_true rfl rfl rfl (by decide +kernel)) (pdi_it (pd_var 1)) (blkOk_by (N := ["deck", "weights", "due", "kept", "found", "by", "third", "turn", "bent", "odd", "x"]) (sc := defScope s_law_right) (own := [("x", 10)]) (by decide +kernel)) (fun _ _ _ _ _ => (pg_name (i := 10) sc_law_right.nd rfl (by first | exact Or.inl rfl | exact Or.inr rfl))) (fun _ _ _ _ _ => pdts_nil) (fun _ _ _ _ _ => (pd_bin od_add (pd_bin od_mul (pd_var 10) (pd_bin od_add (pd_bin od_pow pd_int pd_int) pd_int)) (pd_call takes0 (ok_law_take T) (hr.mono (by decide)) T.m_law_take T.F_law_take.kp T.d_law_take (pda_cons (pd_var 0) (pda_cons (pd_bin od_pow pd_int pd_int) pda_nil))))))) pds_nil)
    (pds_cons (pd_par 2 3 rfl sc_law_right.nd (pda_cons (pd_call takes0 (ok_law_shares T) (hr.mono (by decide)) T.m_law_shares T.F_law_shares.kp T.d_law_shares (pda_cons (pd_var 1) pda_nil)) (pda_cons (pd_blt (cd_repr rfl hr.units) T.b_repr (by decide +kernel) (pda_cons (pd_var 1) pda_nil)) pda_nil)) rfl)
    (pds_cons (pd_set 4 sc_law_right.nd (pd_lst (pda_cons (pd_call takes0 (ok_shares T) (hr.mono (by decide)) T.m_shares T.F_shares.kp T.d_shares (pda_cons (pd_var 1) pda_nil)) (pda_cons (pd_callK0 takes0 (ok_shares T) (hr.mono (by decide)) T.m_shares T.F_shares.kp (kb_shares_0_weights T) (pdk_cons (pd_bltTy cd_tuple T.b_tuple (by decide +kernel) (pda_cons (pd_var 1) pda_nil)) pdk_nil)) (pda_cons (pd_call takes0 (ok_shares T) (hr.mono (by decide)) T.m_shares T.F_shares.kp T.d_shares (pda_cons (pd_lc (own := [("x", 10)]) (p := .n 10) rfl sc_law_right.nd (pdi_it (pd_var 1)) (blkOk_by (N := ["deck", "weights", "due", "kept", "found", "by", "third", "turn", "bent", "odd", "x"]) (sc := defScope s_law_right) (own := [("x", 10)]) (by decide +kernel)) (fun _ _ _ _ _ => (pg_name (i := 10) sc_law_right.nd rfl (by first | exact Or.inl rfl | exact Or.inr rfl))) (fun _ _ _ _ _ => pdts_nil) (fun _ _ _ _ _ => (pd_bin od_mul pd_int (pd_var 10)))) pda_nil)) (pda_cons (pd_call takes0 (ok_is_shares T) (hr.mono (by decide)) T.m_is_shares T.F_is_shares.kp T.d_is_shares (pda_cons (pd_var 2) pda_nil)) pda_nil))))))
    (pds_cons (pd_ifS (PDW.pt (pdw_or (pdt_not (pdt_tru (pd_call takes0 (ok_law_same T) (hr.mono (by decide)) T.m_law_same T.F_law_same.kp T.d_law_same (pda_cons (pd_var 4) (pda_cons (pd_lst (pda_cons (pd_var 2) (pda_cons (pd_var 2) (pda_cons (pd_var 2) (pda_cons pd_bl pda_nil))))) pda_nil))))) (pdw_or1 (pdt_cmp (od_ne hr.units) (pd_blt (cd_repr rfl hr.units) T.b_repr (by decide +kernel) (pda_cons (pd_var 1) pda_nil)) (pd_var 3))))) (pds_one (pd_ret pd_bl)) pds_nil)
    (pds_cons (pd_ifS (pdt_not (pdt_tru (pd_call takes0 (ok_law_same T) (hr.mono (by decide)) T.m_law_same T.F_law_same.kp T.d_law_same (pda_cons (pd_lst (pda_cons (pd_call takes0 (ok_shares T) (hr.mono (by decide)) T.m_shares T.F_shares.kp T.d_shares (pda_cons (pd_rev (pd_var 1)) pda_nil)) (pda_cons (pd_callK0 takes0 (ok_is_shares T) (hr.mono (by decide)) T.m_is_shares T.F_is_shares.kp (kb_is_shares_0_told T) (pdk_cons (pd_var 2) pdk_nil)) pda_nil))) (pda_cons (pd_lst (pda_cons (pd_rev (pd_var 2)) (pda_cons pd_bl pda_nil))) pda_nil))))) (pds_one (pd_ret pd_bl)) pds_nil)
    (pds_cons (pd_set 5 sc_law_right.nd (pd_bin od_add pd_int (pd_call takes0 (ok_law_take T) (hr.mono (by decide)) T.m_law_take T.F_law_take.kp T.d_law_take (pda_cons (pd_var 0) (pda_cons (pd_bin od_pow pd_int pd_int) pda_nil)))))
    (pds_cons (pd_set 6 sc_law_right.nd (pd_call takes0 (ok_law_shares T) (hr.mono (by decide)) T.m_law_shares T.F_law_shares.kp T.d_law_shares (pda_cons (pd_lst (pda_cons pd_int (pda_cons pd_int (pda_cons pd_int pda_nil)))) pda_nil)))
    (pds_cons (pd_set 4 sc_law_right.nd (pd_lst (pda_cons (pd_call takes0 (ok_shares T) (hr.mono (by decide)) T.m_shares T.F_shares.kp T.d_shares (pda_cons (pd_lc (own := [("x", 10)]) (p := .n 10) rfl sc_law_right.nd (pdi_it (pd_var 1)) (blkOk_by (N := ["deck", "weights", "due", "kept", "found", "by", "third", "turn", "bent", "odd", "x"]) (sc := defScope s_law_right) (own := [("x", 10)]) (by decide +kernel)) (fun _ _ _ _ _ => (pg_name (i := 10) sc_law_right.nd rfl (by first | exact Or.inl rfl | exact Or.inr rfl))) (fun _ _ _ _ _ => pdts_nil) (fun _ _ _ _ _ => (pd_bin od_mul (pd_var 5) (pd_var 10)))) pda_nil)) (pda_cons (pd_call takes0 (ok_is_shares T) (hr.mono (by decide)) T.m_is_shares T.F_is_shares.kp T.d_is_shares (pda_cons (pd_var 6) pda_nil)) (pda_cons (pd_call takes0 (ok_shares T) (hr.mono (by decide)) T.m_shares T.F_shares.kp T.d_shares (pda_cons (pd_tup (pda_cons (pd_bin od_mul (pd_var 5) pd_int) (pda_cons (pd_bin od_mul (pd_var 5) pd_int) (pda_cons (pd_bin od_mul (pd_var 5) pd_int) pda_nil)))) pda_nil)) pda_nil)))))
    (pds_cons (pd_ifS (pdt_not (pdt_tru (pd_call takes0 (ok_law_same T) (hr.mono (by decide)) T.m_law_same T.F_law_same.kp T.d_law_same (pda_cons (pd_var 4) (pda_cons (pd_lst (pda_cons (pd_var 2) (pda_cons pd_bl (pda_cons (pd_var 6) pda_nil)))) pda_nil))))) (pds_one (pd_ret pd_bl)) pds_nil)
    (pds_cons (pd_for PassesOwn.never rfl (pdi_range1 T.b_range (pda_cons pd_int pda_nil)) (pdg_name 7 sc_law_right.nd) (pds_cons (pd_set 8 sc_law_right.nd (pd_call takes0 (ok_law_bent T) (hr.mono (by decide)) T.m_law_bent T.F_law_bent.kp T.d_law_bent (pda_cons (pd_var 0) (pda_cons (pd_var 2) pda_nil))))
    (pds_cons (pd_ifS (pdt_not (pdt_tru (pd_call takes0 (ok_law_same T) (hr.mono (by decide)) T.m_law_same T.F_law_same.kp T.d_law_same (pda_cons (pd_lst (pda_cons (pd_call takes0 (ok_is_shares T) (hr.mono (by decide)) T.m_is_shares T.F_is_shares.kp T.d_is_shares (pda_cons (pd_var 8) pda_nil)) (pda_cons (pd_callK0 takes0 (ok_is_shares T) (hr.mono (by decide)) T.m_is_shares T.F_is_shares.kp (kb_is_shares_0_told T) (pdk_cons (pd_var 8) pdk_nil)) pda_nil))) (pda_cons (pd_bin od_mul (pd_lst (pda_cons (pd_call takes0 (ok_law_is_shares T) (hr.mono (by decide)) T.m_law_is_shares T.F_law_is_shares.kp T.d_law_is_shares (pda_cons (pd_var 8) pda_nil)) pda_nil)) pd_int) pda_nil))))) (pds_one (pd_ret pd_bl)) pds_nil)
    (pds_cons (pd_set 9 sc_law_right.nd (pd_call takes0 (ok_law_odd T) (hr.mono (by decide)) T.m_law_odd T.F_law_odd.kp T.d_law_odd (pda_cons (pd_var 0) (pda_cons (pd_ix (pd_var 2) (pd_call takes0 (ok_law_take T) (hr.mono (by decide)) T.m_law_take T.F_law_take.kp T.d_law_take (pda_cons (pd_var 0) (pda_cons (pd_blt cd_len T.b_len (by decide +kernel) (pda_cons (pd_var 2) pda_nil)) pda_nil)))) pda_nil))))
    (pds_one (pd_ifS (pdt_not (pdt_tru (pd_call takes0 (ok_law_same T) (hr.mono (by decide)) T.m_law_same T.F_law_same.kp T.d_law_same (pda_cons (pd_lst (pda_cons (pd_call takes0 (ok_is_number T) (hr.mono (by decide)) T.m_is_number T.F_is_number.kp T.d_is_number (pda_cons (pd_var 9) pda_nil)) (pda_cons (pd_callK0 takes0 (ok_is_number T) (hr.mono (by decide)) T.m_is_number T.F_is_number.kp (kb_is_number_0_told T) (pdk_cons (pd_var 9) pdk_nil)) pda_nil))) (pda_cons (pd_bin od_mul (pd_lst (pda_cons (pd_call takes0 (ok_law_is_number T) (hr.mono (by decide)) T.m_law_is_number T.F_law_is_number.kp T.d_law_is_number (pda_cons (pd_var 9) pda_nil)) pda_nil)) pd_int) pda_nil))))) (pds_one (pd_ret pd_bl)) pds_nil))))))
    (pds_one (pd_ret pd_bl)))))))))))))), fun ds S Q h => ?_⟩)
  · obtain ⟨_, rfl, _⟩ := h
    rfl
  · obtain ⟨a, rfl, hd, h⟩ := h
    intro g
    walk_at "w"
    refine ⟨a, rfl, hd, ?_⟩
    rintro p ws S1 e1 hpa - hd1 x1 hWt
    have hW := hWt.wg
    walk_at "w"
    refine ⟨a, 5, rfl, hd1, by decide, by decide, ?_⟩
    rintro f0 S0 u0 u1 hd0 fr0
    have e0 : S0 p = some (.lst (ws.map D.int)) := by rw [fr0 p hpa]; exact e1
    walk_at "w"
    refine IFB.p (fun c1 => ?_) (fun c1 => ?_)
    · walk_at "w"
      refine ⟨_, .inl ⟨p, rfl, e0⟩, ?_⟩
      refine ⟨fun i acc S' => i ≤ ws.length ∧ (∃ us : List Int, acc = us.map D.int ∧ us.length = i ∧ ∀ u ∈ us, 0 < u ∧ u < 2 ^ 80) ∧ DeckD S' a ∧ ExtB a S0 S', ⟨Nat.zero_le _, ⟨[], rfl, rfl, fun _ z => by cases z⟩, hd0, ExtB.refl a S0⟩, ?_⟩
      rintro i acc S8 ⟨hi0, ⟨us, rfl, hus, hub⟩, hd8, x8⟩
      refine ⟨.inl ⟨p, rfl, x8 _ _ hpa e0⟩, fun x hx => ?_, fun hi v0 hv0 => ?_⟩
      · obtain ⟨m, hm, rfl⟩ := int_at hx
        have hm0 := hWt.2.2.1 m (List.mem_of_getElem? hm)
        have hm1 : m ≤ 60 := Int.le_trans (isum_mem hWt.2.2.1 m (List.mem_of_getElem? hm)) hWt.2.2.2
        have hi1 : i < ws.length := (List.getElem?_eq_some_iff.mp hm).1
        walk_at "w"
        refine IFB.t rfl ?_
        walk_at "w"
        refine ⟨by decide, ?_⟩
        walk_at "w"
        refine ⟨small_l (by omega) (by omega), ?_⟩
        walk_at "w"
        refine ⟨by decide, ?_⟩
        walk_at "w"
        refine ⟨a, _, rfl, hd8, by decide, by decide, ?_⟩
        rintro f S9 f0' f1' hd9 fr9
        have f2 : f < 10 ^ 20 := f1'
        walk_at "w"
        refine ⟨?_, hi1, ⟨us ++ [m * (10 ^ (20 : Int).toNat + 1) + f], by rw [List.map_append]; rfl, by rw [List.length_append, hus]; rfl, fun u hu => ?_⟩, hd9, x8.trans (ExtB.of fr9)⟩
        · rw [List.length_map, hus]
          have := hW.2.1
          show _ < 16777216
          omega
        · rcases List.mem_append.mp hu with hu | hu
          · exact hub u hu
          · cases List.mem_singleton.mp hu
            show 0 < m * (10 ^ 20 + 1) + f ∧ m * (10 ^ 20 + 1) + f < 2 ^ 80
            omega
      have hlen : us.length = ws.length := by rw [hus, hi, List.length_map]
      have hW' : WG us := ⟨fun z => by rw [z] at hlen; exact hW.1 (List.eq_nil_of_length_eq_zero hlen.symm), by rw [hlen]; exact hW.2.1, fun u hu => (hub u hu).1, fun u hu => (hub u hu).2⟩
      have hna := hd8.ne hv0
      have hd9 := hd8.sup (x := .lst (us.map D.int)) hna
      have e9 : DL.sup S8 v0 (.lst (us.map D.int)) v0 = some (.lst (us.map D.int)) := sup_same
      generalize DL.sup S8 v0 (.lst (us.map D.int)) = S9 at *
      clear e0 hd0 fr0 hW hWt
      have h6 := hW'.2.1
      have hsp := hW'.pos
      have hst : us.sum.natAbs < 2 ^ 1000 := lt_up hW'.top (by decide)
      walk_at "w"
      refine ⟨v0, us, rfl, e9, hW'.1, hW'.2.2.1, by omega, hsp, hst, ?_⟩
      walk_at "w"
      refine ⟨us, e9, hW'.1, hW'.log, hW'.text, ?_⟩
      have hlq : (dvs us.sum us).length ≤ 6 := by unfold dvs; rw [List.length_map]; exact h6
      have hl0 : 0 < (dvs us.sum us).length := by unfold dvs; rw [List.length_map]; exact List.length_pos_iff.mpr hW'.1
      have hrb := dvs_rb hW'
      have hsh := dvs_isSh hW'.1 hW'.2.2.1
      have hrev := dvs_rev us
      walk_at "w"
      refine ⟨_, us, rfl, .inl ⟨v0, rfl, e9⟩, hW'.1, hW'.2.2.1, by omega, hsp, hst, ?_⟩
      walk_at "w"
      refine ⟨_, .inl ⟨v0, rfl, e9⟩, ?_⟩
      walk_at "w"
      refine ⟨_, us, rfl, .inr rfl, hW'.1, hW'.2.2.1, by omega, hsp, hst, ?_⟩
      walk_at "w"
      refine ⟨_, .inl ⟨v0, rfl, e9⟩, ?_⟩
      refine lc_xsm (mulI (3)) (fun S' ex => .inl ⟨v0, rfl, ex _ _ e9⟩) ?_ ?_
      · rintro i x acc Sx hi wx
        obtain ⟨m, hm, rfl⟩ := int_at hi
        walk_at "w"
        refine IFB.t rfl ?_
        walk_at "w"
        refine ⟨small_l (by omega) (by omega), ?_⟩
        exact lc_leafL hi wx (by rw [List.length_map]; show _ ≤ 16777216; omega) rfl (Ext.refl _)
      rintro Sx v1 ex hv
      rw [mulI_D]
      walk_at "w"
      have y1 := ex.trans (Ext.new hv (.lst ((us.map (3 * ·)).map D.int)))
      have e1v : DL.sup Sx v1 (.lst ((us.map (3 * ·)).map D.int)) v1 = some (.lst ((us.map (3 * ·)).map D.int)) := sup_same
      have e1 := y1 _ _ e9
      have hd1 := hd9.ext y1
      generalize DL.sup Sx v1 (.lst ((us.map (3 * ·)).map D.int)) = S1 at *
      clear ex hv
      have hpos1 : ∀ w ∈ us.map (3 * ·), 0 < w := fun w hw => by
        obtain ⟨v, hv, rfl⟩ := List.mem_map.mp hw
        exact Int.mul_pos (by omega) (hW'.2.2.1 v hv)
      have hne1 : us.map (3 * ·) ≠ [] := fun z => hW'.1 (List.map_eq_nil_iff.mp z)
      have hs1 : 0 < (us.map (3 * ·)).sum := isum_pos hne1 hpos1
      have hs1' : (us.map (3 * ·)).sum.natAbs < 2 ^ 1000 := by
        rw [msum]
        exact nat_mul_lt (a := 64) (b := 90) (by omega) hW'.top (by decide)
      refine ⟨_, _, rfl, .inl ⟨v1, rfl, e1v⟩, hne1, hpos1, by rw [List.length_map]; omega, hs1, hs1', ?_⟩
      rw [dvs_mul (by omega) hW'.pos]
      generalize hqs : dvs us.sum us = qs at *
      walk_at "w"
      refine ⟨shD qs, rfl, dvs_odd hrb hlq, ?_⟩
      rw [hsh]
      walk_at "w"
      intro p2 hp2
      have hna2 := hd1.ne hp2
      generalize h_p2 : DL.sup S1 p2 _ = S2
      obtain ⟨e2v, y2, -⟩ := sup_of h_p2
      have y2 := y2 hp2
      have e2 := y2 _ _ e1
      have hd2 := hd1.ext y2
      clear h_p2
      walk_at "w"
      intro p3 hp3
      have hna3 := hd2.ne hp3
      generalize h_p3 : DL.sup S2 p3 _ = S3
      obtain ⟨e3v, y3, -⟩ := sup_of h_p3
      have y3 := y3 hp3
      have e3 := y3 _ _ e2
      have hd3 := hd2.ext y3
      clear h_p3
      walk_at "w"
      refine ⟨_, _, rfl, four_same (y3 _ _ e2v) e3v (sh_same (n := 1) (by omega)) (sh_same (n := 1) (by omega)) (sh_same (n := 1) (by omega)) rfl, ?_⟩
      walk_at "g"
      refine ⟨us, e3, hW'.1, hW'.log, hW'.text, ?_⟩
      walk_at "w"
      refine IFB.f (by simp) ?_
      walk_at "w"
      refine ⟨_, .inl ⟨v0, rfl, e3⟩, ?_⟩
      intro p4 hp4
      have hna4 := hd3.ne hp4
      generalize h_p4 : DL.sup S3 p4 _ = S4
      obtain ⟨e4v, y4, -⟩ := sup_of h_p4
      have y4 := y4 hp4
      have e4 := y4 _ _ e3
      have hd4 := hd3.ext y4
      clear h_p4
      rw [← List.map_reverse] at e4v
      walk_at "w"
      refine ⟨_, us.reverse, rfl, .inl ⟨p4, rfl, e4v⟩, fun z => hW'.1 (List.reverse_eq_nil_iff.mp z), fun w hw => hW'.2.2.1 w (List.mem_reverse.mp hw), by rw [List.length_reverse]; omega, by rw [sum_rev]; exact hsp, by rw [sum_rev]; exact hst, ?_⟩
      rw [hrev]
      walk_at "w"
      refine ⟨shD qs, rfl, dvs_odd hrb hlq, ?_⟩
      rw [hsh]
      walk_at "w"
      intro p5 hp5
      have hna5 := hd4.ne hp5
      generalize h_p5 : DL.sup S4 p5 _ = S5
      obtain ⟨e5v, y5, -⟩ := sup_of h_p5
      have y5 := y5 hp5
      have e5 := y5 _ _ e4
      have hd5 := hd4.ext y5
      clear h_p5
      walk_at "w"
      intro p6 hp6
      have hna6 := hd5.ne hp6
      generalize h_p6 : DL.sup S5 p6 _ = S6
      obtain ⟨e6v, y6, -⟩ := sup_of h_p6
      have y6 := y6 hp6
      have e6 := y6 _ _ e5
      have hd6 := hd5.ext y6
      clear h_p6
      rw [← List.map_reverse] at e6v
      walk_at "w"
      refine ⟨_, _, rfl, two_same (y6 _ _ e5v) e6v (sh_same (n := 1) (by rw [List.length_reverse]; omega)) rfl, ?_⟩
      walk_at "g"
      refine ⟨by decide, ?_⟩
      walk_at "w"
      refine ⟨a, _, rfl, hd6, by decide, by decide, ?_⟩
      rintro f S7 f0 f1 hd7 fr7
      have f1' : f < 10 ^ 9 := f1
      have e7 : S7 v0 = some (.lst (us.map D.int)) := by rw [fr7 v0 hna]; exact e6
      obtain ⟨by', hby, hb0, hb1⟩ : ∃ u : Int, 1 + f = u ∧ 0 < u ∧ u < 2 ^ 63 := ⟨_, rfl, by omega, by omega⟩
      walk_at "w"
      rw [hby]
      intro p8 hp8
      have hna8 := hd7.ne hp8
      generalize h_p8 : DL.sup S7 p8 _ = S8
      obtain ⟨e8v, y8, -⟩ := sup_of h_p8
      have y8 := y8 hp8
      have e8 := y8 _ _ e7
      have hd8 := hd7.ext y8
      clear h_p8
      walk_at "w"
      refine ⟨p8, w3, rfl, e8v, by decide, by decide, by decide, by decide, by decide, ?_⟩
      have hrb3 : ∀ q ∈ dvs w3.sum w3, RB 100 q := @dvs_rb w3 ⟨by decide, by decide, by decide, by decide⟩
      have hsh3 := @dvs_isSh w3 (by decide) (by decide)
      have hlq3 : (dvs w3.sum w3).length ≤ 6 := by decide
      have hm3 : dvs (w3.map (by' * ·)).sum (w3.map (by' * ·)) = dvs w3.sum w3 := dvs_mul hb0 (by decide)
      generalize dvs w3.sum w3 = q3 at *
      walk_at "w"
      refine ⟨_, .inl ⟨v0, rfl, e8⟩, ?_⟩
      refine lc_xsm (mulI (by')) (fun S' ex => .inl ⟨v0, rfl, ex _ _ e8⟩) ?_ ?_
      · rintro i x acc Sx hi wx
        obtain ⟨m, hm, rfl⟩ := int_at hi
        walk_at "w"
        refine IFB.t rfl ?_
        walk_at "w"
        refine ⟨small_l (by omega) (by omega), ?_⟩
        exact lc_leafL hi wx (by rw [List.length_map]; show _ ≤ 16777216; omega) rfl (Ext.refl _)
      rintro Sx v9 ex hv
      rw [mulI_D]
      walk_at "w"
      have y9 := ex.trans (Ext.new hv (.lst ((us.map (by' * ·)).map D.int)))
      have e99v : DL.sup Sx v9 (.lst ((us.map (by' * ·)).map D.int)) v9 = some (.lst ((us.map (by' * ·)).map D.int)) := sup_same
      have e99 := y9 _ _ e8
      have hd99 := hd8.ext y9
      generalize DL.sup Sx v9 (.lst ((us.map (by' * ·)).map D.int)) = S99 at *
      clear ex hv
      have hpos9 : ∀ w ∈ us.map (by' * ·), 0 < w := fun w hw => by
        obtain ⟨v, hv, rfl⟩ := List.mem_map.mp hw
        exact Int.mul_pos (by omega) (hW'.2.2.1 v hv)
      have hne99 : us.map (by' * ·) ≠ [] := fun z => hW'.1 (List.map_eq_nil_iff.mp z)
      have hs9 : 0 < (us.map (by' * ·)).sum := isum_pos hne99 hpos9
      have hs9' : (us.map (by' * ·)).sum.natAbs < 2 ^ 1000 := by
        rw [msum]
        exact nat_mul_lt (a := 64) (b := 90) (by omega) hW'.top (by decide)
      refine ⟨_, _, rfl, .inl ⟨v9, rfl, e99v⟩, hne99, hpos9, by rw [List.length_map]; omega, hs9, hs9', ?_⟩
      rw [dvs_mul (by omega) hW'.pos]
      rw [hqs]
      walk_at "w"
      refine ⟨shD q3, rfl, dvs_odd hrb3 hlq3, ?_⟩
      rw [hsh3]
      walk_at "w"
      refine ⟨small_l (by omega) (by omega), ?_⟩
      walk_at "w"
      refine ⟨small_l (by omega) (by omega), ?_⟩
      walk_at "w"
      refine ⟨small_l (by omega) (by omega), ?_⟩
      have p3' : ∀ w ∈ w3.map (by' * ·), 0 < w := fun w hw => by
        obtain ⟨v, hv, rfl⟩ := List.mem_map.mp hw
        exact Int.mul_pos hb0 ((by decide : ∀ v ∈ w3, 0 < v) v hv)
      have s3' : 0 < (w3.map (by' * ·)).sum := isum_pos (by simp [w3]) p3'
      have s4' : (w3.map (by' * ·)).sum.natAbs < 2 ^ 1000 := by
        rw [msum]
        exact nat_mul_lt (a := 64) (b := 6) (by omega) (by decide) (by decide)
      walk_at "w"
      refine ⟨_, w3.map (by' * ·), rfl, .inr rfl, by simp [w3], p3', by simp [w3], s3', s4', ?_⟩
      rw [hm3]
      walk_at "w"
      intro p10 hp10
      have hna10 := hd99.ne hp10
      generalize h_p10 : DL.sup S99 p10 _ = S10
      obtain ⟨e10v, y10, -⟩ := sup_of h_p10
      have y10 := y10 hp10
      have e10 := y10 _ _ e99
      have hd10 := hd99.ext y10
      clear h_p10
      walk_at "w"
      intro p11 hp11
      have hna11 := hd10.ne hp11
      generalize h_p11 : DL.sup S10 p11 _ = S11
      obtain ⟨e11v, y11, -⟩ := sup_of h_p11
      have y11 := y11 hp11
      have e11 := y11 _ _ e10
      have hd11 := hd10.ext y11
      clear h_p11
      walk_at "w"
      refine ⟨_, _, rfl, three_same (y11 _ _ e10v) e11v (sh_same (n := 1) (by omega)) rfl (sh_same (n := 1) (by omega)), ?_⟩
      walk_at "g"
      refine ⟨⟨by decide, by decide⟩, for_rg (fun i ρ' S' => DeckD S' a ∧ ∃ o7 o8 o9 o10, ρ' = [some (.ref a), some (.ref v0), some (shD qs), some (.str (repL g v0 us)), some (.ref p10), some (.int by'), some (shD q3), o7, o8, o9, o10]) ⟨hd11, _, _, _, _, rfl⟩ ?_ ?_⟩
      · rintro i _ S20 hi ⟨hd20, o7, o8, o9, o10, rfl⟩
        walk_at "w"
        refine ⟨a, qs, rfl, hd20, hl0, hlq, hrb, ?_⟩
        rintro d S21 od hd21 -
        walk_at "w"
        refine ⟨d, rfl, od, ?_⟩
        walk_at "w"
        refine ⟨d, rfl, od, ?_⟩
        walk_at "w"
        intro q22 hq22
        generalize h_q22 : DL.sup S21 q22 _ = S22
        obtain ⟨z22v, z22, -⟩ := sup_of h_q22
        have z22 := z22 hq22
        have hd22 := hd21.ext z22
        clear h_q22
        walk_at "w"
        refine ⟨d, rfl, od.ext z22, ?_⟩
        walk_at "w"
        intro q23 hq23
        generalize h_q23 : DL.sup S22 q23 _ = S23
        obtain ⟨z23v, z23, -⟩ := sup_of h_q23
        have z23 := z23 hq23
        have hd23 := hd22.ext z23
        clear h_q23
        walk_at "w"
        refine ⟨_, z23v, ⟨by decide, by decide⟩, by show 1 * 2 ≤ 16777216; decide, ?_⟩
        intro q24 hq24
        generalize h_q24 : DL.sup S23 q24 _ = S24
        obtain ⟨z24v, z24, -⟩ := sup_of h_q24
        have z24 := z24 hq24
        have hd24 := hd23.ext z24
        clear h_q24
        walk_at "w"
        refine ⟨_, _, rfl, two_same (z24 _ _ (z23 _ _ z22v)) z24v rfl rfl, ?_⟩
        walk_at "g"
        refine ⟨a, ((qs.map fr).length : Int), rfl, hd24, by rw [List.length_map]; omega, by rw [List.length_map]; omega, ?_⟩
        rintro j0 S25 j1 j2 hd25 -
        obtain ⟨j, rfl⟩ := Int.eq_ofNat_of_zero_le j1
        have hj : j < qs.length := by rw [List.length_map] at j2; omega
        walk_at "w"
        refine ⟨fr qs[j], atI_nat (by rw [List.getElem?_map, List.getElem?_eq_getElem hj]; rfl), ?_⟩
        walk_at "w"
        refine ⟨a, qs[j], rfl, hd25, hrb _ (List.getElem_mem hj), ?_⟩
        rintro d2 S26 od2 hd26 -
        walk_at "w"
        refine ⟨d2, rfl, od2, ?_⟩
        walk_at "w"
        refine ⟨d2, rfl, od2, ?_⟩
        walk_at "w"
        intro q27 hq27
        generalize h_q27 : DL.sup S26 q27 _ = S27
        obtain ⟨z27v, z27, -⟩ := sup_of h_q27
        have z27 := z27 hq27
        have hd27 := hd26.ext z27
        clear h_q27
        walk_at "w"
        refine ⟨d2, rfl, od2.ext z27, ?_⟩
        walk_at "w"
        intro q28 hq28
        generalize h_q28 : DL.sup S27 q28 _ = S28
        obtain ⟨z28v, z28, -⟩ := sup_of h_q28
        have z28 := z28 hq28
        have hd28 := hd27.ext z28
        clear h_q28
        walk_at "w"
        refine ⟨_, z28v, ⟨by decide, by decide⟩, by show 1 * 2 ≤ 16777216; decide, ?_⟩
        intro q29 hq29
        generalize h_q29 : DL.sup S28 q29 _ = S29
        obtain ⟨z29v, z29, -⟩ := sup_of h_q29
        have z29 := z29 hq29
        have hd29 := hd28.ext z29
        clear h_q29
        walk_at "w"
        refine ⟨_, _, rfl, two_same (z29 _ _ (z28 _ _ z27v)) z29v rfl rfl, ?_⟩
        walk_at "g"
        exact ⟨hd29, _, _, _, _, rfl⟩
      · rintro _ S20 ⟨-, o7, o8, o9, o10, rfl⟩
        walk_at "w"
        exact h S20
    · skip
      have h6 := hW.2.1
      have hsp := hW.pos
      have hst : ws.sum.natAbs < 2 ^ 1000 := lt_up hW.top (by decide)
      walk_at "w"
      refine ⟨p, ws, rfl, e0, hW.1, hW.2.2.1, by omega, hsp, hst, ?_⟩
      walk_at "w"
      refine ⟨ws, e0, hW.1, hW.log, hW.text, ?_⟩
      have hlq : (dvs ws.sum ws).length ≤ 6 := by unfold dvs; rw [List.length_map]; exact h6
      have hl0 : 0 < (dvs ws.sum ws).length := by unfold dvs; rw [List.length_map]; exact List.length_pos_iff.mpr hW.1
      have hrb := dvs_rb hW
      have hsh := dvs_isSh hW.1 hW.2.2.1
      have hrev := dvs_rev ws
      walk_at "w"
      refine ⟨_, ws, rfl, .inl ⟨p, rfl, e0⟩, hW.1, hW.2.2.1, by omega, hsp, hst, ?_⟩
      walk_at "w"
      refine ⟨_, .inl ⟨p, rfl, e0⟩, ?_⟩
      walk_at "w"
      refine ⟨_, ws, rfl, .inr rfl, hW.1, hW.2.2.1, by omega, hsp, hst, ?_⟩
      walk_at "w"
      refine ⟨_, .inl ⟨p, rfl, e0⟩, ?_⟩
      refine lc_xsm (mulI (3)) (fun S' ex => .inl ⟨p, rfl, ex _ _ e0⟩) ?_ ?_
      · rintro i x acc Sx hi wx
        obtain ⟨m, hm, rfl⟩ := int_at hi
        walk_at "w"
        refine IFB.t rfl ?_
        walk_at "w"
        refine ⟨small_l (by omega) (by omega), ?_⟩
        exact lc_leafL hi wx (by rw [List.length_map]; show _ ≤ 16777216; omega) rfl (Ext.refl _)
      rintro Sx v1 ex hv
      rw [mulI_D]
      walk_at "w"
      have y1 := ex.trans (Ext.new hv (.lst ((ws.map (3 * ·)).map D.int)))
      have e1v : DL.sup Sx v1 (.lst ((ws.map (3 * ·)).map D.int)) v1 = some (.lst ((ws.map (3 * ·)).map D.int)) := sup_same
      have e1 := y1 _ _ e0
      have hd1 := hd0.ext y1
      generalize DL.sup Sx v1 (.lst ((ws.map (3 * ·)).map D.int)) = S1 at *
      clear ex hv
      have hpos1 : ∀ w ∈ ws.map (3 * ·), 0 < w := fun w hw => by
        obtain ⟨v, hv, rfl⟩ := List.mem_map.mp hw
        exact Int.mul_pos (by omega) (hW.2.2.1 v hv)
      have hne1 : ws.map (3 * ·) ≠ [] := fun z => hW.1 (List.map_eq_nil_iff.mp z)
      have hs1 : 0 < (ws.map (3 * ·)).sum := isum_pos hne1 hpos1
      have hs1' : (ws.map (3 * ·)).sum.natAbs < 2 ^ 1000 := by
        rw [msum]
        exact nat_mul_lt (a := 64) (b := 90) (by omega) hW.top (by decide)
      refine ⟨_, _, rfl, .inl ⟨v1, rfl, e1v⟩, hne1, hpos1, by rw [List.length_map]; omega, hs1, hs1', ?_⟩
      rw [dvs_mul (by omega) hW.pos]
      generalize hqs : dvs ws.sum ws = qs at *
      walk_at "w"
      refine ⟨shD qs, rfl, dvs_odd hrb hlq, ?_⟩
      rw [hsh]
      walk_at "w"
      intro p2 hp2
      have hna2 := hd1.ne hp2
      generalize h_p2 : DL.sup S1 p2 _ = S2
      obtain ⟨e2v, y2, -⟩ := sup_of h_p2
      have y2 := y2 hp2
      have e2 := y2 _ _ e1
      have hd2 := hd1.ext y2
      clear h_p2
      walk_at "w"
      intro p3 hp3
      have hna3 := hd2.ne hp3
      generalize h_p3 : DL.sup S2 p3 _ = S3
      obtain ⟨e3v, y3, -⟩ := sup_of h_p3
      have y3 := y3 hp3
      have e3 := y3 _ _ e2
      have hd3 := hd2.ext y3
      clear h_p3
      walk_at "w"
      refine ⟨_, _, rfl, four_same (y3 _ _ e2v) e3v (sh_same (n := 1) (by omega)) (sh_same (n := 1) (by omega)) (sh_same (n := 1) (by omega)) rfl, ?_⟩
      walk_at "g"
      refine ⟨ws, e3, hW.1, hW.log, hW.text, ?_⟩
      walk_at "w"
      refine IFB.f (by simp) ?_
      walk_at "w"
      refine ⟨_, .inl ⟨p, rfl, e3⟩, ?_⟩
      intro p4 hp4
      have hna4 := hd3.ne hp4
      generalize h_p4 : DL.sup S3 p4 _ = S4
      obtain ⟨e4v, y4, -⟩ := sup_of h_p4
      have y4 := y4 hp4
      have e4 := y4 _ _ e3
      have hd4 := hd3.ext y4
      clear h_p4
      rw [← List.map_reverse] at e4v
      walk_at "w"
      refine ⟨_, ws.reverse, rfl, .inl ⟨p4, rfl, e4v⟩, fun z => hW.1 (List.reverse_eq_nil_iff.mp z), fun w hw => hW.2.2.1 w (List.mem_reverse.mp hw), by rw [List.length_reverse]; omega, by rw [sum_rev]; exact hsp, by rw [sum_rev]; exact hst, ?_⟩
      rw [hrev]
      walk_at "w"
      refine ⟨shD qs, rfl, dvs_odd hrb hlq, ?_⟩
      rw [hsh]
      walk_at "w"
      intro p5 hp5
      have hna5 := hd4.ne hp5
      generalize h_p5 : DL.sup S4 p5 _ = S5
      obtain ⟨e5v, y5, -⟩ := sup_of h_p5
      have y5 := y5 hp5
      have e5 := y5 _ _ e4
      have hd5 := hd4.ext y5
      clear h_p5
      walk_at "w"
      intro p6 hp6
      have hna6 := hd5.ne hp6
      generalize h_p6 : DL.sup S5 p6 _ = S6
      obtain ⟨e6v, y6, -⟩ := sup_of h_p6
      have y6 := y6 hp6
      have e6 := y6 _ _ e5
      have hd6 := hd5.ext y6
      clear h_p6
      rw [← List.map_reverse] at e6v
      walk_at "w"
      refine ⟨_, _, rfl, two_same (y6 _ _ e5v) e6v (sh_same (n := 1) (by rw [List.length_reverse]; omega)) rfl, ?_⟩
      walk_at "g"
      refine ⟨by decide, ?_⟩
      walk_at "w"
      refine ⟨a, _, rfl, hd6, by decide, by decide, ?_⟩
      rintro f S7 f0 f1 hd7 fr7
      have f1' : f < 10 ^ 9 := f1
      have e7 : S7 p = some (.lst (ws.map D.int)) := by rw [fr7 p hpa]; exact e6
      obtain ⟨by', hby, hb0, hb1⟩ : ∃ u : Int, 1 + f = u ∧ 0 < u ∧ u < 2 ^ 63 := ⟨_, rfl, by omega, by omega⟩
      walk_at "w"
      rw [hby]
      intro p8 hp8
      have hna8 := hd7.ne hp8
      generalize h_p8 : DL.sup S7 p8 _ = S8
      obtain ⟨e8v, y8, -⟩ := sup_of h_p8
      have y8 := y8 hp8
      have e8 := y8 _ _ e7
      have hd8 := hd7.ext y8
      clear h_p8
      walk_at "w"
      refine ⟨p8, w3, rfl, e8v, by decide, by decide, by decide, by decide, by decide, ?_⟩
      have hrb3 : ∀ q ∈ dvs w3.sum w3, RB 100 q := @dvs_rb w3 ⟨by decide, by decide, by decide, by decide⟩
      have hsh3 := @dvs_isSh w3 (by decide) (by decide)
      have hlq3 : (dvs w3.sum w3).length ≤ 6 := by decide
      have hm3 : dvs (w3.map (by' * ·)).sum (w3.map (by' * ·)) = dvs w3.sum w3 := dvs_mul hb0 (by decide)
      generalize dvs w3.sum w3 = q3 at *
      walk_at "w"
      refine ⟨_, .inl ⟨p, rfl, e8⟩, ?_⟩
      refine lc_xsm (mulI (by')) (fun S' ex => .inl ⟨p, rfl, ex _ _ e8⟩) ?_ ?_
      · rintro i x acc Sx hi wx
        obtain ⟨m, hm, rfl⟩ := int_at hi
        walk_at "w"
        refine IFB.t rfl ?_
        walk_at "w"
        refine ⟨small_l (by omega) (by omega), ?_⟩
        exact lc_leafL hi wx (by rw [List.length_map]; show _ ≤ 16777216; omega) rfl (Ext.refl _)
      rintro Sx v9 ex hv
      rw [mulI_D]
      walk_at "w"
      have y9 := ex.trans (Ext.new hv (.lst ((ws.map (by' * ·)).map D.int)))
      have e9v : DL.sup Sx v9 (.lst ((ws.map (by' * ·)).map D.int)) v9 = some (.lst ((ws.map (by' * ·)).map D.int)) := sup_same
      have e9 := y9 _ _ e8
      have hd9 := hd8.ext y9
      generalize DL.sup Sx v9 (.lst ((ws.map (by' * ·)).map D.int)) = S9 at *
      clear ex hv
      have hpos9 : ∀ w ∈ ws.map (by' * ·), 0 < w := fun w hw => by
        obtain ⟨v, hv, rfl⟩ := List.mem_map.mp hw
        exact Int.mul_pos (by omega) (hW.2.2.1 v hv)
      have hne9 : ws.map (by' * ·) ≠ [] := fun z => hW.1 (List.map_eq_nil_iff.mp z)
      have hs9 : 0 < (ws.map (by' * ·)).sum := isum_pos hne9 hpos9
      have hs9' : (ws.map (by' * ·)).sum.natAbs < 2 ^ 1000 := by
        rw [msum]
        exact nat_mul_lt (a := 64) (b := 90) (by omega) hW.top (by decide)
      refine ⟨_, _, rfl, .inl ⟨v9, rfl, e9v⟩, hne9, hpos9, by rw [List.length_map]; omega, hs9, hs9', ?_⟩
      rw [dvs_mul (by omega) hW.pos]
      rw [hqs]
      walk_at "w"
      refine ⟨shD q3, rfl, dvs_odd hrb3 hlq3, ?_⟩
      rw [hsh3]
      walk_at "w"
      refine ⟨small_l (by omega) (by omega), ?_⟩
      walk_at "w"
      refine ⟨small_l (by omega) (by omega), ?_⟩
      walk_at "w"
      refine ⟨small_l (by omega) (by omega), ?_⟩
      have p3' : ∀ w ∈ w3.map (by' * ·), 0 < w := fun w hw => by
        obtain ⟨v, hv, rfl⟩ := List.mem_map.mp hw
        exact Int.mul_pos hb0 ((by decide : ∀ v ∈ w3, 0 < v) v hv)
      have s3' : 0 < (w3.map (by' * ·)).sum := isum_pos (by simp [w3]) p3'
      have s4' : (w3.map (by' * ·)).sum.natAbs < 2 ^ 1000 := by
        rw [msum]
        exact nat_mul_lt (a := 64) (b := 6) (by omega) (by decide) (by decide)
      walk_at "w"
      refine ⟨_, w3.map (by' * ·), rfl, .inr rfl, by simp [w3], p3', by simp [w3], s3', s4', ?_⟩
      rw [hm3]
      walk_at "w"
      intro p10 hp10
      have hna10 := hd9.ne hp10
      generalize h_p10 : DL.sup S9 p10 _ = S10
      obtain ⟨e10v, y10, -⟩ := sup_of h_p10
      have y10 := y10 hp10
      have e10 := y10 _ _ e9
      have hd10 := hd9.ext y10
      clear h_p10
      walk_at "w"
      intro p11 hp11
      have hna11 := hd10.ne hp11
      generalize h_p11 : DL.sup S10 p11 _ = S11
      obtain ⟨e11v, y11, -⟩ := sup_of h_p11
      have y11 := y11 hp11
      have e11 := y11 _ _ e10
      have hd11 := hd10.ext y11
      clear h_p11
      walk_at "w"
      refine ⟨_, _, rfl, three_same (y11 _ _ e10v) e11v (sh_same (n := 1) (by omega)) rfl (sh_same (n := 1) (by omega)), ?_⟩
      walk_at "g"
      refine ⟨⟨by decide, by decide⟩, for_rg (fun i ρ' S' => DeckD S' a ∧ ∃ o7 o8 o9 o10, ρ' = [some (.ref a), some (.ref p), some (shD qs), some (.str (repL g p ws)), some (.ref p10), some (.int by'), some (shD q3), o7, o8, o9, o10]) ⟨hd11, _, _, _, _, rfl⟩ ?_ ?_⟩
      · rintro i _ S20 hi ⟨hd20, o7, o8, o9, o10, rfl⟩
        walk_at "w"
        refine ⟨a, qs, rfl, hd20, hl0, hlq, hrb, ?_⟩
        rintro d S21 od hd21 -
        walk_at "w"
        refine ⟨d, rfl, od, ?_⟩
        walk_at "w"
        refine ⟨d, rfl, od, ?_⟩
        walk_at "w"
        intro q22 hq22
        generalize h_q22 : DL.sup S21 q22 _ = S22
        obtain ⟨z22v, z22, -⟩ := sup_of h_q22
        have z22 := z22 hq22
        have hd22 := hd21.ext z22
        clear h_q22
        walk_at "w"
        refine ⟨d, rfl, od.ext z22, ?_⟩
        walk_at "w"
        intro q23 hq23
        generalize h_q23 : DL.sup S22 q23 _ = S23
        obtain ⟨z23v, z23, -⟩ := sup_of h_q23
        have z23 := z23 hq23
        have hd23 := hd22.ext z23
        clear h_q23
        walk_at "w"
        refine ⟨_, z23v, ⟨by decide, by decide⟩, by show 1 * 2 ≤ 16777216; decide, ?_⟩
        intro q24 hq24
        generalize h_q24 : DL.sup S23 q24 _ = S24
        obtain ⟨z24v, z24, -⟩ := sup_of h_q24
        have z24 := z24 hq24
        have hd24 := hd23.ext z24
        clear h_q24
        walk_at "w"
        refine ⟨_, _, rfl, two_same (z24 _ _ (z23 _ _ z22v)) z24v rfl rfl, ?_⟩
        walk_at "g"
        refine ⟨a, ((qs.map fr).length : Int), rfl, hd24, by rw [List.length_map]; omega, by rw [List.length_map]; omega, ?_⟩
        rintro j0 S25 j1 j2 hd25 -
        obtain ⟨j, rfl⟩ := Int.eq_ofNat_of_zero_le j1
        have hj : j < qs.length := by rw [List.length_map] at j2; omega
        walk_at "w"
        refine ⟨fr qs[j], atI_nat (by rw [List.getElem?_map, List.getElem?_eq_getElem hj]; rfl), ?_⟩
        walk_at "w"
        refine ⟨a, qs[j], rfl, hd25, hrb _ (List.getElem_mem hj), ?_⟩
        rintro d2 S26 od2 hd26 -
        walk_at "w"
        refine ⟨d2, rfl, od2, ?_⟩
        walk_at "w"
        refine ⟨d2, rfl, od2, ?_⟩
        walk_at "w"
        intro q27 hq27
        generalize h_q27 : DL.sup S26 q27 _ = S27
        obtain ⟨z27v, z27, -⟩ := sup_of h_q27
        have z27 := z27 hq27
        have hd27 := hd26.ext z27
        clear h_q27
        walk_at "w"
        refine ⟨d2, rfl, od2.ext z27, ?_⟩
        walk_at "w"
        intro q28 hq28
        generalize h_q28 : DL.sup S27 q28 _ = S28
        obtain ⟨z28v, z28, -⟩ := sup_of h_q28
        have z28 := z28 hq28
        have hd28 := hd27.ext z28
        clear h_q28
        walk_at "w"
        refine ⟨_, z28v, ⟨by decide, by decide⟩, by show 1 * 2 ≤ 16777216; decide, ?_⟩
        intro q29 hq29
        generalize h_q29 : DL.sup S28 q29 _ = S29
        obtain ⟨z29v, z29, -⟩ := sup_of h_q29
        have z29 := z29 hq29
        have hd29 := hd28.ext z29
        clear h_q29
        walk_at "w"
        refine ⟨_, _, rfl, two_same (z29 _ _ (z28 _ _ z27v)) z29v rfl rfl, ?_⟩
        walk_at "g"
        exact ⟨hd29, _, _, _, _, rfl⟩
      · rintro _ S20 ⟨-, o7, o8, o9, o10, rfl⟩
        walk_at "w"
        exact h S20
def sp_law : DSp := fun ds S Q _ => ∃ xs : List Int, ds = [.fro (xs.map D.int)] ∧ xs.length ≤ 63 ∧ ∀ S', Q (.bl true) S'
theorem ok_law {P : Program} {w : World} {K : PySem.W.Frag} {mg : Str → Option Value} {base : Heap} (T : Txt K mg) : FnOk P w K mg base (L2.CX P w) 7 T.a_law T.fd_law ["script"] (toSp K sp_law) := by
  refine fnD T.F_law sc_law (fun ds S Q E h => ?_) (fun cdv A outer s H E RX hr => ⟨_, (pds_cons (pd_for (passes_of rfl) rfl (pdi_range1 T.b_range (pda_cons (pd_blt (cd_max2 rfl) T.b_max (by decide +kernel) (pda_cons pd_int (pda_cons (pd_blt (cd_min2 rfl) T.b_min (by decide +kernel) (pda_cons (pd_blt cd_len T.b_len (by decide +kernel) (pda_cons (pd_var 0) pda_nil)) (pda_cons pd_int pda_nil))) pda_nil))) pda_nil)) (pdg_name 1 sc_law.nd) (pds_one (pd_ifS (pdt_not (pdt_tru (pd_call (takes_of rfl rfl rfl rfl) (ok_law_right T) (hr.mono (by decide)) T.m_law_right T.F_law_right.kp T.d_law_right (pda_cons (pd_call (takes_of rfl rfl rfl rfl) (ok_law_deck T) (hr.mono (by decide)) T.m_law_deck T.F_law_deck.kp T.d_law_deck (pda_cons (pd_var 0) (pda_cons (pd_var 1) pda_nil))) pda_nil)))) (pds_one (pd_ret pd_bl)) pds_nil)))
    (pds_one (pd_ret pd_bl))), fun ds S Q h => ?_⟩)
  · obtain ⟨_, rfl, _⟩ := h
    rfl
  · obtain ⟨xs, rfl, hxs, h⟩ := h
    walk_at "w"
    refine ⟨_, .inr rfl, ?_⟩
    walk_at "w"
    generalize hn : (if (2 : Int) < _ then _ else (2 : Int)) = n
    have hn8 : n ≤ 63 := by rw [← hn]; rw [List.length_map]; split <;> split at * <;> omega
    have hn0 : 0 ≤ n := by rw [← hn]; split <;> omega
    clear hn
    refine ⟨⟨by omega, by omega⟩, for_rg (fun i ρ' S' => ∃ o, ρ' = [some (.fro (xs.map D.int)), o]) ⟨_, rfl⟩ ?_ ?_⟩
    · rintro i _ S1 hi ⟨o, rfl⟩
      walk_at "w"
      refine ⟨xs, 0 + (i : Int), rfl, by omega, by omega, ?_⟩
      rintro a S2 - hd -
      walk_at "w"
      refine ⟨a, rfl, hd, fun S3 => ?_⟩
      walk_at "g"
      exact ⟨_, rfl⟩
    · rintro _ S1 ⟨o, rfl⟩
      walk_at "w"
      exact h S1
end K01
set_option Elab.async false
set_option linter.all false
set_option maxRecDepth 100000
set_option maxHeartbeats 4000000
namespace K01
open PySem PySem.Spec PyProof.Rows L2 DL
local macro_rules | `(tactic| walk_at "w") => `(tactic| conv => whnf)
local macro_rules | `(tactic| walk_at "g") => `(tactic| ((conv => whnf); repeat' (first | (refine IFB.t ?_ ?_; rfl; conv => whnf) | (refine IFB.f ?_ ?_; rfl; conv => whnf))))
theorem end_law (ns : List Int) (h : ns.length ≤ 63) (S : Sto) : sp_law [.fro (ns.map D.int)] S (fun d _ => d = .bl true) (fun _ _ _ => False) := ⟨ns, rfl, h, fun _ => rfl⟩
theorem all_of {l : PySem.W.OpenLaw} {w : World} {K : PySem.W.Frag} {mg : Str → Option Value} {fa : Addr} (T : Txt K mg) (hfa : mg "law" = some (.ref fa)) :
    ∃ fd : FuncData, (∀ (s : Shared) (u : Value), BindsTo s fd ⟨[u], []⟩ [("script", u)]) ∧ ∀ base : Heap, K.In base → base.Ns mainGlobals mg → FnOk l.prog w K mg base (L2.CX l.prog w) 7 fa fd ["script"] (toSp K sp_law) := by
  have e := hfa.symm.trans T.m_law
  cases e
  exact ⟨T.fd_law, law_binds T.F_law fun _ _ _ _ _ _ _ => rfl, fun base _ _ => ok_law T⟩
theorem all_mk {l : PySem.W.OpenLaw} {w : World} {K : PySem.W.Frag} {h : Heap} {mg : Str → Option Value} {fa : Addr} (X : K.In h) (G : h.Ns mainGlobals mg) (hfa : mg "law" = some (.ref fa))
    {g0 : Addr} {od0 an0 : Option Addr} {sl0 : Array (Option Value)} {oc0 kV0 dc0 pm0 cd0 ct0 : Value}
    {g1 : Addr} {od1 an1 : Option Addr} {sl1 : Array (Option Value)} {oc1 kV1 dc1 pm1 cd1 ct1 : Value}
    {g2 : Addr} {od2 an2 : Option Addr} {sl2 : Array (Option Value)} {oc2 kV2 dc2 pm2 cd2 ct2 : Value}
    {g3 : Addr} {od3 an3 : Option Addr} {sl3 : Array (Option Value)} {oc3 kV3 dc3 pm3 cd3 ct3 : Value}
    {g4 : Addr} {od4 an4 : Option Addr} {sl4 : Array (Option Value)} {oc4 kV4 dc4 pm4 cd4 ct4 : Value}
    {g5 : Addr} {od5 an5 : Option Addr} {sl5 : Array (Option Value)} {oc5 kV5 dc5 pm5 cd5 ct5 : Value}
    {g6 : Addr} {od6 an6 : Option Addr} {sl6 : Array (Option Value)} {oc6 kV6 dc6 pm6 cd6 ct6 : Value}
    {g7 : Addr} {od7 an7 : Option Addr} {sl7 : Array (Option Value)} {oc7 kV7 dc7 pm7 cd7 ct7 : Value}
    {g8 : Addr} {od8 an8 : Option Addr} {sl8 : Array (Option Value)} {oc8 kV8 dc8 pm8 cd8 ct8 : Value}
    {g9 : Addr} {od9 an9 : Option Addr} {sl9 : Array (Option Value)} {oc9 kV9 dc9 pm9 cd9 ct9 : Value}
    {g10 : Addr} {od10 an10 : Option Addr} {sl10 : Array (Option Value)} {oc10 kV10 dc10 pm10 cd10 ct10 : Value}
    {g11 : Addr} {od11 an11 : Option Addr} {sl11 : Array (Option Value)} {oc11 kV11 dc11 pm11 cd11 ct11 : Value}
    {g12 : Addr} {od12 an12 : Option Addr} {sl12 : Array (Option Value)} {oc12 kV12 dc12 pm12 cd12 ct12 : Value}
    {g13 : Addr} {od13 an13 : Option Addr} {sl13 : Array (Option Value)} {oc13 kV13 dc13 pm13 cd13 ct13 : Value}
    {g14 : Addr} {od14 an14 : Option Addr} {sl14 : Array (Option Value)} {oc14 kV14 dc14 pm14 cd14 ct14 : Value}
    {g15 : Addr} {od15 an15 : Option Addr} {sl15 : Array (Option Value)} {oc15 kV15 dc15 pm15 cd15 ct15 : Value}
    {g16 : Addr} {od16 an16 : Option Addr} {sl16 : Array (Option Value)} {oc16 kV16 dc16 pm16 cd16 ct16 : Value}
    {g17 : Addr} {od17 an17 : Option Addr} {sl17 : Array (Option Value)} {oc17 kV17 dc17 pm17 cd17 ct17 : Value}
    {g18 : Addr} {od18 an18 : Option Addr} {sl18 : Array (Option Value)} {oc18 kV18 dc18 pm18 cd18 ct18 : Value}
    {g19 : Addr} {od19 an19 : Option Addr} {sl19 : Array (Option Value)} {oc19 kV19 dc19 pm19 cd19 ct19 : Value}
    {g20 : Addr} {od20 an20 : Option Addr} {sl20 : Array (Option Value)} {oc20 kV20 dc20 pm20 cd20 ct20 : Value}
    {g21 : Addr} {od21 an21 : Option Addr} {sl21 : Array (Option Value)} {oc21 kV21 dc21 pm21 cd21 ct21 : Value}
    {g22 : Addr} {od22 an22 : Option Addr} {sl22 : Array (Option Value)} {oc22 kV22 dc22 pm22 cd22 ct22 : Value}
    {g23 : Addr} {od23 an23 : Option Addr} {sl23 : Array (Option Value)} {oc23 kV23 dc23 pm23 cd23 ct23 : Value}
    {g24 : Addr} {od24 an24 : Option Addr} {sl24 : Array (Option Value)} {oc24 kV24 dc24 pm24 cd24 ct24 : Value}
    {g25 : Addr} {od25 an25 : Option Addr} {sl25 : Array (Option Value)} {oc25 kV25 dc25 pm25 cd25 ct25 : Value}
    {g26 : Addr} {od26 an26 : Option Addr} {sl26 : Array (Option Value)} {oc26 kV26 dc26 pm26 cd26 ct26 : Value}
    {zONE : Addr} {odONE : Option Addr} {nONE : Nat} {slONE : Array (Option Value)} {tONE0 : Tok} {tONE1 : Tok}
    {zZERO : Addr} {odZERO : Option Addr} {nZERO : Nat} {slZERO : Array (Option Value)} {tZERO0 : Tok} {tZERO1 : Tok}
    (a0 : PySem.W.nsIn K mainGlobals "is_integer" = some (some (.ref g0))) (l0 : K.lookup g0 = some ⟨oc0, od0, .func (PySem.W.fnOf "is_integer" "is_integer" (defArgs s_is_integer) (defBody s_is_integer) (defScope s_is_integer) .none kV0 dc0 pm0 an0 cd0 ct0), sl0⟩) (c0 : PySem.W.codeIn K cd0 "is_integer" = true) (k0 : PySem.W.keepIn K (.ref g0) = true)
    (a1 : PySem.W.nsIn K mainGlobals "is_pair" = some (some (.ref g1))) (l1 : K.lookup g1 = some ⟨oc1, od1, .func (PySem.W.fnOf "is_pair" "is_pair" (defArgs s_is_pair) (defBody s_is_pair) (defScope s_is_pair) .none kV1 dc1 pm1 an1 cd1 ct1), sl1⟩) (c1 : PySem.W.codeIn K cd1 "is_pair" = true) (k1 : PySem.W.keepIn K (.ref g1) = true)
    (a2 : PySem.W.nsIn K mainGlobals "is_row_or_list" = some (some (.ref g2))) (l2 : K.lookup g2 = some ⟨oc2, od2, .func (PySem.W.fnOf "is_row_or_list" "is_row_or_list" (defArgs s_is_row_or_list) (defBody s_is_row_or_list) (defScope s_is_row_or_list) .none kV2 dc2 pm2 an2 cd2 ct2), sl2⟩) (c2 : PySem.W.codeIn K cd2 "is_row_or_list" = true) (k2 : PySem.W.keepIn K (.ref g2) = true)
    (a3 : PySem.W.nsIn K mainGlobals "lowest" = some (some (.ref g3))) (l3 : K.lookup g3 = some ⟨oc3, od3, .func (PySem.W.fnOf "lowest" "lowest" (defArgs s_lowest) (defBody s_lowest) (defScope s_lowest) .none kV3 dc3 pm3 an3 cd3 ct3), sl3⟩) (c3 : PySem.W.codeIn K cd3 "lowest" = true) (k3 : PySem.W.keepIn K (.ref g3) = true)
    (a4 : PySem.W.nsIn K mainGlobals "is_number_of" = some (some (.ref g4))) (l4 : K.lookup g4 = some ⟨oc4, od4, .func (PySem.W.fnOf "is_number_of" "is_number_of" (defArgs s_is_number_of) (defBody s_is_number_of) (defScope s_is_number_of) .none kV4 dc4 pm4 an4 cd4 ct4), sl4⟩) (c4 : PySem.W.codeIn K cd4 "is_number_of" = true) (k4 : PySem.W.keepIn K (.ref g4) = true)
    (a5 : PySem.W.nsIn K mainGlobals "sum_of_two" = some (some (.ref g5))) (l5 : K.lookup g5 = some ⟨oc5, od5, .func (PySem.W.fnOf "sum_of_two" "sum_of_two" (defArgs s_sum_of_two) (defBody s_sum_of_two) (defScope s_sum_of_two) .none kV5 dc5 pm5 an5 cd5 ct5), sl5⟩) (c5 : PySem.W.codeIn K cd5 "sum_of_two" = true) (k5 : PySem.W.keepIn K (.ref g5) = true)
    (a6 : PySem.W.nsIn K mainGlobals "sum_of_all" = some (some (.ref g6))) (l6 : K.lookup g6 = some ⟨oc6, od6, .func (PySem.W.fnOf "sum_of_all" "sum_of_all" (defArgs s_sum_of_all) (defBody s_sum_of_all) (defScope s_sum_of_all) .none kV6 dc6 pm6 an6 cd6 ct6), sl6⟩) (c6 : PySem.W.codeIn K cd6 "sum_of_all" = true) (k6 : PySem.W.keepIn K (.ref g6) = true)
    (a7 : PySem.W.nsIn K mainGlobals "is_number" = some (some (.ref g7))) (l7 : K.lookup g7 = some ⟨oc7, od7, .func (PySem.W.fnOf "is_number" "is_number" (defArgs s_is_number) (defBody s_is_number) (defScope s_is_number) .none kV7 dc7 pm7 an7 cd7 ct7), sl7⟩) (c7 : PySem.W.codeIn K cd7 "is_number" = true) (k7 : PySem.W.keepIn K (.ref g7) = true)
    (a8 : PySem.W.nsIn K mainGlobals "is_shares_of" = some (some (.ref g8))) (l8 : K.lookup g8 = some ⟨oc8, od8, .func (PySem.W.fnOf "is_shares_of" "is_shares_of" (defArgs s_is_shares_of) (defBody s_is_shares_of) (defScope s_is_shares_of) .none kV8 dc8 pm8 an8 cd8 ct8), sl8⟩) (c8 : PySem.W.codeIn K cd8 "is_shares_of" = true) (k8 : PySem.W.keepIn K (.ref g8) = true)
    (a9 : PySem.W.nsIn K mainGlobals "is_shares" = some (some (.ref g9))) (l9 : K.lookup g9 = some ⟨oc9, od9, .func (PySem.W.fnOf "is_shares" "is_shares" (defArgs s_is_shares) (defBody s_is_shares) (defScope s_is_shares) .none kV9 dc9 pm9 an9 cd9 ct9), sl9⟩) (c9 : PySem.W.codeIn K cd9 "is_shares" = true) (k9 : PySem.W.keepIn K (.ref g9) = true)
    (a10 : PySem.W.nsIn K mainGlobals "are_weights" = some (some (.ref g10))) (l10 : K.lookup g10 = some ⟨oc10, od10, .func (PySem.W.fnOf "are_weights" "are_weights" (defArgs s_are_weights) (defBody s_are_weights) (defScope s_are_weights) .none kV10 dc10 pm10 an10 cd10 ct10), sl10⟩) (c10 : PySem.W.codeIn K cd10 "are_weights" = true) (k10 : PySem.W.keepIn K (.ref g10) = true)
    (a11 : PySem.W.nsIn K mainGlobals "shares_by" = some (some (.ref g11))) (l11 : K.lookup g11 = some ⟨oc11, od11, .func (PySem.W.fnOf "shares_by" "shares_by" (defArgs s_shares_by) (defBody s_shares_by) (defScope s_shares_by) .none kV11 dc11 pm11 an11 cd11 ct11), sl11⟩) (c11 : PySem.W.codeIn K cd11 "shares_by" = true) (k11 : PySem.W.keepIn K (.ref g11) = true)
    (a12 : PySem.W.nsIn K mainGlobals "shares" = some (some (.ref g12))) (l12 : K.lookup g12 = some ⟨oc12, od12, .func (PySem.W.fnOf "shares" "shares" (defArgs s_shares) (defBody s_shares) (defScope s_shares) .none kV12 dc12 pm12 an12 cd12 ct12), sl12⟩) (c12 : PySem.W.codeIn K cd12 "shares" = true) (k12 : PySem.W.keepIn K (.ref g12) = true)
    (a13 : PySem.W.nsIn K mainGlobals "_law_deck" = some (some (.ref g13))) (l13 : K.lookup g13 = some ⟨oc13, od13, .func (PySem.W.fnOf "_law_deck" "_law_deck" (defArgs s_law_deck) (defBody s_law_deck) (defScope s_law_deck) .none kV13 dc13 pm13 an13 cd13 ct13), sl13⟩) (c13 : PySem.W.codeIn K cd13 "_law_deck" = true) (k13 : PySem.W.keepIn K (.ref g13) = true)
    (a14 : PySem.W.nsIn K mainGlobals "_law_take" = some (some (.ref g14))) (l14 : K.lookup g14 = some ⟨oc14, od14, .func (PySem.W.fnOf "_law_take" "_law_take" (defArgs s_law_take) (defBody s_law_take) (defScope s_law_take) .none kV14 dc14 pm14 an14 cd14 ct14), sl14⟩) (c14 : PySem.W.codeIn K cd14 "_law_take" = true) (k14 : PySem.W.keepIn K (.ref g14) = true)
    (a15 : PySem.W.nsIn K mainGlobals "_law_gcd" = some (some (.ref g15))) (l15 : K.lookup g15 = some ⟨oc15, od15, .func (PySem.W.fnOf "_law_gcd" "_law_gcd" (defArgs s_law_gcd) (defBody s_law_gcd) (defScope s_law_gcd) .none kV15 dc15 pm15 an15 cd15 ct15), sl15⟩) (c15 : PySem.W.codeIn K cd15 "_law_gcd" = true) (k15 : PySem.W.keepIn K (.ref g15) = true)
    (a16 : PySem.W.nsIn K mainGlobals "_law_pair" = some (some (.ref g16))) (l16 : K.lookup g16 = some ⟨oc16, od16, .func (PySem.W.fnOf "_law_pair" "_law_pair" (defArgs s_law_pair) (defBody s_law_pair) (defScope s_law_pair) .none kV16 dc16 pm16 an16 cd16 ct16), sl16⟩) (c16 : PySem.W.codeIn K cd16 "_law_pair" = true) (k16 : PySem.W.keepIn K (.ref g16) = true)
    (a17 : PySem.W.nsIn K mainGlobals "_law_plus" = some (some (.ref g17))) (l17 : K.lookup g17 = some ⟨oc17, od17, .func (PySem.W.fnOf "_law_plus" "_law_plus" (defArgs s_law_plus) (defBody s_law_plus) (defScope s_law_plus) .none kV17 dc17 pm17 an17 cd17 ct17), sl17⟩) (c17 : PySem.W.codeIn K cd17 "_law_plus" = true) (k17 : PySem.W.keepIn K (.ref g17) = true)
    (a18 : PySem.W.nsIn K mainGlobals "_law_same" = some (some (.ref g18))) (l18 : K.lookup g18 = some ⟨oc18, od18, .func (PySem.W.fnOf "_law_same" "_law_same" (defArgs s_law_same) (defBody s_law_same) (defScope s_law_same) .none kV18 dc18 pm18 an18 cd18 ct18), sl18⟩) (c18 : PySem.W.codeIn K cd18 "_law_same" = true) (k18 : PySem.W.keepIn K (.ref g18) = true)
    (a19 : PySem.W.nsIn K mainGlobals "_law_weights" = some (some (.ref g19))) (l19 : K.lookup g19 = some ⟨oc19, od19, .func (PySem.W.fnOf "_law_weights" "_law_weights" (defArgs s_law_weights) (defBody s_law_weights) (defScope s_law_weights) .none kV19 dc19 pm19 an19 cd19 ct19), sl19⟩) (c19 : PySem.W.codeIn K cd19 "_law_weights" = true) (k19 : PySem.W.keepIn K (.ref g19) = true)
    (a20 : PySem.W.nsIn K mainGlobals "_law_shares" = some (some (.ref g20))) (l20 : K.lookup g20 = some ⟨oc20, od20, .func (PySem.W.fnOf "_law_shares" "_law_shares" (defArgs s_law_shares) (defBody s_law_shares) (defScope s_law_shares) .none kV20 dc20 pm20 an20 cd20 ct20), sl20⟩) (c20 : PySem.W.codeIn K cd20 "_law_shares" = true) (k20 : PySem.W.keepIn K (.ref g20) = true)
    (a21 : PySem.W.nsIn K mainGlobals "_law_odd" = some (some (.ref g21))) (l21 : K.lookup g21 = some ⟨oc21, od21, .func (PySem.W.fnOf "_law_odd" "_law_odd" (defArgs s_law_odd) (defBody s_law_odd) (defScope s_law_odd) .none kV21 dc21 pm21 an21 cd21 ct21), sl21⟩) (c21 : PySem.W.codeIn K cd21 "_law_odd" = true) (k21 : PySem.W.keepIn K (.ref g21) = true)
    (a22 : PySem.W.nsIn K mainGlobals "_law_is_number" = some (some (.ref g22))) (l22 : K.lookup g22 = some ⟨oc22, od22, .func (PySem.W.fnOf "_law_is_number" "_law_is_number" (defArgs s_law_is_number) (defBody s_law_is_number) (defScope s_law_is_number) .none kV22 dc22 pm22 an22 cd22 ct22), sl22⟩) (c22 : PySem.W.codeIn K cd22 "_law_is_number" = true) (k22 : PySem.W.keepIn K (.ref g22) = true)
    (a23 : PySem.W.nsIn K mainGlobals "_law_is_shares" = some (some (.ref g23))) (l23 : K.lookup g23 = some ⟨oc23, od23, .func (PySem.W.fnOf "_law_is_shares" "_law_is_shares" (defArgs s_law_is_shares) (defBody s_law_is_shares) (defScope s_law_is_shares) .none kV23 dc23 pm23 an23 cd23 ct23), sl23⟩) (c23 : PySem.W.codeIn K cd23 "_law_is_shares" = true) (k23 : PySem.W.keepIn K (.ref g23) = true)
    (a24 : PySem.W.nsIn K mainGlobals "_law_bent" = some (some (.ref g24))) (l24 : K.lookup g24 = some ⟨oc24, od24, .func (PySem.W.fnOf "_law_bent" "_law_bent" (defArgs s_law_bent) (defBody s_law_bent) (defScope s_law_bent) .none kV24 dc24 pm24 an24 cd24 ct24), sl24⟩) (c24 : PySem.W.codeIn K cd24 "_law_bent" = true) (k24 : PySem.W.keepIn K (.ref g24) = true)
    (a25 : PySem.W.nsIn K mainGlobals "_law_right" = some (some (.ref g25))) (l25 : K.lookup g25 = some ⟨oc25, od25, .func (PySem.W.fnOf "_law_right" "_law_right" (defArgs s_law_right) (defBody s_law_right) (defScope s_law_right) .none kV25 dc25 pm25 an25 cd25 ct25), sl25⟩) (c25 : PySem.W.codeIn K cd25 "_law_right" = true) (k25 : PySem.W.keepIn K (.ref g25) = true)
    (a26 : PySem.W.nsIn K mainGlobals "law" = some (some (.ref g26))) (l26 : K.lookup g26 = some ⟨oc26, od26, .func (PySem.W.fnOf "law" "law" (defArgs s_law) (defBody s_law) (defScope s_law) .none kV26 dc26 pm26 an26 cd26 ct26), sl26⟩) (c26 : PySem.W.codeIn K cd26 "law" = true) (k26 : PySem.W.keepIn K (.ref g26) = true)
    (z_abs : PySem.W.nsIn K mainGlobals "abs" = some none)
    (z_all : PySem.W.nsIn K mainGlobals "all" = some none)
    (z_bool : PySem.W.nsIn K mainGlobals "bool" = some none)
    (z_int : PySem.W.nsIn K mainGlobals "int" = some none)
    (z_isinstance : PySem.W.nsIn K mainGlobals "isinstance" = some none)
    (z_len : PySem.W.nsIn K mainGlobals "len" = some none)
    (z_list : PySem.W.nsIn K mainGlobals "list" = some none)
    (z_max : PySem.W.nsIn K mainGlobals "max" = some none)
    (z_min : PySem.W.nsIn K mainGlobals "min" = some none)
    (z_range : PySem.W.nsIn K mainGlobals "range" = some none)
    (z_repr : PySem.W.nsIn K mainGlobals "repr" = some none)
    (z_str : PySem.W.nsIn K mainGlobals "str" = some none)
    (z_sum : PySem.W.nsIn K mainGlobals "sum" = some none)
    (z_tuple : PySem.W.nsIn K mainGlobals "tuple" = some none)
    (yONE : PySem.W.nsIn K mainGlobals "ONE" = some (some (.ref zONE))) (xONE : K.lookup zONE = some ⟨.type "tuple", odONE, .seq #[.int 1 tONE0, .int 1 tONE1] nONE, slONE⟩)
    (yZERO : PySem.W.nsIn K mainGlobals "ZERO" = some (some (.ref zZERO))) (xZERO : K.lookup zZERO = some ⟨.type "tuple", odZERO, .seq #[.int 0 tZERO0, .int 1 tZERO1] nZERO, slZERO⟩)
    (i_gcd : PySem.W.nsIn K mainGlobals "gcd" = some (some (.builtin "math.gcd"))) :
    ∃ fd : FuncData, (∀ (s : Shared) (u : Value), BindsTo s fd ⟨[u], []⟩ [("script", u)]) ∧ ∀ base : Heap, K.In base → base.Ns mainGlobals mg → FnOk l.prog w K mg base (L2.CX l.prog w) 7 fa fd ["script"] (toSp K sp_law) := by
  exact all_of {
    a_is_integer := g0, fd_is_integer := _, m_is_integer := PySem.W.mg_of X G a0, F_is_integer := fun_mk (st := s_is_integer) l0 c0 k0, d_is_integer := (fun_mk (st := s_is_integer) l0 c0 k0).binds (ps := ["value"]) (fun _ _ _ _ _ _ us hl => match us, hl with | [_], _ => rfl),
    a_is_pair := g1, fd_is_pair := _, m_is_pair := PySem.W.mg_of X G a1, F_is_pair := fun_mk (st := s_is_pair) l1 c1 k1, d_is_pair := (fun_mk (st := s_is_pair) l1 c1 k1).binds (ps := ["value"]) (fun _ _ _ _ _ _ us hl => match us, hl with | [_], _ => rfl),
    a_is_row_or_list := g2, fd_is_row_or_list := _, m_is_row_or_list := PySem.W.mg_of X G a2, F_is_row_or_list := fun_mk (st := s_is_row_or_list) l2 c2 k2, d_is_row_or_list := (fun_mk (st := s_is_row_or_list) l2 c2 k2).binds (ps := ["value"]) (fun _ _ _ _ _ _ us hl => match us, hl with | [_], _ => rfl),
    a_lowest := g3, fd_lowest := _, m_lowest := PySem.W.mg_of X G a3, F_lowest := fun_mk (st := s_lowest) l3 c3 k3, d_lowest := (fun_mk (st := s_lowest) l3 c3 k3).binds (ps := ["top", "bottom"]) (fun _ _ _ _ _ _ us hl => match us, hl with | [_, _], _ => rfl),
    a_is_number_of := g4, fd_is_number_of := _, m_is_number_of := PySem.W.mg_of X G a4, F_is_number_of := fun_mk (st := s_is_number_of) l4 c4 k4, d_is_number_of := (fun_mk (st := s_is_number_of) l4 c4 k4).binds (ps := ["told"]) (fun _ _ _ _ _ _ us hl => match us, hl with | [_], _ => rfl),
    a_sum_of_two := g5, fd_sum_of_two := _, m_sum_of_two := PySem.W.mg_of X G a5, F_sum_of_two := fun_mk (st := s_sum_of_two) l5 c5 k5, d_sum_of_two := (fun_mk (st := s_sum_of_two) l5 c5 k5).binds (ps := ["a", "b"]) (fun _ _ _ _ _ _ us hl => match us, hl with | [_, _], _ => rfl),
    a_sum_of_all := g6, fd_sum_of_all := _, m_sum_of_all := PySem.W.mg_of X G a6, F_sum_of_all := fun_mk (st := s_sum_of_all) l6 c6 k6, d_sum_of_all := (fun_mk (st := s_sum_of_all) l6 c6 k6).binds (ps := ["numbers"]) (fun _ _ _ _ _ _ us hl => match us, hl with | [_], _ => rfl),
    a_is_number := g7, fd_is_number := _, m_is_number := PySem.W.mg_of X G a7, F_is_number := fun_mk (st := s_is_number) l7 c7 k7, d_is_number := (fun_mk (st := s_is_number) l7 c7 k7).binds (ps := ["told"]) (fun _ _ _ _ _ _ us hl => match us, hl with | [_], _ => rfl),
    a_is_shares_of := g8, fd_is_shares_of := _, m_is_shares_of := PySem.W.mg_of X G a8, F_is_shares_of := fun_mk (st := s_is_shares_of) l8 c8 k8, d_is_shares_of := (fun_mk (st := s_is_shares_of) l8 c8 k8).binds (ps := ["told"]) (fun _ _ _ _ _ _ us hl => match us, hl with | [_], _ => rfl),
    a_is_shares := g9, fd_is_shares := _, m_is_shares := PySem.W.mg_of X G a9, F_is_shares := fun_mk (st := s_is_shares) l9 c9 k9, d_is_shares := (fun_mk (st := s_is_shares) l9 c9 k9).binds (ps := ["told"]) (fun _ _ _ _ _ _ us hl => match us, hl with | [_], _ => rfl),
    a_are_weights := g10, fd_are_weights := _, m_are_weights := PySem.W.mg_of X G a10, F_are_weights := fun_mk (st := s_are_weights) l10 c10 k10, d_are_weights := (fun_mk (st := s_are_weights) l10 c10 k10).binds (ps := ["told"]) (fun _ _ _ _ _ _ us hl => match us, hl with | [_], _ => rfl),
    a_shares_by := g11, fd_shares_by := _, m_shares_by := PySem.W.mg_of X G a11, F_shares_by := fun_mk (st := s_shares_by) l11 c11 k11, d_shares_by := (fun_mk (st := s_shares_by) l11 c11 k11).binds (ps := ["weights"]) (fun _ _ _ _ _ _ us hl => match us, hl with | [_], _ => rfl),
    a_shares := g12, fd_shares := _, m_shares := PySem.W.mg_of X G a12, F_shares := fun_mk (st := s_shares) l12 c12 k12, d_shares := (fun_mk (st := s_shares) l12 c12 k12).binds (ps := ["weights"]) (fun _ _ _ _ _ _ us hl => match us, hl with | [_], _ => rfl),
    a_law_deck := g13, fd_law_deck := _, m_law_deck := PySem.W.mg_of X G a13, F_law_deck := fun_mk (st := s_law_deck) l13 c13 k13, d_law_deck := (fun_mk (st := s_law_deck) l13 c13 k13).binds (ps := ["script", "at"]) (fun _ _ _ _ _ _ us hl => match us, hl with | [_, _], _ => rfl),
    a_law_take := g14, fd_law_take := _, m_law_take := PySem.W.mg_of X G a14, F_law_take := fun_mk (st := s_law_take) l14 c14 k14, d_law_take := (fun_mk (st := s_law_take) l14 c14 k14).binds (ps := ["deck", "many"]) (fun _ _ _ _ _ _ us hl => match us, hl with | [_, _], _ => rfl),
    a_law_gcd := g15, fd_law_gcd := _, m_law_gcd := PySem.W.mg_of X G a15, F_law_gcd := fun_mk (st := s_law_gcd) l15 c15 k15, d_law_gcd := (fun_mk (st := s_law_gcd) l15 c15 k15).binds (ps := ["u", "v"]) (fun _ _ _ _ _ _ us hl => match us, hl with | [_, _], _ => rfl),
    a_law_pair := g16, fd_law_pair := _, m_law_pair := PySem.W.mg_of X G a16, F_law_pair := fun_mk (st := s_law_pair) l16 c16 k16, d_law_pair := (fun_mk (st := s_law_pair) l16 c16 k16).binds (ps := ["upper", "lower"]) (fun _ _ _ _ _ _ us hl => match us, hl with | [_, _], _ => rfl),
    a_law_plus := g17, fd_law_plus := _, m_law_plus := PySem.W.mg_of X G a17, F_law_plus := fun_mk (st := s_law_plus) l17 c17 k17, d_law_plus := (fun_mk (st := s_law_plus) l17 c17 k17).binds (ps := ["u", "v"]) (fun _ _ _ _ _ _ us hl => match us, hl with | [_, _], _ => rfl),
    a_law_same := g18, fd_law_same := _, m_law_same := PySem.W.mg_of X G a18, F_law_same := fun_mk (st := s_law_same) l18 c18 k18, d_law_same := (fun_mk (st := s_law_same) l18 c18 k18).binds (ps := ["found", "due"]) (fun _ _ _ _ _ _ us hl => match us, hl with | [_, _], _ => rfl),
    a_law_weights := g19, fd_law_weights := _, m_law_weights := PySem.W.mg_of X G a19, F_law_weights := fun_mk (st := s_law_weights) l19 c19 k19, d_law_weights := (fun_mk (st := s_law_weights) l19 c19 k19).binds (ps := ["deck", "most"]) (fun _ _ _ _ _ _ us hl => match us, hl with | [_, _], _ => rfl),
    a_law_shares := g20, fd_law_shares := _, m_law_shares := PySem.W.mg_of X G a20, F_law_shares := fun_mk (st := s_law_shares) l20 c20 k20, d_law_shares := (fun_mk (st := s_law_shares) l20 c20 k20).binds (ps := ["weights"]) (fun _ _ _ _ _ _ us hl => match us, hl with | [_], _ => rfl),
    a_law_odd := g21, fd_law_odd := _, m_law_odd := PySem.W.mg_of X G a21, F_law_odd := fun_mk (st := s_law_odd) l21 c21 k21, d_law_odd := (fun_mk (st := s_law_odd) l21 c21 k21).binds (ps := ["deck", "u"]) (fun _ _ _ _ _ _ us hl => match us, hl with | [_, _], _ => rfl),
    a_law_is_number := g22, fd_law_is_number := _, m_law_is_number := PySem.W.mg_of X G a22, F_law_is_number := fun_mk (st := s_law_is_number) l22 c22 k22, d_law_is_number := (fun_mk (st := s_law_is_number) l22 c22 k22).binds (ps := ["u"]) (fun _ _ _ _ _ _ us hl => match us, hl with | [_], _ => rfl),
    a_law_is_shares := g23, fd_law_is_shares := _, m_law_is_shares := PySem.W.mg_of X G a23, F_law_is_shares := fun_mk (st := s_law_is_shares) l23 c23 k23, d_law_is_shares := (fun_mk (st := s_law_is_shares) l23 c23 k23).binds (ps := ["told_one"]) (fun _ _ _ _ _ _ us hl => match us, hl with | [_], _ => rfl),
    a_law_bent := g24, fd_law_bent := _, m_law_bent := PySem.W.mg_of X G a24, F_law_bent := fun_mk (st := s_law_bent) l24 c24 k24, d_law_bent := (fun_mk (st := s_law_bent) l24 c24 k24).binds (ps := ["deck", "own"]) (fun _ _ _ _ _ _ us hl => match us, hl with | [_, _], _ => rfl),
    a_law_right := g25, fd_law_right := _, m_law_right := PySem.W.mg_of X G a25, F_law_right := fun_mk (st := s_law_right) l25 c25 k25, d_law_right := (fun_mk (st := s_law_right) l25 c25 k25).binds (ps := ["deck"]) (fun _ _ _ _ _ _ us hl => match us, hl with | [_], _ => rfl),
    a_law := g26, fd_law := _, m_law := PySem.W.mg_of X G a26, F_law := fun_mk (st := s_law) l26 c26 k26, d_law := (fun_mk (st := s_law) l26 c26 k26).binds (ps := ["script"]) (fun _ _ _ _ _ _ us hl => match us, hl with | [_], _ => rfl),
    b_abs := PySem.W.mg_none_of X G z_abs,
    b_all := PySem.W.mg_none_of X G z_all,
    b_bool := PySem.W.mg_none_of X G z_bool,
    b_int := PySem.W.mg_none_of X G z_int,
    b_isinstance := PySem.W.mg_none_of X G z_isinstance,
    b_len := PySem.W.mg_none_of X G z_len,
    b_list := PySem.W.mg_none_of X G z_list,
    b_max := PySem.W.mg_none_of X G z_max,
    b_min := PySem.W.mg_none_of X G z_min,
    b_range := PySem.W.mg_none_of X G z_range,
    b_repr := PySem.W.mg_none_of X G z_repr,
    b_str := PySem.W.mg_none_of X G z_str,
    b_sum := PySem.W.mg_none_of X G z_sum,
    b_tuple := PySem.W.mg_none_of X G z_tuple,
    z_ONE := zONE, m_ONE := PySem.W.mg_of X G yONE, v_ONE := const_tup2 xONE,
    z_ZERO := zZERO, m_ZERO := PySem.W.mg_of X G yZERO, v_ZERO := const_tup2 xZERO,
    i_gcd := PySem.W.mg_of X G i_gcd } hfa
theorem walk {l : PySem.W.OpenLaw} {q : Program} {loose : List Str} {XP : (Str → Option Value) → Heap → Prop} {YP : World → Heap → Prop} {d : DefRec} {K : Params → PySem.W.Frag} (hn : l.most = some 63) (hdf : d.params.defaults = [])
    (hY : ∀ (w : World) (h : Heap), YP w h → (K w.params).In h)
    (F : ∀ (w : World) (mg : Str → Option Value) (fa : Addr) (h : Heap), (K w.params).In h → h.Ns mainGlobals mg → mg d.name = some (.ref fa) →
      ∃ fd : FuncData, (∀ (s : Shared) (u : Value), BindsTo s fd ⟨[u], []⟩ [("script", u)]) ∧ ∀ base : Heap, (K w.params).In base → base.Ns mainGlobals mg → FnOk l.prog w (K w.params) mg base (L2.CX l.prog w) 7 fa fd ["script"] (toSp (K w.params) sp_law)) :
    PySem.W.WalkO q loose XP YP l.row.toRowW d [] (fun f vs => PySem.call f vs) :=
  L2.walk_of (n := 63) (k := 7) (x := "script") (CX := fun w => L2.CX l.prog w) (sp := fun w => toSp (K w.params) sp_law) hn (by decide) hdf ⟨rfl, by decide, by decide⟩ hY F (fun _ _ a ns hl hO hS => law_end hO hS (end_law ns hl)) fun w H s e s' => cx_end l.prog w H s e s'
end K01
open PySem PySem.W PyProof.Rows in
set_option maxRecDepth 100000 in
set_option maxHeartbeats 0 in
theorem PySem.Challenge.cw_wholeplays_k01_whole_shares_judged_and_m_holds : PySem.Challenge.rw_wholeplays_k01_whole_shares_judged_and_m.Holds := by
  w_on; o_law; k_head; (case hw => w_witness2)
  k_fill
  refine K01.walk (l := PySem.Challenge.rw_wholeplays_k01_whole_shares_judged_and_m) rfl rfl (fun w h Y => PySem.W.kIn_of Y) ?F
  case F =>
    intro w mg fa h KX G hmg
    refine' K01.all_mk KX G hmg ?a0 ?l0 ?c0 ?k0 ?a1 ?l1 ?c1 ?k1 ?a2 ?l2 ?c2 ?k2 ?a3 ?l3 ?c3 ?k3 ?a4 ?l4 ?c4 ?k4 ?a5 ?l5 ?c5 ?k5 ?a6 ?l6 ?c6 ?k6 ?a7 ?l7 ?c7 ?k7 ?a8 ?l8 ?c8 ?k8 ?a9 ?l9 ?c9 ?k9 ?a10 ?l10 ?c10 ?k10 ?a11 ?l11 ?c11 ?k11 ?a12 ?l12 ?c12 ?k12 ?a13 ?l13 ?c13 ?k13 ?a14 ?l14 ?c14 ?k14 ?a15 ?l15 ?c15 ?k15 ?a16 ?l16 ?c16 ?k16 ?a17 ?l17 ?c17 ?k17 ?a18 ?l18 ?c18 ?k18 ?a19 ?l19 ?c19 ?k19 ?a20 ?l20 ?c20 ?k20 ?a21 ?l21 ?c21 ?k21 ?a22 ?l22 ?c22 ?k22 ?a23 ?l23 ?c23 ?k23 ?a24 ?l24 ?c24 ?k24 ?a25 ?l25 ?c25 ?k25 ?a26 ?l26 ?c26 ?k26 ?z_abs ?z_all ?z_bool ?z_int ?z_isinstance ?z_len ?z_list ?z_max ?z_min ?z_range ?z_repr ?z_str ?z_sum ?z_tuple ?yONE ?xONE ?yZERO ?xZERO ?i_gcd
    (case a0 => k_is)
    (case l0 => k_is)
    (case c0 => k_is)
    (case k0 => k_is)
    (case a1 => k_is)
    (case l1 => k_is)
    (case c1 => k_is)
    (case k1 => k_is)
    (case a2 => k_is)
    (case l2 => k_is)
    (case c2 => k_is)
    (case k2 => k_is)
    (case a3 => k_is)
    (case l3 => k_is)
    (case c3 => k_is)
    (case k3 => k_is)
    (case a4 => k_is)
    (case l4 => k_is)
    (case c4 => k_is)
    (case k4 => k_is)
    (case a5 => k_is)
    (case l5 => k_is)
    (case c5 => k_is)
    (case k5 => k_is)
    (case a6 => k_is)
    (case l6 => k_is)
    (case c6 => k_is)
    (case k6 => k_is)
    (case a7 => k_is)
    (case l7 => k_is)
    (case c7 => k_is)
    (case k7 => k_is)
    (case a8 => k_is)
    (case l8 => k_is)
    (case c8 => k_is)
    (case k8 => k_is)
    (case a9 => k_is)
    (case l9 => k_is)
    (case c9 => k_is)
    (case k9 => k_is)
    (case a10 => k_is)
    (case l10 => k_is)
    (case c10 => k_is)
    (case k10 => k_is)
    (case a11 => k_is)
    (case l11 => k_is)
    (case c11 => k_is)
    (case k11 => k_is)
    (case a12 => k_is)
    (case l12 => k_is)
    (case c12 => k_is)
    (case k12 => k_is)
    (case a13 => k_is)
    (case l13 => k_is)
    (case c13 => k_is)
    (case k13 => k_is)
    (case a14 => k_is)
    (case l14 => k_is)
    (case c14 => k_is)
    (case k14 => k_is)
    (case a15 => k_is)
    (case l15 => k_is)
    (case c15 => k_is)
    (case k15 => k_is)
    (case a16 => k_is)
    (case l16 => k_is)
    (case c16 => k_is)
    (case k16 => k_is)
    (case a17 => k_is)
    (case l17 => k_is)
    (case c17 => k_is)
    (case k17 => k_is)
    (case a18 => k_is)
    (case l18 => k_is)
    (case c18 => k_is)
    (case k18 => k_is)
    (case a19 => k_is)
    (case l19 => k_is)
    (case c19 => k_is)
    (case k19 => k_is)
    (case a20 => k_is)
    (case l20 => k_is)
    (case c20 => k_is)
    (case k20 => k_is)
    (case a21 => k_is)
    (case l21 => k_is)
    (case c21 => k_is)
    (case k21 => k_is)
    (case a22 => k_is)
    (case l22 => k_is)
    (case c22 => k_is)
    (case k22 => k_is)
    (case a23 => k_is)
    (case l23 => k_is)
    (case c23 => k_is)
    (case k23 => k_is)
    (case a24 => k_is)
    (case l24 => k_is)
    (case c24 => k_is)
    (case k24 => k_is)
    (case a25 => k_is)
    (case l25 => k_is)
    (case c25 => k_is)
    (case k25 => k_is)
    (case a26 => k_is)
    (case l26 => k_is)
    (case c26 => k_is)
    (case k26 => k_is)
    (case z_abs => k_is)
    (case z_all => k_is)
    (case z_bool => k_is)
    (case z_int => k_is)
    (case z_isinstance => k_is)
    (case z_len => k_is)
    (case z_list => k_is)
    (case z_max => k_is)
    (case z_min => k_is)
    (case z_range => k_is)
    (case z_repr => k_is)
    (case z_str => k_is)
    (case z_sum => k_is)
    (case z_tuple => k_is)
    (case yONE => k_is)
    (case xONE => k_is)
    (case yZERO => k_is)
    (case xZERO => k_is)
    (case i_gcd => k_is)
