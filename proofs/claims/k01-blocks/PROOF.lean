import PyProof.Rows.All
import Wide.All
import OpenK.AllK
import Wide.FinOn
import HandS.ForMost
import HandS.ForExc
import HandS.IsInst
import HandS.Flow
import HandS.Walk
import HandS.CallSlots
import HandS.TupMul
import HandS.TupAny
import HandS.Wide
import HandS.Deep
import HandS.SortInts
import HandS.More
import HandS.Iter
import PySem.Challenge.RW_nevermoved_k01_blocks
set_option Elab.async false
set_option linter.all false
set_option maxRecDepth 100000
set_option maxHeartbeats 4000000

namespace PL
open PySem PySem.Spec PyProof.Rows L2

/-! ### values, the store -/
inductive PV where
  | non | bl (b : Bool) | int (i : Int) | str (x : Str) | tup (xs : List PV) | frl (xs : List PV) | loc (a : Addr)
inductive MO where
  | lst (xs : List PV)
  | dic (kvs : List (Key × PV))
abbrev Store := Addr → Option MO
def sup (S : Store) (a : Addr) (o : MO) : Store := fun b => if b = a then some o else S b
theorem sup_same {S : Store} {a : Addr} {o : MO} : sup S a o a = some o := by unfold sup; rw [if_pos rfl]
theorem sup_ne {S : Store} {a b : Addr} {o : MO} (h : b ≠ a) : sup S a o b = S b := by unfold sup; rw [if_neg h]
/-- a part of a store -/
def Sub (S S' : Store) : Prop := ∀ a o, S a = some o → S' a = some o
theorem Sub.refl (S : Store) : Sub S S := fun _ _ h => h
theorem Sub.trans {S S1 S2 : Store} (a : Sub S S1) (b : Sub S1 S2) : Sub S S2 := fun c o h => b c o (a c o h)
theorem Sub.free {S S' : Store} (h : Sub S S') {a : Addr} (n : S' a = none) : S a = none := by
  cases e : S a with
  | none => rfl
  | some o => rw [h a o e] at n; cases n
theorem Sub.new {S S' : Store} (h : Sub S S') {a : Addr} {o : MO} (n : S a = none) : Sub S (sup S' a o) := fun b u e => by
  have hb : b ≠ a := fun z => by rw [z, n] at e; cases e
  rw [sup_ne hb]; exact h b u e

def FzL (K : PySem.W.Frag) (H : Hp) (a : Addr) (xs : List V) : Prop := (∃ o, H a = some (.frz o (.lst xs))) ∨
  (∃ (o : Obj) (its : Array Value) (n : Nat), K.lookup a = some o ∧ o.cls = .type "list" ∧ o.dict = none ∧ o.data = .seq its n ∧ its.size ≤ sizeLine ∧ Vals xs its.toList)
theorem FzL.sq {K : PySem.W.Frag} {H : Hp} {a : Addr} {xs : List V} (h : FzL K H a xs) : SqL K H a xs := by
  rcases h with ⟨o, h⟩ | h
  · exact .inl (.inr ⟨o, h⟩)
  · exact .inr h

mutual
inductive RepV (K : PySem.W.Frag) (H : Hp) : PV → V → Prop
  | non : RepV K H .non .non
  | bl (b : Bool) : RepV K H (.bl b) (.bl b)
  | int (i : Int) : RepV K H (.int i) (.int i)
  | str (x : Str) : RepV K H (.str x) (.str x)
  | loc (a : Addr) : RepV K H (.loc a) (.ref a)
  | tup {a : Addr} {xs : List V} {ps : List PV} : SqT K H a xs → RepVs K H ps xs → RepV K H (.tup ps) (.ref a)
  | frl {a : Addr} {xs : List V} {ps : List PV} : FzL K H a xs → RepVs K H ps xs → RepV K H (.frl ps) (.ref a)
inductive RepVs (K : PySem.W.Frag) (H : Hp) : List PV → List V → Prop
  | nil : RepVs K H [] []
  | cons {p : PV} {v : V} {ps : List PV} {vs : List V} : RepV K H p v → RepVs K H ps vs → RepVs K H (p :: ps) (v :: vs)
end

def Keeps (K : PySem.W.Frag) (H H' : Hp) : Prop := (∀ a xs, SqT K H a xs → SqT K H' a xs) ∧ ∀ a xs, FzL K H a xs → FzL K H' a xs
section
variable {K : PySem.W.Frag} {H H' : Hp}
mutual
theorem RepV.keep (k : Keeps K H H') : ∀ (p : PV) (v : V), RepV K H p v → RepV K H' p v
  | .non, _, h => by cases h; exact .non
  | .bl b, _, h => by cases h; exact .bl b
  | .int b, _, h => by cases h; exact .int b
  | .str b, _, h => by cases h; exact .str b
  | .loc b, _, h => by cases h; exact .loc b
  | .tup ps, _, h => by
    cases h with
    | tup h1 h2 => exact .tup (k.1 _ _ h1) (RepVs.keep k ps _ h2)
  | .frl ps, _, h => by
    cases h with
    | frl h1 h2 => exact .frl (k.2 _ _ h1) (RepVs.keep k ps _ h2)
theorem RepVs.keep (k : Keeps K H H') : ∀ (ps : List PV) (vs : List V), RepVs K H ps vs → RepVs K H' ps vs
  | [], _, h => by cases h; exact .nil
  | p :: ps, _, h => by
    cases h with
    | cons h1 h2 => exact .cons (RepV.keep k p _ h1) (RepVs.keep k ps _ h2)
end
theorem RepVs.length : ∀ {ps : List PV} {vs : List V}, RepVs K H ps vs → ps.length = vs.length
  | [], _, h => by cases h; rfl
  | p :: ps, _, h => by
    cases h with
    | cons h1 h2 => simp only [List.length_cons]; rw [RepVs.length h2]
theorem RepVs.get : ∀ {ps : List PV} {vs : List V} {i : Nat} {v : V}, RepVs K H ps vs → vs[i]? = some v → ∃ p, ps[i]? = some p ∧ RepV K H p v
  | [], _, i, v, h, e => by cases h; simp at e
  | p :: ps, _, 0, v, h, e => by
    cases h with
    | cons h1 h2 => simp at e; subst e; exact ⟨p, by simp, h1⟩
  | p :: ps, _, i + 1, v, h, e => by
    cases h with
    | cons h1 h2 =>
      obtain ⟨q, e1, e2⟩ := RepVs.get (i := i) h2 (by simpa using e)
      exact ⟨q, by simpa using e1, e2⟩
theorem RepVs.at : ∀ {ps : List PV} {vs : List V} {i : Nat} {p : PV}, RepVs K H ps vs → ps[i]? = some p → ∃ v, vs[i]? = some v ∧ RepV K H p v
  | [], _, i, v, h, e => by simp at e
  | p :: ps, _, 0, v, h, e => by
    cases h with
    | cons h1 h2 => simp at e; subst e; exact ⟨_, by simp, h1⟩
  | p :: ps, _, i + 1, v, h, e => by
    cases h with
    | cons h1 h2 =>
      obtain ⟨q, e1, e2⟩ := RepVs.at (i := i) h2 (by simpa using e)
      exact ⟨q, by simpa using e1, e2⟩
theorem RepVs.app : ∀ {ps qs : List PV} {vs ws : List V}, RepVs K H ps vs → RepVs K H qs ws → RepVs K H (ps ++ qs) (vs ++ ws)
  | [], _, _, _, h, g => by cases h; exact g
  | p :: ps, _, _, _, h, g => by
    cases h with
    | cons h1 h2 => exact .cons h1 (RepVs.app h2 g)
theorem RepVs.one {p : PV} {v : V} (h : RepV K H p v) : RepVs K H [p] [v] := .cons h .nil
theorem RepVs.take : ∀ {ps : List PV} {vs : List V} (n : Nat), RepVs K H ps vs → RepVs K H (ps.take n) (vs.take n)
  | _, _, 0, _ => .nil
  | [], _, n + 1, h => by cases h; exact .nil
  | p :: ps, _, n + 1, h => by
    cases h with
    | cons h1 h2 => exact .cons h1 (RepVs.take n h2)
theorem RepVs.drop : ∀ {ps : List PV} {vs : List V} (n : Nat), RepVs K H ps vs → RepVs K H (ps.drop n) (vs.drop n)
  | _, _, 0, h => h
  | [], _, n + 1, h => by cases h; exact .nil
  | p :: ps, _, n + 1, h => by
    cases h with
    | cons h1 h2 => exact RepVs.drop n h2
theorem RepVs.set : ∀ {ps : List PV} {vs : List V} {p : PV} {v : V} (n : Nat), RepVs K H ps vs → RepV K H p v → RepVs K H (ps.set n p) (vs.set n v)
  | [], _, _, _, n, h, g => by cases h; exact .nil
  | p :: ps, _, _, _, 0, h, g => by
    cases h with
    | cons h1 h2 => exact .cons g h2
  | p :: ps, _, _, _, n + 1, h, g => by
    cases h with
    | cons h1 h2 => exact .cons h1 (RepVs.set n h2 g)
theorem RepVs.dropLast : ∀ {ps : List PV} {vs : List V}, RepVs K H ps vs → RepVs K H ps.dropLast vs.dropLast
  | [], _, h => by cases h; exact .nil
  | [p], _, h => by
    cases h with
    | cons h1 h2 => cases h2; exact .nil
  | p :: q :: ps, _, h => by
    cases h with
    | cons h1 h2 =>
      cases h2 with
      | cons h3 h4 => exact .cons h1 (RepVs.dropLast (.cons h3 h4))
theorem RepVs.rep {ps : List PV} {vs : List V} (h : RepVs K H ps vs) : ∀ k : Nat, RepVs K H (List.replicate k ps).flatten (List.replicate k vs).flatten
  | 0 => .nil
  | k + 1 => by
    rw [List.replicate_succ, List.replicate_succ, List.flatten_cons, List.flatten_cons]
    exact h.app (RepVs.rep h k)
theorem RepVs.ints : ∀ (ns : List Int), RepVs K H (ns.map PV.int) (ns.map V.int)
  | [] => .nil
  | n :: ns => .cons (.int n) (RepVs.ints ns)
theorem RepVs.of_ints : ∀ {ns : List Int} {vs : List V}, RepVs K H (ns.map PV.int) vs → vs = ns.map V.int
  | [], _, h => by cases h; rfl
  | n :: ns, _, h => by
    cases h with
    | cons h1 h2 => cases h1; rw [RepVs.of_ints h2]; rfl
theorem RepVs.nil_inv {vs : List V} (h : RepVs K H [] vs) : vs = [] := by cases h; rfl
theorem RepVs.cons_inv {p : PV} {ps : List PV} {vs : List V} (h : RepVs K H (p :: ps) vs) : ∃ v r, vs = v :: r ∧ RepV K H p v ∧ RepVs K H ps r := by
  cases h with
  | cons h1 h2 => exact ⟨_, _, rfl, h1, h2⟩
end

def MOk (K : PySem.W.Frag) (H : Hp) (a : Addr) : MO → Prop
  | .lst ps => ∃ xs, H a = some (.lst xs) ∧ RepVs K H ps xs
  | .dic kvs => ∃ ys : List (Key × V), H a = some (.dK ys) ∧ kvs.map (·.1) = ys.map (·.1) ∧ RepVs K H (kvs.map (·.2)) (ys.map (·.2))
def StOk (K : PySem.W.Frag) (H : Hp) (S : Store) : Prop := ∀ a o, S a = some o → MOk K H a o
structure Step (K : PySem.W.Frag) (H : Hp) (S : Store) (H' : Hp) (S' : Store) : Prop where
  fr : ∀ a o, H a = some o → S a = none → H' a = some o
  ks : ∀ a, H a ≠ none → H' a ≠ none
  nw : ∀ a, S' a ≠ none → S a ≠ none ∨ H a = none
  ok : StOk K H' S'

section
variable {K : PySem.W.Frag} {H H1 H2 H' : Hp} {S S1 S2 S' : Store}
theorem Step.refl (ok : StOk K H S) : Step K H S H S := ⟨fun _ _ h _ => h, fun _ h => h, fun _ h => .inl h, ok⟩
theorem Step.trans (a : Step K H S H1 S1) (b : Step K H1 S1 H2 S2) : Step K H S H2 S2 := by
  refine ⟨fun c o h n => ?_, fun c h => b.ks c (a.ks c h), fun c h => ?_, b.ok⟩
  · refine b.fr c o (a.fr c o h n) ?_
    cases e : S1 c with
    | none => rfl
    | some u =>
      rcases a.nw c (by rw [e]; simp) with z | z
      · exact absurd n z
      · rw [h] at z; cases z
  · rcases b.nw c h with z | z
    · exact a.nw c z
    · refine .inr ?_
      cases e : H c with
      | none => rfl
      | some u => exact absurd z (a.ks c (by rw [e]; simp))
/-- less is known -/
theorem Step.less (a : Step K H S H1 S1) (s : Sub S2 S1) : Step K H S H1 S2 :=
  ⟨a.fr, a.ks, fun c h => a.nw c (by
    cases e : S2 c with
    | none => exact absurd e h
    | some o => rw [s c o e]; simp), fun c o e => a.ok c o (s c o e)⟩
theorem StOk.notT (ok : StOk K H S) {a : Addr} {xs : List V} (e : H a = some (.tup xs)) : S a = none := by
  cases q : S a with
  | none => rfl
  | some o =>
    have z := ok a o q
    cases o with
    | lst ps => obtain ⟨ys, h, _⟩ := z; rw [e] at h; cases h
    | dic ps => obtain ⟨ys, h, _⟩ := z; rw [e] at h; cases h
theorem StOk.notF (ok : StOk K H S) {a : Addr} {o : Obj} {u : HO} (e : H a = some (.frz o u)) : S a = none := by
  cases q : S a with
  | none => rfl
  | some o =>
    have z := ok a o q
    cases o with
    | lst ps => obtain ⟨ys, h, _⟩ := z; rw [e] at h; cases h
    | dic ps => obtain ⟨ys, h, _⟩ := z; rw [e] at h; cases h
theorem Step.keeps (ok : StOk K H S) (st : Step K H S H' S') : Keeps K H H' := by
  refine ⟨fun a xs h => ?_, fun a xs h => ?_⟩
  · rcases h with (h | ⟨o, h⟩) | h
    · exact .inl (.inl (st.fr a _ h (ok.notT h)))
    · exact .inl (.inr ⟨o, st.fr a _ h (ok.notF h)⟩)
    · exact .inr h
  · rcases h with ⟨o, h⟩ | h
    · exact .inl ⟨o, st.fr a _ h (ok.notF h)⟩
    · exact .inr h
theorem StOk.free (ok : StOk K H S) {p : Addr} (n : H p = none) : S p = none := by
  cases q : S p with
  | none => rfl
  | some o =>
    have z := ok p o q
    cases o with
    | lst ps => obtain ⟨ys, h, _⟩ := z; rw [n] at h; cases h
    | dic ps => obtain ⟨ys, h, _⟩ := z; rw [n] at h; cases h
theorem keeps_new {p : Addr} {o : HO} (n : H p = none) : Keeps K H (upd H p o) := by
  refine ⟨fun a xs h => ?_, fun a xs h => ?_⟩
  · rcases h with (h | ⟨o, h⟩) | h
    · exact .inl (.inl (by rw [upd_ne (ne_of_none h n)]; exact h))
    · exact .inl (.inr ⟨o, by rw [upd_ne (ne_of_none h n)]; exact h⟩)
    · exact .inr h
  · rcases h with ⟨o, h⟩ | h
    · exact .inl ⟨o, by rw [upd_ne (ne_of_none h n)]; exact h⟩
    · exact .inr h
/-- what may be written is no tuple, nothing frozen -/
def Wr : HO → Prop
  | .lst _ => True
  | .dK _ => True
  | _ => False
theorem keeps_put {p : Addr} {o u : HO} (e : H p = some u) (w : Wr u) : Keeps K H (upd H p o) := by
  have nt : ∀ {a : Addr} {xs : List V}, H a = some (.tup xs) → a ≠ p := fun h z => by
    rw [z, e] at h; cases h; exact w
  have nf : ∀ {a : Addr} {ob : Obj} {v : HO}, H a = some (.frz ob v) → a ≠ p := fun h z => by
    rw [z, e] at h; cases h; exact w
  refine ⟨fun a xs h => ?_, fun a xs h => ?_⟩
  · rcases h with (h | ⟨o, h⟩) | h
    · exact .inl (.inl (by rw [upd_ne (nt h)]; exact h))
    · exact .inl (.inr ⟨o, by rw [upd_ne (nf h)]; exact h⟩)
    · exact .inr h
  · rcases h with ⟨o, h⟩ | h
    · exact .inl ⟨o, by rw [upd_ne (nf h)]; exact h⟩
    · exact .inr h
theorem MOk.keep {a : Addr} {o : MO} (k : Keeps K H H') (e : H' a = H a) (h : MOk K H a o) : MOk K H' a o := by
  cases o with
  | lst ps =>
    obtain ⟨xs, h1, h2⟩ := h
    exact ⟨xs, e.trans h1, h2.keep k⟩
  | dic kvs =>
    obtain ⟨xs, h1, h2, h3⟩ := h
    exact ⟨xs, e.trans h1, h2, h3.keep k⟩
/-- a new object that nobody sees in the store (a tuple) -/
theorem Step.hid {p : Addr} {o : HO} (ok : StOk K H S) (n : H p = none) : Step K H S (upd H p o) S := by
  refine ⟨fun a u h _ => by rw [upd_ne (ne_of_none h n)]; exact h, fun a h => ?_, fun _ h => .inl h, fun a u h => ?_⟩
  · by_cases z : a = p
    · subst z; rw [upd_same]; simp
    · rw [upd_ne z]; exact h
  · have z : a ≠ p := fun z => by rw [z, ok.free n] at h; cases h
    exact (ok a u h).keep (keeps_new n) (by rw [upd_ne z])
/-- a new object of the store -/
theorem Step.add {p : Addr} {o : HO} {m : MO} (ok : StOk K H S) (n : H p = none) (new : MOk K (upd H p o) p m) : Step K H S (upd H p o) (sup S p m) := by
  have st := Step.hid (o := o) ok n
  refine ⟨st.fr, st.ks, fun a h => ?_, fun a u h => ?_⟩
  · by_cases z : a = p
    · subst z; exact .inr n
    · rw [sup_ne z] at h; exact .inl h
  · by_cases z : a = p
    · subst z; rw [sup_same] at h; cases h; exact new
    · rw [sup_ne z] at h; exact st.ok a u h
/-- an object of the store is changed -/
theorem Step.put {p : Addr} {o u : HO} {m m0 : MO} (ok : StOk K H S) (e0 : S p = some m0) (e : H p = some u) (w : Wr u) (new : MOk K (upd H p o) p m) : Step K H S (upd H p o) (sup S p m) := by
  refine ⟨fun a u h n => ?_, fun a h => ?_, fun a h => ?_, fun a v h => ?_⟩
  · have z : a ≠ p := fun z => by rw [z, e0] at n; cases n
    rw [upd_ne z]; exact h
  · by_cases z : a = p
    · subst z; rw [upd_same]; simp
    · rw [upd_ne z]; exact h
  · by_cases z : a = p
    · subst z; rw [e0]; simp
    · rw [sup_ne z] at h; exact .inl h
  · by_cases z : a = p
    · subst z; rw [sup_same] at h; cases h; exact new
    · rw [sup_ne z] at h
      exact (ok a v h).keep (keeps_put e w) (by rw [upd_ne z])
end

abbrev Kt := PV → Store → Prop
def Post (K : PySem.W.Frag) (H : Hp) (S : Store) (k : Kt) (Q : VK) : Prop := ∀ p S' v H', Step K H S H' S' → RepV K H' p v → k p S' → Q v H'
theorem Post.step {K : PySem.W.Frag} {H H1 : Hp} {S S1 : Store} {k : Kt} {Q : VK} (h : Post K H S k Q) (st : Step K H S H1 S1) : Post K H1 S1 k Q := fun p S' v H' s r q => h p S' v H' (st.trans s) r q

/-! ### operators on values -/
abbrev Op2 := PV → PV → Store → Kt → Prop
def lift2 (K : PySem.W.Frag) (r : Op2) : R2 := fun x y H Q => ∃ p q S k, RepV K H p x ∧ RepV K H q y ∧ StOk K H S ∧ r p q S k ∧ Post K H S k Q

def addS : Op2
  | .int i, .int j, S, k => k (.int (i + j)) S
  | .int i, .bl b, S, k => k (.int (i + b2i b)) S
  | .str i, .str j, S, k => i.length + j.length ≤ sizeLine ∧ k (.str (i ++ j)) S
  | .tup i, .tup j, S, k => i.length + j.length ≤ sizeLine ∧ k (.tup (i ++ j)) S
  | .loc a, .loc b, S, k => ∃ i j, S a = some (.lst i) ∧ S b = some (.lst j) ∧ i.length + j.length ≤ sizeLine ∧ ∀ p, S p = none → k (.loc p) (sup S p (.lst (i ++ j)))
  | _, _, _, _ => False
def subS : Op2
  | .int i, .int j, S, k => k (.int (i - j)) S
  | _, _, _, _ => False
def mulOk (i j : Int) : Prop := CMul i j ∨ (i.natAbs < 2 ^ 9000 ∧ j.natAbs < 2 ^ 9000)
def repOk (n : Nat) (j : Int) : Prop := n ≠ 0 ∧ 2 ≤ j ∧ j ≤ 1000 ∧ n ≤ 1000
def mulS : Op2
  | .int i, .int j, S, k => mulOk i j ∧ k (.int (i * j)) S
  | .tup xs, .int j, S, k => repOk xs.length j ∧ k (.tup (List.replicate j.toNat xs).flatten) S
  | .loc a, .int j, S, k => ∃ xs, S a = some (.lst xs) ∧ -(2 ^ 63) ≤ j ∧ j < 2 ^ 63 ∧ xs.length * j.toNat ≤ sizeLine ∧ ∀ p, S p = none → k (.loc p) (sup S p (.lst (List.replicate j.toNat xs).flatten))
  | _, _, _, _ => False
def divS : Op2
  | .int i, .int j, S, k => (0 < j ∧ j < 2 ^ 9000) ∧ k (.int (i / j)) S
  | _, _, _, _ => False
def modS : Op2
  | .int i, .int j, S, k => 0 < j ∧ k (.int (i % j)) S
  | _, _, _, _ => False
def powS : Op2
  | .int i, .int j, S, k => CPow i j ∧ k (.int (i ^ j.toNat)) S
  | _, _, _, _ => False
def shlS : Op2
  | .int i, .int j, S, k => CPow i j ∧ k (.int (i * 2 ^ j.toNat)) S
  | _, _, _, _ => False
def shrS : Op2
  | .int i, .int j, S, k => 0 ≤ j ∧ k (.int (i / 2 ^ j.toNat)) S
  | _, _, _, _ => False

/-- == -/
def scalP : PV → PV → Bool
  | .non, .non => true | .non, .int _ => true | .int _, .non => true | .non, .bl _ => true | .bl _, .non => true | .non, .str _ => true | .str _, .non => true
  | .int _, .int _ => true | .bl _, .bl _ => true | .str _, .str _ => true
  | .int _, .str _ => true | .str _, .int _ => true | .bl _, .str _ => true | .str _, .bl _ => true
  | _, _ => false
def eqScal : PV → PV → Bool
  | .non, .non => true
  | .int i, .int j => decide (i = j)
  | .bl i, .bl j => decide (i = j)
  | .str i, .str j => decide (i = j)
  | _, _ => false
mutual
/-- a value without parts in the store, as data -/
def pyD : PV → PyData
  | .non => .none
  | .bl b => .bool b
  | .int i => .int i
  | .str x => .str x
  | .tup xs => .tuple (pyDs xs)
  | .frl xs => .list (pyDs xs)
  | .loc _ => .none
def pyDs : List PV → List PyData
  | [] => []
  | p :: ps => pyD p :: pyDs ps
end
mutual
def clean : PV → Bool
  | .loc _ => false
  | .tup xs => cleans xs
  | .frl xs => cleans xs
  | _ => true
def cleans : List PV → Bool
  | [] => true
  | p :: ps => clean p && cleans ps
end
def dataOk (p : PV) : Bool := clean p && SeqAt.shaped (pyD p)
def eqP (p q : PV) : Bool := PyData.eqv (pyD p) (pyD q)
def eqS : Op2 := fun p q S k =>
  (scalP p q = true ∧ k (.bl (eqScal p q)) S) ∨ (dataOk p = true ∧ dataOk q = true ∧ k (.bl (eqP p q)) S)
def neS : Op2 := fun p q S k =>
  (scalP p q = true ∧ k (.bl (!eqScal p q)) S) ∨ (dataOk p = true ∧ dataOk q = true ∧ k (.bl (!eqP p q)) S)
def ltS : Op2
  | .int i, .int j, S, k => k (.bl (decide (i < j))) S
  | .str i, .str j, S, k => k (.bl (decide (i.cps.toList < j.cps.toList))) S
  | _, _, _, _ => False
def leS : Op2
  | .int i, .int j, S, k => k (.bl (decide (i ≤ j))) S
  | _, _, _, _ => False
def gtS : Op2
  | .int i, .int j, S, k => k (.bl (decide (j < i))) S
  | _, _, _, _ => False
def geS : Op2
  | .int i, .int j, S, k => k (.bl (decide (j ≤ i))) S
  | _, _, _, _ => False
def isNon : PV → Bool
  | .non => true
  | _ => false
def flatP : PV → Bool
  | .non => true
  | .bl _ => true
  | .int _ => true
  | .str _ => true
  | _ => false
def eqF : PV → PV → Bool
  | .non, .non => true
  | .bl a, .bl b => a == b
  | .bl a, .int b => (if a then 1 else 0) == b
  | .int a, .bl b => a == (if b then 1 else 0)
  | .int a, .int b => a == b
  | .str a, .str b => a == b
  | _, _ => false
def inF (x : PV) (xs : List PV) : Bool := xs.any fun y => eqF y x
def strIn (i j : Str) : Bool := !(Builtin.Str.occurrences j i 0 j.length 1).isEmpty
def keyOf : PV → Option Key
  | .int i => some (.inl i)
  | .str x => some (.inr x)
  | _ => none
def lookK (kvs : List (Key × PV)) (k : Key) : Option PV := (kvs.find? fun kv => decide (kv.1 = k)).map (·.2)
def putKP (kvs : List (Key × PV)) (k : Key) (v : PV) : List (Key × PV) :=
  if kvs.any (fun kv => decide (kv.1 = k)) then kvs.map fun kv => if kv.1 = k then (kv.1, v) else kv else kvs ++ [(k, v)]
def inS (neg : Bool) : Op2 := fun x y S k => match y with
  | .str j => match x with
    | .str i => k (.bl (if neg then !strIn i j else strIn i j)) S
    | _ => False
  | .tup xs => flatP x = true ∧ xs.all flatP = true ∧ k (.bl (if neg then !inF x xs else inF x xs)) S
  | .frl xs => flatP x = true ∧ xs.all flatP = true ∧ k (.bl (if neg then !inF x xs else inF x xs)) S
  | .loc a => (∃ xs, S a = some (.lst xs) ∧ flatP x = true ∧ xs.all flatP = true ∧ k (.bl (if neg then !inF x xs else inF x xs)) S) ∨
      (∃ kvs kk, S a = some (.dic kvs) ∧ keyOf x = some kk ∧ k (.bl (if neg then !(lookK kvs kk).isSome else (lookK kvs kk).isSome)) S)
  | _ => False
end PL
namespace PL
open PySem PySem.Spec PyProof.Rows L2

section
variable {K : PySem.W.Frag} {H : Hp} {S : Store} {k : Kt} {Q : VK}
/-- the same state, a value without parts -/
theorem Post.here (h : Post K H S k Q) (ok : StOk K H S) {p : PV} {v : V} (r : RepV K H p v) (q : k p S) : Q v H := h p S v H (Step.refl ok) r q
/-- a new tuple -/
theorem Post.tup (h : Post K H S k Q) (ok : StOk K H S) {ps : List PV} {xs : List V} (r : RepVs K H ps xs) (q : k (.tup ps) S) : ∀ p, H p = none → Q (.ref p) (upd H p (.tup xs)) := fun p n =>
  h (.tup ps) S _ _ (Step.hid ok n) (.tup (.inl (.inl upd_same)) (r.keep (keeps_new n))) q
theorem new_lst {p : Addr} {ps : List PV} {xs : List V} (n : H p = none) (r : RepVs K H ps xs) : MOk K (upd H p (.lst xs)) p (.lst ps) := ⟨xs, upd_same, r.keep (keeps_new n)⟩
/-- a new list -/
theorem Post.lst (h : Post K H S k Q) (ok : StOk K H S) {ps : List PV} {xs : List V} (r : RepVs K H ps xs) (q : ∀ p, S p = none → k (.loc p) (sup S p (.lst ps))) : ∀ p, H p = none → Q (.ref p) (upd H p (.lst xs)) := fun p n =>
  h (.loc p) _ _ _ (Step.add ok n (new_lst n r)) (.loc p) (q p (ok.free n))
/-- a list is written -/
theorem Step.setl (ok : StOk K H S) {p : Addr} {ps qs : List PV} {xs ys : List V} (e : S p = some (.lst ps)) (eh : H p = some (.lst xs)) (r : RepVs K H qs ys) : Step K H S (upd H p (.lst ys)) (sup S p (.lst qs)) :=
  Step.put ok e eh True.intro ⟨ys, upd_same, r.keep (keeps_put eh True.intro)⟩
theorem StOk.lst (ok : StOk K H S) {p : Addr} {ps : List PV} (e : S p = some (.lst ps)) : ∃ xs, H p = some (.lst xs) ∧ RepVs K H ps xs := ok p _ e
theorem StOk.dic (ok : StOk K H S) {p : Addr} {kvs : List (Key × PV)} (e : S p = some (.dic kvs)) : ∃ ys : List (Key × V), H p = some (.dK ys) ∧ kvs.map (·.1) = ys.map (·.1) ∧ RepVs K H (kvs.map (·.2)) (ys.map (·.2)) := ok p _ e
end

/-! ### data -/
section
variable {K : PySem.W.Frag} {H : Hp}
mutual
theorem dp_of : ∀ (p : PV) (v : V), RepV K H p v → clean p = true → Dp K H v (pyD p)
  | .non, _, h, _ => by cases h; exact .non
  | .bl b, _, h, _ => by cases h; exact .bl b
  | .int b, _, h, _ => by cases h; exact .int b
  | .str b, _, h, _ => by cases h; exact .str b
  | .loc b, _, h, c => by simp [clean] at c
  | .tup ps, _, h, c => by
    cases h with
    | tup h1 h2 => exact .tup h1 (dps_of ps _ h2 (by simpa [clean] using c))
  | .frl ps, _, h, c => by
    cases h with
    | frl h1 h2 => exact .lst h1.sq (dps_of ps _ h2 (by simpa [clean] using c))
theorem dps_of : ∀ (ps : List PV) (vs : List V), RepVs K H ps vs → cleans ps = true → DpAll K H vs (pyDs ps)
  | [], _, h, _ => by cases h; exact .nil
  | p :: ps, _, h, c => by
    cases h with
    | cons h1 h2 =>
      simp only [cleans, Bool.and_eq_true] at c
      exact .cons (dp_of p _ h1 c.1) (dps_of ps _ h2 c.2)
end
theorem scal_of {p q : PV} {x y : V} (hp : RepV K H p x) (hq : RepV K H q y) (s : scalP p q = true) : scal x y = true ∧ eqScal p q = decide (x = y) := by
  cases hp <;> cases hq <;> first
    | (simp [scalP] at s; done)
    | (refine ⟨rfl, ?_⟩; simp [eqScal])
theorem flat_of {p : PV} {x : V} (hp : RepV K H p x) (s : flatP p = true) : flatV x = true := by
  cases hp <;> first | rfl | (simp [flatP] at s; done)
theorem flats_of : ∀ {ps : List PV} {xs : List V}, RepVs K H ps xs → ps.all flatP = true → xs.all flatV = true
  | [], _, h, _ => by cases h; rfl
  | p :: ps, _, h, f => by
    cases h with
    | cons h1 h2 =>
      rw [List.all_cons, Bool.and_eq_true] at f ⊢
      exact ⟨flat_of h1 f.1, flats_of h2 f.2⟩
theorem eqF_of {p q : PV} {x y : V} (hp : RepV K H p x) (hq : RepV K H q y) (s : flatP p = true) (t : flatP q = true) : eqF p q = eqV x y := by
  cases hp <;> cases hq <;> first
    | rfl
    | (simp [flatP] at s; done)
    | (simp [flatP] at t; done)
theorem inF_of {p : PV} {x : V} (hp : RepV K H p x) (s : flatP p = true) : ∀ {ps : List PV} {xs : List V}, RepVs K H ps xs → ps.all flatP = true → inF p ps = inV x xs
  | [], _, h, _ => by cases h; rfl
  | q :: ps, _, h, f => by
    cases h with
    | cons h1 h2 =>
      rw [List.all_cons, Bool.and_eq_true] at f
      unfold inF inV
      rw [List.any_cons, List.any_cons, eqF_of h1 hp f.1 s]
      congr 1
      exact inF_of hp s h2 f.2
theorem key_rep {p : PV} {x : V} {kk : Key} (hp : RepV K H p x) (e : keyOf p = some kk) : x = kV kk := by
  cases hp <;> simp [keyOf] at e <;> subst e <;> rfl
theorem look_of {kk : Key} : ∀ {kvs : List (Key × PV)} {ys : List (Key × V)}, kvs.map (·.1) = ys.map (·.1) → RepVs K H (kvs.map (·.2)) (ys.map (·.2)) →
    (lookK kvs kk = none ∧ valV ys kk = none) ∨ ∃ p v, lookK kvs kk = some p ∧ valV ys kk = some v ∧ RepV K H p v
  | [], [], _, _ => .inl ⟨rfl, rfl⟩
  | [], _ :: _, e, _ => by simp at e
  | _ :: _, [], e, _ => by simp at e
  | (a, p) :: kvs, (b, v) :: ys, e, r => by
    simp only [List.map_cons, List.cons.injEq] at e
    obtain ⟨rfl, e⟩ := e
    simp only [List.map_cons] at r
    cases r with
    | cons r1 r2 =>
      by_cases h : a = kk
      · exact .inr ⟨p, v, by simp [lookK, h], by rw [valV_pos (p := (a, v)) h], r1⟩
      · have h1 : lookK ((a, p) :: kvs) kk = lookK kvs kk := by simp [lookK, h]
        have h2 : valV ((a, v) :: ys) kk = valV ys kk := valV_neg (p := (a, v)) h
        rw [h1, h2]
        exact look_of e r2
theorem put_any {kk : Key} : ∀ {kvs : List (Key × PV)} {ys : List (Key × V)}, kvs.map (·.1) = ys.map (·.1) → (kvs.any fun kv => decide (kv.1 = kk)) = ys.any fun kv => decide (kv.1 = kk)
  | [], [], _ => rfl
  | [], _ :: _, e => by simp at e
  | _ :: _, [], e => by simp at e
  | (a, p) :: kvs, (b, v) :: ys, e => by
    simp only [List.map_cons, List.cons.injEq] at e
    obtain ⟨rfl, e⟩ := e
    rw [List.any_cons, List.any_cons, put_any e]
theorem put_map {kk : Key} {p : PV} {v : V} (hp : RepV K H p v) : ∀ {kvs : List (Key × PV)} {ys : List (Key × V)}, kvs.map (·.1) = ys.map (·.1) → RepVs K H (kvs.map (·.2)) (ys.map (·.2)) →
    (kvs.map fun kv => if kv.1 = kk then (kv.1, p) else kv).map (·.1) = (ys.map fun kv => if kv.1 = kk then (kv.1, v) else kv).map (·.1) ∧
      RepVs K H ((kvs.map fun kv => if kv.1 = kk then (kv.1, p) else kv).map (·.2)) ((ys.map fun kv => if kv.1 = kk then (kv.1, v) else kv).map (·.2))
  | [], [], _, _ => ⟨rfl, .nil⟩
  | [], _ :: _, e, _ => by simp at e
  | _ :: _, [], e, _ => by simp at e
  | (a, q) :: kvs, (b, w) :: ys, e, r => by
    simp only [List.map_cons, List.cons.injEq] at e
    obtain ⟨rfl, e⟩ := e
    simp only [List.map_cons] at r
    cases r with
    | cons r1 r2 =>
      obtain ⟨i1, i2⟩ := put_map hp e r2
      simp only [List.map_cons]
      by_cases h : a = kk
      · simp only [if_pos h]
        exact ⟨congrArg _ i1, .cons hp i2⟩
      · simp only [if_neg h]
        exact ⟨congrArg _ i1, .cons r1 i2⟩
theorem put_of {kk : Key} {p : PV} {v : V} (hp : RepV K H p v) {kvs : List (Key × PV)} {ys : List (Key × V)} (e : kvs.map (·.1) = ys.map (·.1)) (r : RepVs K H (kvs.map (·.2)) (ys.map (·.2))) :
    (putKP kvs kk p).map (·.1) = (putK ys kk v).map (·.1) ∧ RepVs K H ((putKP kvs kk p).map (·.2)) ((putK ys kk v).map (·.2)) := by
  unfold putKP putK
  rw [put_any (kk := kk) e]
  split
  · exact put_map hp e r
  · simp only [List.map_append, List.map_cons, List.map_nil]
    exact ⟨by rw [e], r.app (.one hp)⟩
theorem len_of {kvs : List (Key × PV)} {ys : List (Key × V)} (e : kvs.map (·.1) = ys.map (·.1)) : kvs.length = ys.length := by
  have := congrArg List.length e
  simpa using this
end

/-! ### the operators -/
section
variable {X : Cx}
theorem add_ok : OpR X (binaryOp .Add) (lift2 X.K addS) := by
  intro pins s σ H x y v u Q I rx ry ⟨p, q, S, k, hp, hq, ok, hr, po⟩
  cases hp <;> cases hq <;> first | exact (show False from hr).elim | skip
  · exact op_add_ib pins s σ H _ _ v u Q I rx ry ⟨_, _, rfl, rfl, po.here ok (.int _) hr⟩
  · exact op_add pins s σ H _ _ v u Q I rx ry ⟨_, _, rfl, rfl, po.here ok (.int _) hr⟩
  · exact op_add_str pins s σ H _ _ v u Q I rx ry ⟨_, _, rfl, rfl, hr.1, po.here ok (.str _) hr.2⟩
  · obtain ⟨ps, qs, e1, e2, hz, hk⟩ := hr
    obtain ⟨xs, h1, r1⟩ := ok.lst e1
    obtain ⟨ys, h2, r2⟩ := ok.lst e2
    exact op_cat pins s σ H _ _ v u Q I rx ry ⟨_, _, _, _, rfl, rfl, h1, h2, by rw [← r1.length, ← r2.length]; exact hz, po.lst ok (r1.app r2) hk⟩
  · rename_i a xs ps h1 h2 b ys qs h3 h4
    refine op_catA pins s σ H _ _ v u Q I rx ry ⟨_, _, _, _, rfl, rfl, h1, h3, by rw [← h2.length, ← h4.length]; exact hr.1, fun e => ?_, fun _ e => ?_, fun _ _ => po.tup ok (h2.app h4) hr.2⟩
    · subst e
      have e0 : ps = [] := List.eq_nil_of_length_eq_zero (by rw [h2.length]; rfl)
      subst e0
      exact po.here ok (.tup h3 h4) hr.2
    · subst e
      have e0 : qs = [] := List.eq_nil_of_length_eq_zero (by rw [h4.length]; rfl)
      subst e0
      have e1 := hr.2
      rw [List.append_nil] at e1
      exact po.here ok (.tup h1 h2) e1
theorem sub_ok : OpR X (binaryOp .Sub) (lift2 X.K subS) := by
  intro pins s σ H x y v u Q I rx ry ⟨p, q, S, k, hp, hq, ok, hr, po⟩
  cases hp <;> cases hq <;> first | exact (show False from hr).elim | skip
  exact op_sub pins s σ H _ _ v u Q I rx ry ⟨_, _, rfl, rfl, po.here ok (.int _) hr⟩
theorem mul_ok : OpR X (binaryOp .Mult) (lift2 X.K mulS) := by
  intro pins s σ H x y v u Q I rx ry ⟨p, q, S, k, hp, hq, ok, hr, po⟩
  cases hp <;> cases hq <;> first | exact (show False from hr).elim | skip
  · obtain ⟨h | ⟨h1, h2⟩, hk⟩ := hr
    · exact op_mul pins s σ H _ _ v u Q I rx ry ⟨_, _, rfl, rfl, h, po.here ok (.int _) hk⟩
    · exact op_mulW pins s σ H _ _ v u Q I rx ry ⟨_, _, rfl, rfl, wide_mul h1 h2 (by decide) (by decide) (by decide), po.here ok (.int _) hk⟩
  · obtain ⟨ps, e1, h1, h2, hz, hk⟩ := hr
    obtain ⟨xs, hx, r1⟩ := ok.lst e1
    exact op_rep pins s σ H _ _ v u Q I rx ry ⟨_, _, _, rfl, rfl, hx, h1, h2, by rw [← r1.length]; exact hz, po.lst ok (r1.rep _) hk⟩
  · rename_i a xs ps h1 h2 j
    obtain ⟨⟨z1, z2, z3, z4⟩, hk⟩ := hr
    exact op_repT pins s σ H _ _ v u Q I rx ry ⟨_, _, _, rfl, rfl, h1, fun e => z1 (by rw [h2.length, e]; rfl), z2, z3, by rw [← h2.length]; exact z4, po.tup ok (h2.rep _) hk⟩
theorem div_ok : OpR X (binaryOp .FloorDiv) (lift2 X.K divS) := by
  intro pins s σ H x y v u Q I rx ry ⟨p, q, S, k, hp, hq, ok, hr, po⟩
  cases hp <;> cases hq <;> first | exact (show False from hr).elim | skip
  rename_i i j
  obtain ⟨⟨h1, h2⟩, hk⟩ := hr
  exact op_fdivW pins s σ H _ _ v u Q I rx ry ⟨_, _, rfl, rfl, wide_div (b := 9000) h1 (by omega) (by decide) (by decide), po.here ok (.int _) hk⟩
theorem mod_ok : OpR X (binaryOp .Mod) (lift2 X.K modS) := by
  intro pins s σ H x y v u Q I rx ry ⟨p, q, S, k, hp, hq, ok, hr, po⟩
  cases hp <;> cases hq <;> first | exact (show False from hr).elim | skip
  exact op_mod pins s σ H _ _ v u Q I rx ry ⟨_, _, rfl, rfl, hr.1, po.here ok (.int _) hr.2⟩
theorem pow_ok : OpR X (binaryOp .Pow) (lift2 X.K powS) := by
  intro pins s σ H x y v u Q I rx ry ⟨p, q, S, k, hp, hq, ok, hr, po⟩
  cases hp <;> cases hq <;> first | exact (show False from hr).elim | skip
  exact op_pow pins s σ H _ _ v u Q I rx ry ⟨_, _, rfl, rfl, hr.1, po.here ok (.int _) hr.2⟩
theorem shl_ok : OpR X (binaryOp .LShift) (lift2 X.K shlS) := by
  intro pins s σ H x y v u Q I rx ry ⟨p, q, S, k, hp, hq, ok, hr, po⟩
  cases hp <;> cases hq <;> first | exact (show False from hr).elim | skip
  exact op_shl pins s σ H _ _ v u Q I rx ry ⟨_, _, rfl, rfl, hr.1, po.here ok (.int _) hr.2⟩
theorem shr_ok : OpR X (binaryOp .RShift) (lift2 X.K shrS) := by
  intro pins s σ H x y v u Q I rx ry ⟨p, q, S, k, hp, hq, ok, hr, po⟩
  cases hp <;> cases hq <;> first | exact (show False from hr).elim | skip
  exact op_shr pins s σ H _ _ v u Q I rx ry ⟨_, _, rfl, rfl, hr.1, po.here ok (.int _) hr.2⟩
theorem lt_ok : OpR X (compareOp .Lt) (lift2 X.K ltS) := by
  intro pins s σ H x y v u Q I rx ry ⟨p, q, S, k, hp, hq, ok, hr, po⟩
  cases hp <;> cases hq <;> first | exact (show False from hr).elim | skip
  · exact op_lt pins s σ H _ _ v u Q I rx ry ⟨_, _, rfl, rfl, po.here ok (.bl _) hr⟩
  · exact op_lt_str pins s σ H _ _ v u Q I rx ry ⟨_, _, rfl, rfl, po.here ok (.bl _) hr⟩
theorem le_ok : OpR X (compareOp .LtE) (lift2 X.K leS) := by
  intro pins s σ H x y v u Q I rx ry ⟨p, q, S, k, hp, hq, ok, hr, po⟩
  cases hp <;> cases hq <;> first | exact (show False from hr).elim | skip
  exact op_le pins s σ H _ _ v u Q I rx ry ⟨_, _, rfl, rfl, po.here ok (.bl _) hr⟩
theorem gt_ok : OpR X (compareOp .Gt) (lift2 X.K gtS) := by
  intro pins s σ H x y v u Q I rx ry ⟨p, q, S, k, hp, hq, ok, hr, po⟩
  cases hp <;> cases hq <;> first | exact (show False from hr).elim | skip
  exact op_gt pins s σ H _ _ v u Q I rx ry ⟨_, _, rfl, rfl, po.here ok (.bl _) hr⟩
theorem ge_ok : OpR X (compareOp .GtE) (lift2 X.K geS) := by
  intro pins s σ H x y v u Q I rx ry ⟨p, q, S, k, hp, hq, ok, hr, po⟩
  cases hp <;> cases hq <;> first | exact (show False from hr).elim | skip
  exact op_ge pins s σ H _ _ v u Q I rx ry ⟨_, _, rfl, rfl, po.here ok (.bl _) hr⟩
theorem eq_ok (hu : X.A.units + 64 < cLine) : OpR X (compareOp .Eq) (lift2 X.K eqS) := by
  intro pins s σ H x y v u Q I rx ry ⟨p, q, S, k, hp, hq, ok, hr, po⟩
  rcases hr with ⟨c, hk⟩ | ⟨c1, c2, hk⟩
  · obtain ⟨c, e⟩ := scal_of hp hq c
    rw [e] at hk
    exact op_eq pins s σ H _ _ v u Q I rx ry ⟨c, po.here ok (.bl _) hk⟩
  · unfold dataOk at c1 c2
    rw [Bool.and_eq_true] at c1 c2
    exact op_eqD hu pins s σ H _ _ v u Q I rx ry ⟨_, _, dp_of p x hp c1.1, dp_of q y hq c2.1, c1.2, c2.2, po.here ok (.bl _) hk⟩
theorem ne_ok (hu : X.A.units + 64 < cLine) : OpR X (compareOp .NotEq) (lift2 X.K neS) := by
  intro pins s σ H x y v u Q I rx ry ⟨p, q, S, k, hp, hq, ok, hr, po⟩
  rcases hr with ⟨c, hk⟩ | ⟨c1, c2, hk⟩
  · obtain ⟨c, e⟩ := scal_of hp hq c
    rw [e] at hk
    exact op_ne pins s σ H _ _ v u Q I rx ry ⟨c, po.here ok (.bl _) hk⟩
  · unfold dataOk at c1 c2
    rw [Bool.and_eq_true] at c1 c2
    exact op_neD hu pins s σ H _ _ v u Q I rx ry ⟨_, _, dp_of p x hp c1.1, dp_of q y hq c2.1, c1.2, c2.2, po.here ok (.bl _) hk⟩
theorem nin_eq (b : Bool) : (if true = true then !b else b) = !b := rfl
theorem in_ok (hu : X.A.units + 1 < cLine) : OpR X (compareOp .In) (lift2 X.K (inS false)) := by
  intro pins s σ H x y v u Q I rx ry ⟨p, q, S, k, hp, hq, ok, hr, po⟩
  cases hq <;> first | exact (show False from hr).elim | skip
  · cases hp <;> first | exact (show False from hr).elim | skip
    exact op_in_str pins s σ H _ _ v u Q I rx ry ⟨_, _, rfl, rfl, po.here ok (.bl _) hr⟩
  · rcases hr with ⟨ps, e, f1, f2, hk⟩ | ⟨kvs, kk, e, e2, hk⟩
    · obtain ⟨xs, hx, r1⟩ := ok.lst e
      rw [inF_of hp f1 r1 f2] at hk
      exact op_in_seq pins s σ H _ _ v u Q I rx ry ⟨_, _, rfl, .inl (SqL.of hx), flat_of hp f1, flats_of r1 f2, po.here ok (.bl _) hk⟩
    · obtain ⟨ys, hy, e3, r3⟩ := ok.dic e
      have ek := key_rep hp e2
      subst ek
      cases ry
      refine d_in hu I (DGet.k (k := kk) hy) rx fun s' I' => ⟨.bl _, H, I', rfl, po.here ok (.bl _) ?_⟩
      rcases look_of (kk := kk) e3 r3 with ⟨h1, h2⟩ | ⟨p', v', h1, h2, _⟩
      · rw [h2]; rw [h1] at hk; exact hk
      · rw [h2]; rw [h1] at hk; exact hk
  · rename_i a xs ps h1 h2
    obtain ⟨f1, f2, hk⟩ := hr
    rw [inF_of hp f1 h2 f2] at hk
    exact op_in_seq pins s σ H _ _ v u Q I rx ry ⟨_, _, rfl, .inr h1, flat_of hp f1, flats_of h2 f2, po.here ok (.bl _) hk⟩
  · rename_i a xs ps h1 h2
    obtain ⟨f1, f2, hk⟩ := hr
    rw [inF_of hp f1 h2 f2] at hk
    exact op_in_seq pins s σ H _ _ v u Q I rx ry ⟨_, _, rfl, .inl h1.sq, flat_of hp f1, flats_of h2 f2, po.here ok (.bl _) hk⟩
theorem nin_ok (hu : X.A.units + 1 < cLine) : OpR X (compareOp .NotIn) (lift2 X.K (inS true)) := by
  intro pins s σ H x y v u Q I rx ry ⟨p, q, S, k, hp, hq, ok, hr, po⟩
  cases hq <;> first | exact (show False from hr).elim | skip
  · cases hp <;> first | exact (show False from hr).elim | skip
    exact L2.op_notIn_str pins s σ H _ _ v u Q I rx ry ⟨_, _, rfl, rfl, po.here ok (.bl _) hr⟩
  · rcases hr with ⟨ps, e, f1, f2, hk⟩ | ⟨kvs, kk, e, e2, hk⟩
    · obtain ⟨xs, hx, r1⟩ := ok.lst e
      rw [inF_of hp f1 r1 f2] at hk
      exact op_notIn_seq pins s σ H _ _ v u Q I rx ry ⟨_, _, rfl, .inl (SqL.of hx), flat_of hp f1, flats_of r1 f2, po.here ok (.bl _) hk⟩
    · obtain ⟨ys, hy, e3, r3⟩ := ok.dic e
      have ek := key_rep hp e2
      subst ek
      cases ry
      refine d_notIn hu I (DGet.k (k := kk) hy) rx fun s' I' => ⟨.bl _, H, I', rfl, po.here ok (.bl _) ?_⟩
      rcases look_of (kk := kk) e3 r3 with ⟨h1, h2⟩ | ⟨p', v', h1, h2, _⟩
      · rw [h2]; rw [h1] at hk; exact hk
      · rw [h2]; rw [h1] at hk; exact hk
  · rename_i a xs ps h1 h2
    obtain ⟨f1, f2, hk⟩ := hr
    rw [inF_of hp f1 h2 f2] at hk
    exact op_notIn_seq pins s σ H _ _ v u Q I rx ry ⟨_, _, rfl, .inr h1, flat_of hp f1, flats_of h2 f2, po.here ok (.bl _) hk⟩
  · rename_i a xs ps h1 h2
    obtain ⟨f1, f2, hk⟩ := hr
    rw [inF_of hp f1 h2 f2] at hk
    exact op_notIn_seq pins s σ H _ _ v u Q I rx ry ⟨_, _, rfl, .inl h1.sq, flat_of hp f1, flats_of h2 f2, po.here ok (.bl _) hk⟩
theorem isnone_of {K : PySem.W.Frag} {H : Hp} {p : PV} {x : V} (h : RepV K H p x) : decide (x = .non) = isNon p := by
  cases h <;> simp [isNon]
end
end PL
namespace PL
open PySem PySem.Spec PyProof.Rows L2

/-! ### subscripts -/
def ixS : Op2 := fun p q S k => match p with
  | .tup xs => match q with
    | .int i => ∃ v, atI xs i = some v ∧ k v S
    | _ => False
  | .frl xs => match q with
    | .int i => ∃ v, atI xs i = some v ∧ k v S
    | _ => False
  | .str z => match q with
    | .int i => z.length ≤ sizeLine ∧ ∃ c, atI z.cps.toList i = some c ∧ k (.str ⟨#[c]⟩) S
    | _ => False
  | .loc a => (∃ xs i v, S a = some (.lst xs) ∧ q = .int i ∧ atI xs i = some v ∧ k v S) ∨
      (∃ kvs kk v, S a = some (.dic kvs) ∧ keyOf q = some kk ∧ lookK kvs kk = some v ∧ k v S)
  | _ => False
section
variable {K : PySem.W.Frag} {H : Hp}
theorem RepVs.atI {ps : List PV} {vs : List V} {i : Int} {p : PV} (r : RepVs K H ps vs) (h : L2.atI ps i = some p) : ∃ v, L2.atI vs i = some v ∧ RepV K H p v := by
  unfold L2.atI at h ⊢
  rw [r.length] at h
  cases e : ixN vs.length i with
  | none => rw [e] at h; cases h
  | some j =>
    rw [e] at h
    obtain ⟨v, h1, h2⟩ := r.at (i := j) (p := p) h
    exact ⟨v, h1, h2⟩
end
section
variable {X : Cx}
theorem ix_dict (hu : X.A.units + 1 < cLine) : IxR X (fun x y H Q => ∃ a v, x = .ref a ∧ DGet H a y (some v) ∧ Q v H) := by
  intro value slice pins s σ H x y v u Q I rx ry h hs
  obtain ⟨a, w, rfl, g, q⟩ := h
  cases rx
  have hT := dict_typeIs I g
  unfold subscriptTail
  refine wpAny_bind ?_
  rw [getitemInPython_of_ne hT.not_modules]
  refine wpAny_bind (wpAny_specialOf hT PySem.F.slot_dict_getitem.lookup ?_)
  have fin : wpAny (model X.prog X.w) X.A (subscripted slice false (.ref a) u) (fun r s₃ => wpAny (model X.prog X.w) X.A (letTemporaryGo value (.ref a) r >>= fun _ => pure r) (EP X pins σ Q) X.xe s₃) X.xe s := by
    rw [hs]
    exact wpAny_operating (d_getItem hu I g ry fun w' s3 I3 rw' => wpAny_bind (wpAny_letTemporaryGo (wpAny_pure ⟨w, H, I3, rw', q⟩)))
  first
    | exact wpAny_pure (wpAny_bind fin)
    | exact wpAny_bind (wpAny_pure (wpAny_bind fin))
    | exact wpAny_bind fin
theorem ixS_ok (hu : X.A.units + 1 < cLine) : IxR X (lift2 X.K ixS) := by
  intro value slice pins s σ H x y v u Q I rx ry ⟨p, q, S, k, hp, hq, ok, hr, po⟩ hs
  cases hp <;> first | exact (show False from hr).elim | skip
  · cases hq <;> first | exact (show False from hr).elim | skip
    obtain ⟨hz, c, hc, hk⟩ := hr
    exact ix_str value slice pins s σ H _ _ v u Q I rx ry ⟨_, _, _, rfl, rfl, hz, hc, po.here ok (.str _) hk⟩ hs
  · rcases hr with ⟨ps, i, w, e, rfl, hw, hk⟩ | ⟨kvs, kk, w, e, ek, hw, hk⟩
    · obtain ⟨xs, hx, r1⟩ := ok.lst e
      obtain ⟨z, hz, rz⟩ := r1.atI hw
      cases hq
      exact ix_list value slice pins s σ H _ _ v u Q I rx ry ⟨_, _, _, _, rfl, rfl, SqL.of hx, hz, po.here ok rz hk⟩ hs
    · obtain ⟨ys, hy, e3, r3⟩ := ok.dic e
      have ek := key_rep hq ek
      subst ek
      rcases look_of (kk := kk) e3 r3 with ⟨h1, h2⟩ | ⟨p', v', h1, h2, h3⟩
      · rw [hw] at h1; cases h1
      · rw [hw] at h1; cases h1
        exact ix_dict hu value slice pins s σ H _ _ v u Q I rx ry ⟨_, v', rfl, by have := DGet.k (k := kk) hy; rw [h2] at this; exact this, po.here ok h3 hk⟩ hs
  · rename_i a xs ps h1 h2
    cases hq <;> first | exact (show False from hr).elim | skip
    obtain ⟨w, hw, hk⟩ := hr
    obtain ⟨z, hz, rz⟩ := h2.atI hw
    exact ix_tup value slice pins s σ H _ _ v u Q I rx ry ⟨_, _, _, _, rfl, rfl, h1, hz, po.here ok rz hk⟩ hs
  · rename_i a xs ps h1 h2
    cases hq <;> first | exact (show False from hr).elim | skip
    obtain ⟨w, hw, hk⟩ := hr
    obtain ⟨z, hz, rz⟩ := h2.atI hw
    exact ix_list value slice pins s σ H _ _ v u Q I rx ry ⟨_, _, _, _, rfl, rfl, h1.sq, hz, po.here ok rz hk⟩ hs
end

/-! ### slices -/
def cutP {α : Type} (xs : List α) (lo hi : Option Int) : List α := (xs.drop (HT.sIx xs.length 0 lo)).take (HT.sIx xs.length xs.length hi - HT.sIx xs.length 0 lo)
def slS (p : PV) (lo hi : Option Int) (S : Store) (k : Kt) : Prop := match p with
  | .tup xs => k (.tup (cutP xs lo hi)) S
  | .frl xs => ∀ q, S q = none → k (.loc q) (sup S q (.lst (cutP xs lo hi)))
  | .loc a => ∃ xs, S a = some (.lst xs) ∧ ∀ q, S q = none → k (.loc q) (sup S q (.lst (cutP xs lo hi)))
  | .str z => z.length ≤ sizeLine ∧ k (.str (cutS z lo hi)) S
  | _ => False
theorem cut_rep {K : PySem.W.Frag} {H : Hp} {ps : List PV} {vs : List V} (lo hi : Option Int) (r : RepVs K H ps vs) : RepVs K H (cutP ps lo hi) (cutV vs lo hi) := by
  unfold cutP cutV
  rw [r.length]
  exact (r.drop _).take _
theorem sl_ok {X : Cx} : SlR X (fun x lo hi H Q => ∃ p S k, RepV X.K H p x ∧ StOk X.K H S ∧ slS p lo hi S k ∧ Post X.K H S k Q) := by
  intro pins s σ H x v vl vu lo hi sl Q I rx hs pl pu ⟨p, S, k, hp, ok, hr, po⟩
  cases hp <;> first | exact (show False from hr).elim | skip
  · exact sl_str pins s σ H _ v vl vu lo hi sl Q I rx hs pl pu ⟨_, rfl, hr.1, po.here ok (.str _) hr.2⟩
  · obtain ⟨ps, e, hk⟩ := hr
    obtain ⟨xs, hx, r1⟩ := ok.lst e
    exact sl_list pins s σ H _ v vl vu lo hi sl Q I rx hs pl pu ⟨_, _, rfl, SqL.of hx, po.lst ok (cut_rep lo hi r1) hk⟩
  · rename_i a xs ps h1 h2
    refine sl_tupA pins s σ H _ v vl vu lo hi sl Q I rx hs pl pu ⟨_, _, rfl, h1, fun z => ?_, fun _ => po.tup ok (cut_rep lo hi h2) hr⟩
    have e : cutP ps lo hi = ps := by
      unfold cutP
      rw [h2.length, z.1, z.2, List.drop_zero, Nat.sub_zero, ← h2.length, List.take_length]
    have hr' : k (.tup (cutP ps lo hi)) S := hr
    rw [e] at hr'
    exact po.here ok (.tup h1 h2) hr'
  · rename_i a xs ps h1 h2
    exact sl_list pins s σ H _ v vl vu lo hi sl Q I rx hs pl pu ⟨_, _, rfl, h1.sq, po.lst ok (cut_rep lo hi h2) hr⟩

/-! ### truth -/
def truS (p : PV) (S : Store) (k : Bool → Prop) : Prop := match p with
  | .non => k false
  | .bl b => k b
  | .int i => k (i != 0)
  | .str y => y.length ≤ sizeLine ∧ k ((y.length : Int) != 0)
  | .tup xs => k (!xs.isEmpty)
  | .frl xs => k (!xs.isEmpty)
  | .loc a => (∃ xs, S a = some (.lst xs) ∧ k (!xs.isEmpty)) ∨ (∃ kvs, S a = some (.dic kvs) ∧ k (!kvs.isEmpty))
theorem RepVs.emp {K : PySem.W.Frag} {H : Hp} {ps : List PV} {vs : List V} (r : RepVs K H ps vs) : ps.isEmpty = vs.isEmpty := by cases r <;> rfl
theorem tru_of {K : PySem.W.Frag} {H : Hp} {S : Store} {p : PV} {x : V} {k : Bool → Prop} (hp : RepV K H p x) (ok : StOk K H S) (h : truS p S k) : ∃ b, TruV K x H b ∧ k b := by
  cases hp with
  | non => exact ⟨false, rfl, h⟩
  | bl b => exact ⟨b, rfl, h⟩
  | int i => exact ⟨_, rfl, h⟩
  | str y => exact ⟨_, ⟨h.1, rfl⟩, h.2⟩
  | loc a =>
    rcases h with ⟨ps, e, hk⟩ | ⟨kvs, e, hk⟩
    · obtain ⟨xs, hx, r1⟩ := ok.lst e
      exact ⟨_, .inl ⟨xs, SqL.of hx, rfl⟩, by rw [← r1.emp]; exact hk⟩
    · obtain ⟨ys, hy, e3, r3⟩ := ok.dic e
      refine ⟨_, .inr (.inr ⟨ys, hy, rfl⟩), ?_⟩
      have e4 := len_of e3
      cases kvs <;> cases ys <;> simp at e4 ⊢ <;> exact hk
  | tup h1 h2 => exact ⟨_, .inr (.inl ⟨_, h1, rfl⟩), by rw [← h2.emp]; exact h⟩
  | frl h1 h2 => exact ⟨_, .inl ⟨_, h1.sq, rfl⟩, by rw [← h2.emp]; exact h⟩

/-! ### stores o[i] = v -/
def setS (o i v : PV) (S : Store) (k : Store → Prop) : Prop := match o with
  | .loc a => (∃ xs n j, S a = some (.lst xs) ∧ i = .int n ∧ ixN xs.length n = some j ∧ k (sup S a (.lst (xs.set j v)))) ∨
      (∃ kvs kk, S a = some (.dic kvs) ∧ keyOf i = some kk ∧ kvs.length < sizeLine ∧ k (sup S a (.dic (putKP kvs kk v))))
  | _ => False
def PostU (K : PySem.W.Frag) (H : Hp) (S : Store) (k : Store → Prop) (Q : Hp → Prop) : Prop := ∀ S' H', Step K H S H' S' → k S' → Q H'
theorem set_ok {X : Cx} (hu : X.A.units + 1 < cLine) : PSet X (fun o i v H Q => ∃ p q r S k, RepV X.K H p o ∧ RepV X.K H q i ∧ RepV X.K H r v ∧ StOk X.K H S ∧ setS p q r S k ∧ PostU X.K H S k Q) := by
  intro pins s σ H o i v ov iv u Q I ro ri rv ⟨p, q, r, S, k, hp, hq, hr, ok, h, po⟩
  cases hp <;> first | exact (show False from h).elim | skip
  rename_i a
  rcases h with ⟨ps, n, j, e, rfl, hj, hk⟩ | ⟨kvs, kk, e, ek, hl, hk⟩
  · obtain ⟨xs, hx, r1⟩ := ok.lst e
    cases hq
    exact set_list pins s σ H _ _ v ov iv u Q I ro ri rv ⟨a, xs, n, j, rfl, rfl, hx, by rw [← r1.length]; exact hj, po _ _ (Step.setl ok e hx (r1.set j hr)) hk⟩
  · obtain ⟨ys, hy, e3, r3⟩ := ok.dic e
    have ek := key_rep hq ek
    subst ek
    cases ro
    obtain ⟨g1, g2⟩ := put_of (kk := kk) hr e3 r3
    exact d_setItem hu I (DPut.k (k := kk) (v := v) hy (by rw [← len_of e3]; exact hl)) ri rv fun s' I' => ⟨_, I', po _ _ (Step.put (m := .dic (putKP kvs kk r)) ok e hy True.intro ⟨_, upd_same, g1, g2.keep (keeps_put hy True.intro)⟩) hk⟩

/-! ### built-in calls -/
abbrev OpN := List PV → Store → Kt → Prop
def liftN (K : PySem.W.Frag) (r : OpN) : List V → Hp → VK → Prop := fun xs H Q => ∃ ps S k, RepVs K H ps xs ∧ StOk K H S ∧ r ps S k ∧ Post K H S k Q
def lenS : OpN
  | [.str y], S, k => y.length ≤ sizeLine ∧ k (.int y.length) S
  | [.tup xs], S, k => k (.int xs.length) S
  | [.frl xs], S, k => k (.int xs.length) S
  | [.loc a], S, k => (∃ xs, S a = some (.lst xs) ∧ k (.int xs.length) S) ∨ (∃ kvs, S a = some (.dic kvs) ∧ k (.int kvs.length) S)
  | _, _, _ => False
def absS : OpN
  | [.int i], S, k => k (.int (if i < 0 then -i else i)) S
  | _, _, _ => False
/-- the items of a list or tuple that is read -/
def itemsOf (p : PV) (S : Store) (xs : List PV) : Prop := p = .tup xs ∨ p = .frl xs ∨ ∃ a, p = .loc a ∧ S a = some (.lst xs)
/-- .. of a list -/
def listOf' (p : PV) (S : Store) (xs : List PV) : Prop := p = .frl xs ∨ ∃ a, p = .loc a ∧ S a = some (.lst xs)
def maxS : OpN
  | [.int i, .int j], S, k => k (.int (if j > i then j else i)) S
  | [p], S, k => ∃ ns : List Int, listOf' p S (ns.map PV.int) ∧ 0 < ns.length ∧ ∀ m, m ∈ ns → (∀ y, y ∈ ns → y ≤ m) → k (.int m) S
  | _, _, _ => False
def minS : OpN
  | [.int i, .int j], S, k => k (.int (if j < i then j else i)) S
  | [p], S, k => ∃ ns : List Int, listOf' p S (ns.map PV.int) ∧ 0 < ns.length ∧ ∀ m, m ∈ ns → (∀ y, y ∈ ns → m ≤ y) → k (.int m) S
  | _, _, _ => False
def sumS : OpN
  | [p], S, k => ∃ ns : List Int, listOf' p S (ns.map PV.int) ∧ k (.int ns.sum) S
  | _, _, _ => False
def intS : OpN
  | [.int i], S, k => k (.int i) S
  | [.bl b], S, k => k (.int (if b then 1 else 0)) S
  | _, _, _ => False
def strS : OpN
  | [.int i], S, k => i.natAbs.log2 < 1920 ∧ k (.str (toString i)) S
  | _, _, _ => False
def tupS : OpN
  | [p], S, k => ∃ xs, itemsOf p S xs ∧ k (.tup xs) S
  | _, _, _ => False
def lstS : OpN
  | [p], S, k => ∃ xs, itemsOf p S xs ∧ ∀ q, S q = none → k (.loc q) (sup S q (.lst xs))
  | _, _, _ => False
def srtS : OpN
  | [p], S, k => ∃ ns : List Int, listOf' p S (ns.map PV.int) ∧ ∀ (ns' : List Int) q, ns'.Perm ns → ns'.Pairwise (· ≤ ·) → S q = none → k (.loc q) (sup S q (.lst (ns'.map PV.int)))
  | _, _, _ => False
section
variable {K : PySem.W.Frag} {H : Hp} {S : Store}
theorem one_inv {p : PV} {xs : List V} (r : RepVs K H [p] xs) : ∃ x, xs = [x] ∧ RepV K H p x := by
  obtain ⟨v, r', rfl, h1, h2⟩ := r.cons_inv
  rw [h2.nil_inv]
  exact ⟨v, rfl, h1⟩
theorem two_inv {p q : PV} {xs : List V} (r : RepVs K H [p, q] xs) : ∃ x y, xs = [x, y] ∧ RepV K H p x ∧ RepV K H q y := by
  obtain ⟨v, r', rfl, h1, h2⟩ := r.cons_inv
  obtain ⟨w, rfl, h3⟩ := one_inv h2
  exact ⟨v, w, rfl, h1, h3⟩
theorem listOf_rep {p : PV} {x : V} {ps : List PV} (ok : StOk K H S) (hp : RepV K H p x) (h : listOf' p S ps) : ∃ a xs, x = .ref a ∧ SqL K H a xs ∧ RepVs K H ps xs := by
  rcases h with rfl | ⟨a, rfl, e⟩
  · cases hp with
    | frl h1 h2 => exact ⟨_, _, rfl, h1.sq, h2⟩
  · cases hp
    obtain ⟨xs, hx, r1⟩ := ok.lst e
    exact ⟨a, xs, rfl, SqL.of hx, r1⟩
theorem itemsOf_rep {p : PV} {x : V} {ps : List PV} (ok : StOk K H S) (hp : RepV K H p x) (h : itemsOf p S ps) : ∃ a xs, x = .ref a ∧ (SqL K H a xs ∨ (SqT K H a xs ∧ p = .tup ps)) ∧ RepVs K H ps xs := by
  rcases h with rfl | rfl | ⟨a, rfl, e⟩
  · cases hp with
    | tup h1 h2 => exact ⟨_, _, rfl, .inr ⟨h1, rfl⟩, h2⟩
  · cases hp with
    | frl h1 h2 => exact ⟨_, _, rfl, .inl h1.sq, h2⟩
  · cases hp
    obtain ⟨xs, hx, r1⟩ := ok.lst e
    exact ⟨a, xs, rfl, .inl (SqL.of hx), r1⟩
theorem arg1 {r : OpN} {ps : List PV} {k : Kt} (h : r ps S k) (n0 : ∀ S k, ¬ r [] S k) (n2 : ∀ p q qs S k, ¬ r (p :: q :: qs) S k) : ∃ p, ps = [p] := by
  match ps, h with
  | [], h => exact (n0 _ _ h).elim
  | [p], _ => exact ⟨p, rfl⟩
  | p :: q :: qs, h => exact (n2 _ _ _ _ _ h).elim
end
section
variable {X : Cx}
theorem len_ok : CallR X (.builtin "len") (liftN X.K lenS) := by
  intro pins s σ H xs us Q I r ⟨ps, S, k, hr, ok, h, po⟩
  obtain ⟨p, rfl⟩ := arg1 (r := lenS) h (fun _ _ h => h) (fun p _ _ _ _ h => by cases p <;> exact h)
  obtain ⟨x, rfl, hp⟩ := one_inv hr
  cases hp <;> first | exact (show False from h).elim | skip
  · exact call_len pins s σ H _ us Q I r ⟨_, _, rfl, ⟨h.1, rfl⟩, po.here ok (.int _) h.2⟩
  · rcases h with ⟨qs, e, hk⟩ | ⟨kvs, e, hk⟩
    · obtain ⟨ys, hy, r1⟩ := ok.lst e
      exact call_len pins s σ H _ us Q I r ⟨_, _, rfl, .inl ⟨ys, SqL.of hy, rfl⟩, po.here ok (.int _) (by rw [← r1.length]; exact hk)⟩
    · obtain ⟨ys, hy, e3, r3⟩ := ok.dic e
      obtain ⟨u, rfl, ru⟩ := vals1 r
      cases ru
      exact d_len I (.inl hy) fun t s' I' => ⟨.int ys.length, H, I', ⟨t, rfl⟩, po.here ok (.int _) (by rw [← len_of e3]; exact hk)⟩
  · rename_i a xs ps h1 h2
    exact call_len pins s σ H _ us Q I r ⟨_, _, rfl, .inr ⟨_, h1, rfl⟩, po.here ok (.int _) (by rw [← h2.length]; exact h)⟩
  · rename_i a xs ps h1 h2
    exact call_len pins s σ H _ us Q I r ⟨_, _, rfl, .inl ⟨_, h1.sq, rfl⟩, po.here ok (.int _) (by rw [← h2.length]; exact h)⟩
theorem abs_ok : CallR X (.builtin "abs") (liftN X.K absS) := by
  intro pins s σ H xs us Q I r ⟨ps, S, k, hr, ok, h, po⟩
  obtain ⟨p, rfl⟩ := arg1 (r := absS) h (fun _ _ h => h) (fun p _ _ _ _ h => by cases p <;> exact h)
  obtain ⟨x, rfl, hp⟩ := one_inv hr
  cases hp <;> first | exact (show False from h).elim | skip
  exact call_abs pins s σ H _ us Q I r ⟨_, rfl, po.here ok (.int _) h⟩
theorem int_ok : CallR X (.type "int") (liftN X.K intS) := by
  intro pins s σ H xs us Q I r ⟨ps, S, k, hr, ok, h, po⟩
  obtain ⟨p, rfl⟩ := arg1 (r := intS) h (fun _ _ h => h) (fun p _ _ _ _ h => by cases p <;> exact h)
  obtain ⟨x, rfl, hp⟩ := one_inv hr
  cases hp <;> first | exact (show False from h).elim | skip
  · exact call_int1 pins s σ H _ us Q I r (.inr ⟨_, rfl, po.here ok (.int _) h⟩)
  · exact call_int1 pins s σ H _ us Q I r (.inl ⟨_, rfl, po.here ok (.int _) h⟩)
theorem str_ok : CallR X (.type "str") (liftN X.K strS) := by
  intro pins s σ H xs us Q I r ⟨ps, S, k, hr, ok, h, po⟩
  obtain ⟨p, rfl⟩ := arg1 (r := strS) h (fun _ _ h => h) (fun p _ _ _ _ h => by cases p <;> exact h)
  obtain ⟨x, rfl, hp⟩ := one_inv hr
  cases hp <;> first | exact (show False from h).elim | skip
  exact call_str_int pins s σ H _ us Q I r ⟨_, rfl, h.1, po.here ok (.str _) h.2⟩
theorem two_args {p q : PV} {qs : List PV} {S : Store} {k : Kt} {r : OpN} (h : r (p :: q :: qs) S k) (nn : ∀ p q q' qs S k, ¬ r (p :: q :: q' :: qs) S k) : qs = [] := by
  cases qs with
  | nil => rfl
  | cons a b => exact (nn _ _ _ _ _ _ h).elim
theorem max_ok (hc : X.calm = true) : CallR X (.builtin "max") (liftN X.K maxS) := by
  intro pins s σ H xs us Q I r ⟨ps, S, k, hr, ok, h, po⟩
  match ps, h with
  | [], h => exact (show False from h).elim
  | p :: q :: [], h =>
    obtain ⟨x, y, rfl, hp, hq⟩ := two_inv hr
    cases hp <;> first | exact (show False from h).elim | skip
    cases hq <;> first | exact (show False from h).elim | skip
    exact call_max2 hc pins s σ H _ us Q I r ⟨_, _, rfl, po.here ok (.int _) h⟩
  | p :: q :: q' :: qs, h => exact (show False from by cases p <;> first | exact h | (cases q <;> exact h)).elim
  | [p], h =>
    obtain ⟨x, rfl, hp⟩ := one_inv hr
    have h' : ∃ ns : List Int, listOf' p S (ns.map PV.int) ∧ 0 < ns.length ∧ ∀ m, m ∈ ns → (∀ y, y ∈ ns → y ≤ m) → k (.int m) S := by cases p <;> exact h
    obtain ⟨ns, hl, hn, hk⟩ := h'
    obtain ⟨a, xs, rfl, hs, rs⟩ := listOf_rep ok hp hl
    rw [rs.of_ints] at hs
    exact cr_max hc pins s σ H _ us Q I r ⟨a, ns, rfl, hs, hn, fun m h1 h2 => po.here ok (.int _) (hk m h1 h2)⟩
theorem min_ok (hc : X.calm = true) : CallR X (.builtin "min") (liftN X.K minS) := by
  intro pins s σ H xs us Q I r ⟨ps, S, k, hr, ok, h, po⟩
  match ps, h with
  | [], h => exact (show False from h).elim
  | p :: q :: [], h =>
    obtain ⟨x, y, rfl, hp, hq⟩ := two_inv hr
    cases hp <;> first | exact (show False from h).elim | skip
    cases hq <;> first | exact (show False from h).elim | skip
    exact call_min2 hc pins s σ H _ us Q I r ⟨_, _, rfl, po.here ok (.int _) h⟩
  | p :: q :: q' :: qs, h => exact (show False from by cases p <;> first | exact h | (cases q <;> exact h)).elim
  | [p], h =>
    obtain ⟨x, rfl, hp⟩ := one_inv hr
    have h' : ∃ ns : List Int, listOf' p S (ns.map PV.int) ∧ 0 < ns.length ∧ ∀ m, m ∈ ns → (∀ y, y ∈ ns → m ≤ y) → k (.int m) S := by cases p <;> exact h
    obtain ⟨ns, hl, hn, hk⟩ := h'
    obtain ⟨a, xs, rfl, hs, rs⟩ := listOf_rep ok hp hl
    rw [rs.of_ints] at hs
    exact cr_min hc pins s σ H _ us Q I r ⟨a, ns, rfl, hs, hn, fun m h1 h2 => po.here ok (.int _) (hk m h1 h2)⟩
theorem sum_ok (hc : X.calm = true) : CallR X (.builtin "sum") (liftN X.K sumS) := by
  intro pins s σ H xs us Q I r ⟨ps, S, k, hr, ok, h, po⟩
  obtain ⟨p, rfl⟩ := arg1 (r := sumS) h (fun _ _ h => h) (fun p _ _ _ _ h => by cases p <;> exact h)
  obtain ⟨x, rfl, hp⟩ := one_inv hr
  obtain ⟨ns, hl, hk⟩ := h
  obtain ⟨a, xs, rfl, hs, rs⟩ := listOf_rep ok hp hl
  rw [rs.of_ints] at hs
  exact cr_sum hc pins s σ H _ us Q I r ⟨a, ns, rfl, hs, po.here ok (.int _) hk⟩
theorem srt_ok : CallR X (.builtin "sorted") (liftN X.K srtS) := by
  intro pins s σ H xs us Q I r ⟨ps, S, k, hr, ok, h, po⟩
  obtain ⟨p, rfl⟩ := arg1 (r := srtS) h (fun _ _ h => h) (fun p _ _ _ _ h => by cases p <;> exact h)
  obtain ⟨x, rfl, hp⟩ := one_inv hr
  obtain ⟨ns, hl, hk⟩ := h
  obtain ⟨a, xs, rfl, hs, rs⟩ := listOf_rep ok hp hl
  rw [rs.of_ints] at hs
  exact cr_sortedI pins s σ H _ us Q I r ⟨a, ns, rfl, hs, fun ns' q h1 h2 n => po.lst ok (RepVs.ints ns') (fun q' n' => hk ns' q' h1 h2 n') q n⟩
theorem lst_ok : CallR X (.type "list") (liftN X.K lstS) := by
  intro pins s σ H xs us Q I r ⟨ps, S, k, hr, ok, h, po⟩
  obtain ⟨p, rfl⟩ := arg1 (r := lstS) h (fun _ _ h => h) (fun p _ _ _ _ h => by cases p <;> exact h)
  obtain ⟨x, rfl, hp⟩ := one_inv hr
  obtain ⟨qs, hl, hk⟩ := h
  obtain ⟨a, xs, rfl, hs, rs⟩ := itemsOf_rep ok hp hl
  exact call_list_of pins s σ H _ us Q I r ⟨a, xs, rfl, hs.imp id And.left, po.lst ok rs hk⟩
theorem tup_ok : CallR X (.type "tuple") (liftN X.K tupS) := by
  intro pins s σ H xs us Q I r ⟨ps, S, k, hr, ok, h, po⟩
  obtain ⟨p, rfl⟩ := arg1 (r := tupS) h (fun _ _ h => h) (fun p _ _ _ _ h => by cases p <;> exact h)
  obtain ⟨x, rfl, hp⟩ := one_inv hr
  obtain ⟨qs, hl, hk⟩ := h
  obtain ⟨a, xs, rfl, hs, rs⟩ := itemsOf_rep ok hp hl
  rcases hs with hs | ⟨hs, rfl⟩
  · exact call_tuple_of pins s σ H _ us Q I r ⟨a, xs, rfl, .inl ⟨hs, po.tup ok rs hk⟩⟩
  · exact call_tuple_of pins s σ H _ us Q I r ⟨a, xs, rfl, .inr ⟨hs, po.here ok hp hk⟩⟩

/-! ### isinstance -/
inductive TyI where | non | bl | int | str | tup | lst | dic
  deriving DecidableEq
def tiName : TyI → String
  | .non => "NoneType" | .bl => "bool" | .int => "int" | .str => "str" | .tup => "tuple" | .lst => "list" | .dic => "dict"
def tiStr : TyI → Str
  | .non => "NoneType" | .bl => "bool" | .int => "int" | .str => "str" | .tup => "tuple" | .lst => "list" | .dic => "dict"
def subT : TyI → TyI → Bool
  | .bl, .int => true
  | a, b => decide (a = b)
theorem kit_sub : ∀ a b : TyI, b ≠ .non → kitB (tiName a) (tiName b) = some (subT a b) := by
  intro a b h
  cases a <;> cases b <;> first | exact absurd rfl h | decide +kernel
def tyP (p : PV) (S : Store) : Option TyI := match p with
  | .non => some .non
  | .bl _ => some .bl
  | .int _ => some .int
  | .str _ => some .str
  | .tup _ => some .tup
  | .frl _ => some .lst
  | .loc a => match S a with
    | some (.lst _) => some .lst
    | some (.dic _) => some .dic
    | none => none
def isiS (t : TyI) (p : PV) (S : Store) (k : Kt) : Prop := match tyP p S with
  | some a => k (.bl (subT a t)) S
  | none => False
theorem ty_rep {K : PySem.W.Frag} {H : Hp} {S : Store} {p : PV} {x : V} {t : TyI} (ok : StOk K H S) (hp : RepV K H p x) (h : tyP p S = some t) : TyX K H x (.type (tiName t)) := by
  cases hp with
  | non => cases h; exact .base .non
  | bl b => cases h; exact .base (.bl b)
  | int b => cases h; exact .base (.int b)
  | str b => cases h; exact .base (.str b)
  | loc a =>
    unfold tyP at h
    dsimp only at h
    cases e : S a with
    | none => rw [e] at h; cases h
    | some m =>
      cases m with
      | lst ps =>
        rw [e] at h; cases h
        obtain ⟨ys, hy, _⟩ := ok.lst e
        exact .base (.lst hy)
      | dic kvs =>
        rw [e] at h; cases h
        obtain ⟨ys, hy, _⟩ := ok.dic e
        exact .base (.dK hy)
  | tup h1 h2 =>
    cases h
    rcases h1 with (h1 | ⟨o, h1⟩) | ⟨o, its, n, h1, h3, _⟩
    · exact .base (.tup h1)
    · exact .fTuple h1
    · exact .kTuple h1 h3
  | frl h1 h2 =>
    cases h
    rcases h1 with ⟨o, h1⟩ | ⟨o, its, n, h1, h3, _⟩
    · exact .base (.frz h1)
    · exact .kList h1 h3
theorem isi_ok {t : TyI} (ht : t ≠ .non) : CallR X (.builtin "isinstance") (fun xs H Q => ∃ p x S k, xs = [x, .ty (tiName t)] ∧ RepV X.K H p x ∧ StOk X.K H S ∧ isiS t p S k ∧ Post X.K H S k Q) := by
  intro pins s σ H xs us Q I r ⟨p, x, S, k, e, hp, ok, h, po⟩
  subst e
  unfold isiS at h
  cases e : tyP p S with
  | none => rw [e] at h; exact h.elim
  | some a =>
    rw [e] at h
    exact call_isi pins s σ H _ us Q I r ⟨x, .ty (tiName t), .type (tiName a), .type (tiName t), subT a t, rfl, .ty _, ty_rep ok hp e, kit_ty (kit_sub a t ht), po.here ok (.bl _) h⟩

/-! ### methods -/
abbrev OpM := PV → List PV → Store → Kt → Prop
def liftM (K : PySem.W.Frag) (T : String) (r : OpM) : V → List V → Hp → VK → Prop := fun x xs H Q => ∃ p ps S k, RepV K H p x ∧ RepVs K H ps xs ∧ StOk K H S ∧ r p ps S k ∧ Post K H S k Q
def appS : OpM
  | .loc a, [y], S, k => ∃ xs, S a = some (.lst xs) ∧ xs.length < sizeLine ∧ k .non (sup S a (.lst (xs ++ [y])))
  | _, _, _, _ => False
def popS : OpM
  | .loc a, [], S, k => ∃ xs y, S a = some (.lst xs) ∧ xs[xs.length - 1]? = some y ∧ k y (sup S a (.lst xs.dropLast))
  | _, _, _, _ => False
def popAtS : OpM
  | .loc a, [.int i], S, k => ∃ xs n y, S a = some (.lst xs) ∧ -(2 ^ 63) ≤ i ∧ i < 2 ^ 63 ∧ seqIndex? i xs.length = some n ∧ xs[n]? = some y ∧ k y (sup S a (.lst (xs.eraseIdx n)))
  | _, _, _, _ => False
def insS : OpM
  | .loc a, [.int i, y], S, k => ∃ xs, S a = some (.lst xs) ∧ xs.length < sizeLine ∧ 0 ≤ i ∧ i < 2 ^ 63 ∧ k .non (sup S a (.lst (xs.take i.toNat ++ [y] ++ xs.drop i.toNat)))
  | _, _, _, _ => False
def extS : OpM
  | .loc a, [.loc b], S, k => ∃ xs ys, S a = some (.lst xs) ∧ S b = some (.lst ys) ∧ xs.length + ys.length ≤ sizeLine ∧ k .non (sup S a (.lst (xs ++ ys)))
  | _, _, _, _ => False
theorem RepVs.erase {K : PySem.W.Frag} {H : Hp} : ∀ {ps : List PV} {vs : List V} (n : Nat), RepVs K H ps vs → RepVs K H (ps.eraseIdx n) (vs.eraseIdx n)
  | [], _, n, h => by cases h; exact .nil
  | p :: ps, _, 0, h => by
    cases h with
    | cons h1 h2 => exact h2
  | p :: ps, _, n + 1, h => by
    cases h with
    | cons h1 h2 => exact .cons h1 (RepVs.erase n h2)
theorem app_ok' : MtM X "list.append" (liftM X.K "list" appS) := by
  intro pins s σ H x xs v us Q I rx r ⟨p, ps, S, k, hp, hr, ok, h, po⟩
  cases hp <;> first | exact (show False from h).elim | skip
  match ps, h with
  | [], h => exact (show False from h).elim
  | _ :: _ :: _, h => exact (show False from h).elim
  | [y], h =>
    obtain ⟨z, rfl, hz⟩ := one_inv hr
    obtain ⟨qs, e, hl, hk⟩ := h
    obtain ⟨ys, hy, r1⟩ := ok.lst e
    exact mt_append pins s σ H _ _ v us Q I rx r ⟨_, ys, z, rfl, rfl, hy, by rw [← r1.length]; exact hl, po _ _ _ _ (Step.setl ok e hy (r1.app (.one hz))) .non hk⟩
theorem pop_ok : MtM X "list.pop" (liftM X.K "list" popS) := by
  intro pins s σ H x xs v us Q I rx r ⟨p, ps, S, k, hp, hr, ok, h, po⟩
  cases hp <;> first | exact (show False from h).elim | skip
  match ps, h with
  | _ :: _, h => exact (show False from h).elim
  | [], h =>
    cases hr.nil_inv
    obtain ⟨qs, y, e, hy, hk⟩ := h
    obtain ⟨ys, hx, r1⟩ := ok.lst e
    obtain ⟨z, hz, rz⟩ := r1.at hy
    have st := Step.setl ok e hx r1.dropLast
    exact mt_pop pins s σ H _ _ v us Q I rx r ⟨_, ys, z, rfl, rfl, hx, by rw [← r1.length]; exact hz, po _ _ _ _ st (RepV.keep (st.keeps ok) _ _ rz) hk⟩
theorem popAt_ok : MtM X "list.pop" (liftM X.K "list" popAtS) := by
  intro pins s σ H x xs v us Q I rx r ⟨p, ps, S, k, hp, hr, ok, h, po⟩
  cases hp <;> first | exact (show False from h).elim | skip
  match ps, h with
  | [], h => exact (show False from h).elim
  | a :: b :: c, h => exact (show False from by cases a <;> exact h).elim
  | [a], h =>
    obtain ⟨w, rfl, hw⟩ := one_inv hr
    cases hw <;> first | exact (show False from h).elim | skip
    obtain ⟨qs, n, y, e, h1, h2, hn, hy, hk⟩ := h
    obtain ⟨ys, hx, r1⟩ := ok.lst e
    obtain ⟨z, hz, rz⟩ := r1.at hy
    have st := Step.setl ok e hx (r1.erase n)
    exact mt_popAt pins s σ H _ _ v us Q I rx r ⟨_, ys, _, n, z, rfl, rfl, hx, h1, h2, by rw [← r1.length]; exact hn, hz, po _ _ _ _ st (RepV.keep (st.keeps ok) _ _ rz) hk⟩
theorem ins_ok : MtR X "list.insert" (liftM X.K "list" insS) := by
  intro pins s σ H x xs v us Q I rx r ⟨p, ps, S, k, hp, hr, ok, h, po⟩
  cases hp <;> first | exact (show False from h).elim | skip
  match ps, h with
  | [], h => exact (show False from h).elim
  | [a], h => exact (show False from by cases a <;> exact h).elim
  | a :: b :: c :: d, h => exact (show False from by cases a <;> exact h).elim
  | [a, b], h =>
    obtain ⟨w, z, rfl, hw, hz⟩ := two_inv hr
    cases hw <;> first | exact (show False from h).elim | skip
    obtain ⟨qs, e, hl, h1, h2, hk⟩ := h
    obtain ⟨ys, hx, r1⟩ := ok.lst e
    exact mt_insert pins s σ H _ _ v us Q I rx r ⟨_, ys, _, z, rfl, rfl, hx, by rw [← r1.length]; exact hl, h1, h2, po _ _ _ _ (Step.setl ok e hx (((r1.take _).app (.one hz)).app (r1.drop _))) .non hk⟩
theorem ext_ok : MtM X "list.extend" (liftM X.K "list" extS) := by
  intro pins s σ H x xs v us Q I rx r ⟨p, ps, S, k, hp, hr, ok, h, po⟩
  cases hp <;> first | exact (show False from h).elim | skip
  match ps, h with
  | [], h => exact (show False from h).elim
  | a :: b :: c, h => exact (show False from by cases a <;> exact h).elim
  | [a], h =>
    obtain ⟨w, rfl, hw⟩ := one_inv hr
    cases hw <;> first | exact (show False from h).elim | skip
    obtain ⟨qs, zs, e, e2, hl, hk⟩ := h
    obtain ⟨ys, hx, r1⟩ := ok.lst e
    obtain ⟨ws, hw2, r2⟩ := ok.lst e2
    exact mt_extend pins s σ H _ _ v us Q I rx r ⟨_, _, ys, ws, rfl, rfl, hx, hw2, by rw [← r1.length, ← r2.length]; exact hl, po _ _ _ _ (Step.setl ok e hx (r1.app r2)) .non hk⟩
end
end PL
namespace PL
open PySem PySem.Spec PyProof.Rows L2

/-! ### the tree of the subset -/
inductive BO where | add | sub | mul | fdiv | mod | pow | shl | shr
  deriving DecidableEq
inductive CO where | lt | le | gt | ge | eq | ne | inn | nin
  deriving DecidableEq
inductive BI where | len | abs | max | min | sum | srt | int | str | tup | lst
  deriving DecidableEq
inductive MI where | app | pop | popAt | ins | ext
  deriving DecidableEq
mutual
inductive Tg where
  | nam (i : Nat)
  | tup (ts : Tgs)
inductive Tgs where
  | nil
  | cons (t : Tg) (ts : Tgs)
end
mutual
inductive Ex where
  | nam (i : Nat)
  | glo (x : Str)
  | int (i : Int) | str (x : Str) | bl (b : Bool) | non
  | tup (es : Exs) | lst (es : Exs) | dic (ks : List Key) (vs : Exs)
  | bin (o : BO) (a b : Ex) | neg (a : Ex)
  | cmp (o : CO) (a b : Ex) | isn (n : Bool) (a : Ex) | chn (o o' : CO) (a b c : Ex)
  | bop (u : Bool) (es : Exs) | not (a : Ex) | ife (c a b : Ex)
  | idx (a b : Ex) | slc (a : Ex) (lo hi : Exs)
  | call (f : Nat) (es : Exs) | callk (f : Nat) (es : Exs) (ks : List Str) (vs : Exs) (pm : List Nat)
  | bi (b : BI) (es : Exs) | isi (a : Ex) (t : TyI) | mth (m : MI) (o : Ex) (es : Exs)
  | lc (elt : Ex) (tg : Tg) (it : It) (ifs : Exs) (own : List (Str × Nat))
inductive Exs where
  | nil
  | cons (e : Ex) (es : Exs)
inductive It where
  | val (e : Ex)
  | rng (es : Exs)
  | enu (e : Ex)
end
mutual
inductive Sn where
  | asg (tg : Tg) (e : Ex) | par (i j : Nat) (es : Exs)
  | seti (o i e : Ex) | aug (i : Nat) (o : BO) (e : Ex) | augi (o : BO) (a i e : Ex)
  | exp (e : Ex) | ret (e : Ex) | retn
  | ife (c : Ex) (a b : Sns) | whl (c : Ex) (a : Sns) | for_ (tg : Tg) (it : It) (a : Sns)
  | pas | brk | cnt
inductive Sns where
  | nil
  | cons (s : Sn) (r : Sns)
end

/-! ### what it means -/
abbrev PEnv := List (Option PV)
def getE : PEnv → Nat → Option PV
  | [], _ => none
  | o :: _, 0 => o
  | _ :: r, i + 1 => getE r i
def setE : PEnv → Nat → Option PV → PEnv
  | [], _, _ => []
  | _ :: r, 0, p => p :: r
  | o :: r, i + 1, p => o :: setE r i p
def wipeE (env : PEnv) : List (Str × Nat) → PEnv
  | [] => env
  | v :: vs => setE (wipeE env vs) v.2 none
structure Exn where
  c : Str
  fs : List (Str × PV)
abbrev Xt := Exn → Store → Prop
structure Tab where
  fn : Nat → List PV → Store → Kt → Xt → Prop
  con : Str → Option PV
def perm {α : Type} (pm : List Nat) (xs : List α) : List α := pm.filterMap fun j => xs[j]?
def binS : BO → Op2
  | .add => addS | .sub => subS | .mul => mulS | .fdiv => divS | .mod => modS | .pow => powS | .shl => shlS | .shr => shrS
def cmpS : CO → Op2
  | .lt => ltS | .le => leS | .gt => gtS | .ge => geS | .eq => eqS | .ne => neS | .inn => inS false | .nin => inS true
def augS (o : BO) : Op2 := fun p q S k => match o, p, q with
  | .add, .int i, .int j => k (.int (i + j)) S
  | .sub, .int i, .int j => k (.int (i - j)) S
  | .mul, .int i, .int j => mulOk i j ∧ k (.int (i * j)) S
  | _, _, _ => False
def biS : BI → OpN
  | .len => lenS | .abs => absS | .max => maxS | .min => minS | .sum => sumS | .srt => srtS | .int => intS | .str => strS | .tup => tupS | .lst => lstS
def mtS : MI → OpM
  | .app => appS | .pop => popS | .popAt => popAtS | .ins => insS | .ext => extS
def mtTy (m : MI) (p : PV) (S : Store) : Prop := ∃ a xs, p = .loc a ∧ S a = some (.lst xs)
def negS : PV → Store → Kt → Prop
  | .int i, S, k => k (.int (-i)) S
  | _, _, _ => False
def dicOf (ks : List Key) (ps : List PV) : List (Key × PV) := (ks.zip ps).foldl (fun acc kv => putKP acc kv.1 kv.2) []
def partS : List PV → (Option Int → Prop) → Prop
  | [], k => k none
  | [.int i], k => k (some i)
  | _, _ => False
def chnS (r : PV) (S : Store) (k1 k0 : Prop) : Prop := match r with
  | .bl true => k1
  | .bl false => k0
  | _ => False
mutual
def tgE : Tg → PV → PEnv → Option PEnv
  | .nam i, p, env => some (setE env i (some p))
  | .tup ts, .tup ps, env => tgsE ts ps env
  | .tup _, _, _ => none
def tgsE : Tgs → List PV → PEnv → Option PEnv
  | .nil, [], env => some env
  | .cons t ts, p :: ps, env => match tgE t p env with
    | some env' => tgsE ts ps env'
    | none => none
  | .nil, _ :: _, _ => none
  | .cons _ _, [], _ => none
end
def sTg (tg : Tg) (p : PV) (env : PEnv) (k : PEnv → Prop) : Prop := match tgE tg p env with
  | some env' => k env'
  | none => False
abbrev Ki := List PV → (Store → Prop) → Store → Prop
def itS (p : PV) (S : Store) (k : Ki) : Prop := match p with
  | .tup xs => k xs (fun _ => True) S
  | .frl xs => k xs (fun _ => True) S
  | .str z => k (z.cps.toList.map fun c => .str ⟨#[c]⟩) (fun _ => True) S
  | .loc a => ∃ xs, S a = some (.lst xs) ∧ k xs (fun S' => S' a = some (.lst xs)) S
  | _ => False
def enS (p : PV) (S : Store) (k : Ki) : Prop := ∃ xs, k (xs.zipIdx.map fun xi => .tup [.int (xi.2 : Nat), xi.1]) (fun S' => listOf' p S' xs) S ∧ listOf' p S xs
def rngL (lo : Int) (n : Nat) : List PV := (List.range n).map fun (m : Nat) => .int (lo + m)
def rngLC (lo c : Int) (n : Nat) : List PV := (List.range n).map fun (m : Nat) => .int (lo + (m : Nat) * c)
def rngS : List PV → (List PV → Prop) → Prop
  | [.int j], k => (-(2 ^ 62) ≤ j ∧ j < 2 ^ 62) ∧ k (rngL 0 j.toNat)
  | [.int i, .int j], k => (-(2 ^ 62) ≤ i ∧ i < 2 ^ 62 ∧ -(2 ^ 62) ≤ j ∧ j < 2 ^ 62) ∧ k (rngL i (j - i).toNat)
  | [.int i, .int j, .int c], k => ∃ n, RgC i j c n ∧ k (rngLC i c n)
  | _, _ => False
def loopC (stay : Store → Prop) (step : PV → Store → (Option PV → Store → Prop) → Prop) (done : List PV → Store → Prop) : List PV → List PV → Store → Prop
  | [], acc, S => stay S ∧ done acc S
  | p :: ps, acc, S => stay S ∧ step p S fun r S' => loopC stay step done ps (match r with | some y => acc ++ [y] | none => acc) S'
def ifS (bs : List PV) (S : Store) (k1 k0 : Prop) : Prop := match bs with
  | [] => k1
  | [p] => truS p S fun b => if b = true then k1 else k0
  | _ => False
section
variable (T : Tab)
mutual
def sE : Ex → PEnv → Store → Kt → Xt → Prop
  | .nam i, env, S, k, _ => match getE env i with | some p => k p S | none => False
  | .glo n, _, S, k, _ => match T.con n with | some p => k p S | none => False
  | .int i, _, S, k, _ => k (.int i) S
  | .str i, _, S, k, _ => k (.str i) S
  | .bl i, _, S, k, _ => k (.bl i) S
  | .non, _, S, k, _ => k .non S
  | .tup es, env, S, k, x => sEs es env S (fun ps S1 => k (.tup ps) S1) x
  | .lst es, env, S, k, x => sEs es env S (fun ps S1 => ∀ p, S1 p = none → k (.loc p) (sup S1 p (.lst ps))) x
  | .dic ks vs, env, S, k, x => sEs vs env S (fun ps S1 => ∀ p, S1 p = none → k (.loc p) (sup S1 p (.dic (dicOf ks ps)))) x
  | .bin o a b, env, S, k, x => sE a env S (fun p S1 => sE b env S1 (fun q S2 => binS o p q S2 k) x) x
  | .neg a, env, S, k, x => sE a env S (fun p S1 => negS p S1 k) x
  | .cmp o a b, env, S, k, x => sE a env S (fun p S1 => sE b env S1 (fun q S2 => cmpS o p q S2 k) x) x
  | .isn n a, env, S, k, x => sE a env S (fun p S1 => k (.bl (if n then !isNon p else isNon p)) S1) x
  | .chn o o' a b c, env, S, k, x => sE a env S (fun p S1 => sE b env S1 (fun q S2 => cmpS o p q S2 fun r S3 =>
      chnS r S3 (sE c env S3 (fun t S4 => cmpS o' q t S4 k) x) (k (.bl false) S3)) x) x
  | .bop u es, env, S, k, x => sB u es env S k x
  | .not a, env, S, k, x => sE a env S (fun p S1 => truS p S1 fun b => k (.bl (!b)) S1) x
  | .ife c a b, env, S, k, x => sE c env S (fun p S1 => truS p S1 fun t => if t = true then sE a env S1 k x else sE b env S1 k x) x
  | .idx a b, env, S, k, x => sE a env S (fun p S1 => sE b env S1 (fun q S2 => ixS p q S2 k) x) x
  | .slc a lo hi, env, S, k, x => sE a env S (fun p S1 => sEs lo env S1 (fun ls S2 => partS ls fun l => sEs hi env S2 (fun hs S3 => partS hs fun h => slS p l h S3 k) x) x) x
  | .call f es, env, S, k, x => sEs es env S (fun ps S1 => T.fn f ps S1 k x) x
  | .callk f es _ vs pm, env, S, k, x => sEs es env S (fun ps S1 => sEs vs env S1 (fun qs S2 => T.fn f (perm pm (ps ++ qs)) S2 k x) x) x
  | .bi b es, env, S, k, x => sEs es env S (fun ps S1 => biS b ps S1 k) x
  | .isi a t, env, S, k, x => sE a env S (fun p S1 => isiS t p S1 k) x
  | .mth m o es, env, S, k, x => sE o env S (fun p S1 => mtTy m p S1 ∧ sEs es env S1 (fun ps S2 => mtS m p ps S2 k) x) x
  | .lc elt tg it ifs own, env, S, k, x => sI it env S (fun items stay S1 => items.length ≤ sizeLine ∧
      loopC stay (fun p S2 kk => sTg tg p (wipeE env own) fun env2 => sEs ifs env2 S2 (fun bs S3 => ifS bs S3 (sE elt env2 S3 (fun r S4 => kk (some r) S4) (fun _ _ => False)) (kk none S3)) (fun _ _ => False))
        (fun acc S5 => ∀ q, S5 q = none → k (.loc q) (sup S5 q (.lst acc))) items [] S1) x
def sEs : Exs → PEnv → Store → (List PV → Store → Prop) → Xt → Prop
  | .nil, _, S, k, _ => k [] S
  | .cons e es, env, S, k, x => sE e env S (fun p S1 => sEs es env S1 (fun ps S2 => k (p :: ps) S2) x) x
def sB (u : Bool) : Exs → PEnv → Store → Kt → Xt → Prop
  | .nil, _, _, _, _ => False
  | .cons e .nil, env, S, k, x => sE e env S k x
  | .cons e (.cons e' es), env, S, k, x => sE e env S (fun p S1 => truS p S1 fun b => if b = u then sB u (.cons e' es) env S1 k x else k p S1) x
def sI : It → PEnv → Store → Ki → Xt → Prop
  | .val e, env, S, k, x => sE e env S (fun p S1 => itS p S1 k) x
  | .rng es, env, S, k, x => sEs es env S (fun ps S1 => rngS ps fun items => k items (fun _ => True) S1) x
  | .enu e, env, S, k, x => sE e env S (fun p S1 => enS p S1 k) x
end
end
/-- as a test -/
def sT (T : Tab) (e : Ex) (env : PEnv) (S : Store) (k : Bool → Store → Prop) (x : Xt) : Prop := sE T e env S (fun p S1 => truS p S1 fun b => k b S1) x

structure SK where
  nx : PEnv → Store → Prop
  rt : PV → Store → Prop
  bk : PEnv → Store → Prop
  ct : PEnv → Store → Prop
  ex : Exn → PEnv → Store → Prop
def runFor (stay : Store → Prop) (step : PV → PEnv → Store → (PEnv → Store → Prop) → Prop) (done : PEnv → Store → Prop) : List PV → PEnv → Store → Prop
  | [], env, S => stay S ∧ done env S
  | p :: ps, env, S => stay S ∧ step p env S fun env' S' => runFor stay step done ps env' S'
section
variable (T : Tab)
mutual
def sS : Sn → PEnv → Store → SK → Prop
  | .asg tg e, env, S, κ => sE T e env S (fun p S1 => sTg tg p env fun env2 => κ.nx env2 S1) (fun ex S' => κ.ex ex env S')
  | .par i j es, env, S, κ => sEs T es env S (fun ps S1 => ∃ p q, ps = [p, q] ∧ κ.nx (setE (setE env i (some p)) j (some q)) S1) (fun ex S' => κ.ex ex env S')
  | .seti o i e, env, S, κ => sE T e env S (fun v S1 => sE T o env S1 (fun p S2 => sE T i env S2 (fun q S3 => setS p q v S3 fun S4 => κ.nx env S4) (fun ex S' => κ.ex ex env S')) (fun ex S' => κ.ex ex env S')) (fun ex S' => κ.ex ex env S')
  | .aug i o e, env, S, κ => match getE env i with
    | some p => sE T e env S (fun q S1 => augS o p q S1 fun r S2 => κ.nx (setE env i (some r)) S2) (fun ex S' => κ.ex ex env S')
    | none => False
  | .augi o a i e, env, S, κ => sE T a env S (fun p S1 => (∃ ad, p = .loc ad) ∧ sE T i env S1 (fun q S2 => ixS p q S2 fun v S3 => sE T e env S3 (fun w S4 => augS o v w S4 fun z S5 => setS p q z S5 fun S6 => κ.nx env S6)
      (fun ex S' => κ.ex ex env S')) (fun ex S' => κ.ex ex env S')) (fun ex S' => κ.ex ex env S')
  | .exp e, env, S, κ => sE T e env S (fun _ S1 => κ.nx env S1) (fun ex S' => κ.ex ex env S')
  | .ret e, env, S, κ => sE T e env S (fun p S1 => κ.rt p S1) (fun ex S' => κ.ex ex env S')
  | .retn, env, S, κ => κ.rt .non S
  | .ife c a b, env, S, κ => sT T c env S (fun t S1 => if t = true then sSs a env S1 κ else sSs b env S1 κ) (fun ex S' => κ.ex ex env S')
  | .whl c a, env, S, κ => ∃ I : Nat → PEnv → Store → Prop, (∃ m, I m env S) ∧ ∀ m env S, I m env S →
      sT T c env S (fun t S1 => if t = true then sSs a env S1 { κ with nx := fun env' S' => ∃ m', m' < m ∧ I m' env' S', ct := fun env' S' => ∃ m', m' < m ∧ I m' env' S', bk := κ.nx } else κ.nx env S1) (fun ex S' => κ.ex ex env S')
  | .for_ tg it a, env, S, κ => sI T it env S (fun items stay S1 => runFor stay (fun p env1 S2 nxt => sTg tg p env1 fun env2 => sSs a env2 S2 { κ with nx := nxt, ct := nxt, bk := κ.nx }) κ.nx items env S1) (fun ex S' => κ.ex ex env S')
  | .pas, env, S, κ => κ.nx env S
  | .brk, env, S, κ => κ.bk env S
  | .cnt, env, S, κ => κ.ct env S
def sSs : Sns → PEnv → Store → SK → Prop
  | .nil, env, S, κ => κ.nx env S
  | .cons s r, env, S, κ => sS s env S { κ with nx := fun env' S' => sSs r env' S' κ }
end
end
/-- a def -/
structure Fd where
  name : Str
  ps : List Str
  N : List Str
  body : Sns
def startE (n : Nat) (ps : List PV) : PEnv := ps.map some ++ List.replicate (n - ps.length) none
def fnS (T : Tab) (f : Fd) (args : List PV) (S : Store) (k : Kt) (x : Xt) : Prop :=
  args.length = f.ps.length ∧ sSs T f.body (startE f.N.length args) S { nx := fun _ S' => ∃ S'', Sub S'' S' ∧ k .non S'', rt := fun v S' => ∃ S'', Sub S'' S' ∧ k v S'', bk := fun _ _ => False, ct := fun _ _ => False, ex := fun e _ S' => x e S' }
/-- the table of a program's defs, by the depth of calls -/
def Tb (P : List Fd) (con : Str → Option PV) : Nat → Tab
  | 0 => ⟨fun _ _ _ _ _ => False, con⟩
  | d + 1 => ⟨fun f args S k x => match P[f]? with | some fd => fnS (Tb P con d) fd args S k x | none => False, con⟩
end PL
namespace PL
open PySem PySem.Spec PyProof.Rows L2

/-! ### more is asked, more is given -/
def KLe (k k' : Kt) : Prop := ∀ p S, k p S → k' p S
def XLe (x x' : Xt) : Prop := ∀ e S, x e S → x' e S
def Mono2 (r : Op2) : Prop := ∀ p q S k k', KLe k k' → r p q S k → r p q S k'
def MonoN (r : OpN) : Prop := ∀ ps S k k', KLe k k' → r ps S k → r ps S k'
def MonoM (r : OpM) : Prop := ∀ p ps S k k', KLe k k' → r p ps S k → r p ps S k'
theorem mono_add : Mono2 addS := fun p q S k k' hk h => by
  cases p <;> cases q <;> first
    | exact h.elim
    | exact hk _ _ h
    | exact ⟨h.1, hk _ _ h.2⟩
    | (obtain ⟨i, j, h1, h2, h3, h4⟩ := h; exact ⟨i, j, h1, h2, h3, fun p n => hk _ _ (h4 p n)⟩)
theorem mono_sub : Mono2 subS := fun p q S k k' hk h => by cases p <;> cases q <;> first | exact h.elim | exact hk _ _ h
theorem mono_mul : Mono2 mulS := fun p q S k k' hk h => by
  cases p <;> cases q <;> first
    | exact h.elim
    | exact ⟨h.1, hk _ _ h.2⟩
    | (obtain ⟨i, h1, h2, h3, h4, h5⟩ := h; exact ⟨i, h1, h2, h3, h4, fun p n => hk _ _ (h5 p n)⟩)
theorem mono_div : Mono2 divS := fun p q S k k' hk h => by cases p <;> cases q <;> first | exact h.elim | exact ⟨h.1, hk _ _ h.2⟩
theorem mono_mod : Mono2 modS := fun p q S k k' hk h => by cases p <;> cases q <;> first | exact h.elim | exact ⟨h.1, hk _ _ h.2⟩
theorem mono_pow : Mono2 powS := fun p q S k k' hk h => by cases p <;> cases q <;> first | exact h.elim | exact ⟨h.1, hk _ _ h.2⟩
theorem mono_shl : Mono2 shlS := fun p q S k k' hk h => by cases p <;> cases q <;> first | exact h.elim | exact ⟨h.1, hk _ _ h.2⟩
theorem mono_shr : Mono2 shrS := fun p q S k k' hk h => by cases p <;> cases q <;> first | exact h.elim | exact ⟨h.1, hk _ _ h.2⟩
theorem mono_eq : Mono2 eqS := fun p q S k k' hk h => by
  rcases h with ⟨h1, h2⟩ | ⟨h1, h2, h3⟩
  · exact .inl ⟨h1, hk _ _ h2⟩
  · exact .inr ⟨h1, h2, hk _ _ h3⟩
theorem mono_ne : Mono2 neS := fun p q S k k' hk h => by
  rcases h with ⟨h1, h2⟩ | ⟨h1, h2, h3⟩
  · exact .inl ⟨h1, hk _ _ h2⟩
  · exact .inr ⟨h1, h2, hk _ _ h3⟩
theorem mono_lt : Mono2 ltS := fun p q S k k' hk h => by cases p <;> cases q <;> first | exact h.elim | exact hk _ _ h
theorem mono_le : Mono2 leS := fun p q S k k' hk h => by cases p <;> cases q <;> first | exact h.elim | exact hk _ _ h
theorem mono_gt : Mono2 gtS := fun p q S k k' hk h => by cases p <;> cases q <;> first | exact h.elim | exact hk _ _ h
theorem mono_ge : Mono2 geS := fun p q S k k' hk h => by cases p <;> cases q <;> first | exact h.elim | exact hk _ _ h
theorem mono_in (n : Bool) : Mono2 (inS n) := fun p q S k k' hk h => by
  cases q with
  | non => exact h.elim
  | bl _ => exact h.elim
  | int _ => exact h.elim
  | str _ => cases p <;> first | exact h.elim | exact hk _ _ h
  | tup _ => exact ⟨h.1, h.2.1, hk _ _ h.2.2⟩
  | frl _ => exact ⟨h.1, h.2.1, hk _ _ h.2.2⟩
  | loc _ =>
    rcases h with ⟨xs, h1, h2, h3, h4⟩ | ⟨kvs, kk, h1, h2, h3⟩
    · exact .inl ⟨xs, h1, h2, h3, hk _ _ h4⟩
    · exact .inr ⟨kvs, kk, h1, h2, hk _ _ h3⟩
theorem mono_bin (o : BO) : Mono2 (binS o) := by cases o <;> first | exact mono_add | exact mono_sub | exact mono_mul | exact mono_div | exact mono_mod | exact mono_pow | exact mono_shl | exact mono_shr
theorem mono_cmp (o : CO) : Mono2 (cmpS o) := by cases o <;> first | exact mono_lt | exact mono_le | exact mono_gt | exact mono_ge | exact mono_eq | exact mono_ne | exact mono_in _
theorem mono_ix : Mono2 ixS := fun p q S k k' hk h => by
  cases p with
  | non => exact h.elim
  | bl _ => exact h.elim
  | int _ => exact h.elim
  | str _ => cases q <;> first | exact h.elim | (obtain ⟨h1, cc, h2, h3⟩ := h; exact ⟨h1, cc, h2, hk _ _ h3⟩)
  | tup _ => cases q <;> first | exact h.elim | (obtain ⟨v, h2, h3⟩ := h; exact ⟨v, h2, hk _ _ h3⟩)
  | frl _ => cases q <;> first | exact h.elim | (obtain ⟨v, h2, h3⟩ := h; exact ⟨v, h2, hk _ _ h3⟩)
  | loc _ =>
    rcases h with ⟨xs, i, v, h1, h2, h3, h4⟩ | ⟨kvs, kk, v, h1, h2, h3, h4⟩
    · exact .inl ⟨xs, i, v, h1, h2, h3, hk _ _ h4⟩
    · exact .inr ⟨kvs, kk, v, h1, h2, h3, hk _ _ h4⟩
theorem mono_sl (p : PV) (l u : Option Int) (S : Store) (k k' : Kt) (hk : KLe k k') (h : slS p l u S k) : slS p l u S k' := by
  cases p with
  | non => exact h.elim
  | bl _ => exact h.elim
  | int _ => exact h.elim
  | str _ => exact ⟨h.1, hk _ _ h.2⟩
  | tup _ => exact hk _ _ h
  | frl _ => exact fun q n => hk _ _ (h q n)
  | loc _ => obtain ⟨xs, h1, h2⟩ := h; exact ⟨xs, h1, fun q n => hk _ _ (h2 q n)⟩
theorem mono_tru {p : PV} {S : Store} {k k' : Bool → Prop} (hk : ∀ b, k b → k' b) (h : truS p S k) : truS p S k' := by
  cases p with
  | non => exact hk _ h
  | bl _ => exact hk _ h
  | int _ => exact hk _ h
  | str _ => exact ⟨h.1, hk _ h.2⟩
  | tup _ => exact hk _ h
  | frl _ => exact hk _ h
  | loc _ =>
    rcases h with ⟨xs, h1, h2⟩ | ⟨xs, h1, h2⟩
    · exact .inl ⟨xs, h1, hk _ h2⟩
    · exact .inr ⟨xs, h1, hk _ h2⟩
theorem mono_bi (b : BI) : MonoN (biS b) := by
  intro ps S k k' hk h
  cases b
  · match ps, h with
    | [], h => exact h.elim
    | [p], h =>
      cases p <;> first
        | exact h.elim
        | exact ⟨h.1, hk _ _ h.2⟩
        | exact hk _ _ h
        | (rcases h with ⟨xs, h1, h2⟩ | ⟨xs, h1, h2⟩
           · exact .inl ⟨xs, h1, hk _ _ h2⟩
           · exact .inr ⟨xs, h1, hk _ _ h2⟩)
    | p :: q :: r, h => exact (show False from by cases p <;> exact h).elim
  · match ps, h with
    | [], h => exact h.elim
    | [p], h => cases p <;> first | exact h.elim | exact hk _ _ h
    | p :: q :: r, h => exact (show False from by cases p <;> exact h).elim
  · match ps, h with
    | [], h => exact h.elim
    | [p], h =>
      have h' : ∃ ns : List Int, listOf' p S (ns.map PV.int) ∧ 0 < ns.length ∧ ∀ m, m ∈ ns → (∀ y, y ∈ ns → y ≤ m) → k (.int m) S := by cases p <;> exact h
      obtain ⟨ns, h1, h2, h3⟩ := h'
      have g : ∃ ns : List Int, listOf' p S (ns.map PV.int) ∧ 0 < ns.length ∧ ∀ m, m ∈ ns → (∀ y, y ∈ ns → y ≤ m) → k' (.int m) S := ⟨ns, h1, h2, fun m a b => hk _ _ (h3 m a b)⟩
      cases p <;> exact g
    | [p, q], h => cases p <;> cases q <;> first | exact h.elim | exact hk _ _ h
    | p :: q :: r :: t, h => exact (show False from by cases p <;> first | exact h | (cases q <;> exact h)).elim
  · match ps, h with
    | [], h => exact h.elim
    | [p], h =>
      have h' : ∃ ns : List Int, listOf' p S (ns.map PV.int) ∧ 0 < ns.length ∧ ∀ m, m ∈ ns → (∀ y, y ∈ ns → m ≤ y) → k (.int m) S := by cases p <;> exact h
      obtain ⟨ns, h1, h2, h3⟩ := h'
      have g : ∃ ns : List Int, listOf' p S (ns.map PV.int) ∧ 0 < ns.length ∧ ∀ m, m ∈ ns → (∀ y, y ∈ ns → m ≤ y) → k' (.int m) S := ⟨ns, h1, h2, fun m a b => hk _ _ (h3 m a b)⟩
      cases p <;> exact g
    | [p, q], h => cases p <;> cases q <;> first | exact h.elim | exact hk _ _ h
    | p :: q :: r :: t, h => exact (show False from by cases p <;> first | exact h | (cases q <;> exact h)).elim
  · match ps, h with
    | [], h => exact h.elim
    | [p], h => obtain ⟨ns, h1, h2⟩ := h; exact ⟨ns, h1, hk _ _ h2⟩
    | p :: q :: r, h => exact (show False from h).elim
  · match ps, h with
    | [], h => exact h.elim
    | [p], h => obtain ⟨ns, h1, h2⟩ := h; exact ⟨ns, h1, fun a b c d e => hk _ _ (h2 a b c d e)⟩
    | p :: q :: r, h => exact (show False from h).elim
  · match ps, h with
    | [], h => exact h.elim
    | [p], h => cases p <;> first | exact h.elim | exact hk _ _ h
    | p :: q :: r, h => exact (show False from by cases p <;> exact h).elim
  · match ps, h with
    | [], h => exact h.elim
    | [p], h => cases p <;> first | exact h.elim | exact ⟨h.1, hk _ _ h.2⟩
    | p :: q :: r, h => exact (show False from by cases p <;> exact h).elim
  · match ps, h with
    | [], h => exact h.elim
    | [p], h => obtain ⟨ns, h1, h2⟩ := h; exact ⟨ns, h1, hk _ _ h2⟩
    | p :: q :: r, h => exact (show False from h).elim
  · match ps, h with
    | [], h => exact h.elim
    | [p], h => obtain ⟨ns, h1, h2⟩ := h; exact ⟨ns, h1, fun a b => hk _ _ (h2 a b)⟩
    | p :: q :: r, h => exact (show False from h).elim
theorem mono_mt (m : MI) : MonoM (mtS m) := by
  intro p ps S k k' hk h
  cases m
  all_goals cases p <;> first | exact h.elim | skip
  · match ps, h with
    | [], h => exact h.elim
    | [y], h => obtain ⟨xs, h1, h2, h3⟩ := h; exact ⟨xs, h1, h2, hk _ _ h3⟩
    | p :: q :: r, h => exact h.elim
  · match ps, h with
    | [], h => obtain ⟨xs, y, h1, h2, h3⟩ := h; exact ⟨xs, y, h1, h2, hk _ _ h3⟩
    | p :: q, h => exact h.elim
  · match ps, h with
    | [], h => exact h.elim
    | [y], h => cases y <;> first | exact h.elim | (obtain ⟨xs, n, y, h1, h2, h3, h4, h5, h6⟩ := h; exact ⟨xs, n, y, h1, h2, h3, h4, h5, hk _ _ h6⟩)
    | p :: q :: r, h => exact (show False from by cases p <;> exact h).elim
  · match ps, h with
    | [], h => exact h.elim
    | [p], h => exact (show False from by cases p <;> exact h).elim
    | [y, z], h => cases y <;> first | exact h.elim | (obtain ⟨xs, h1, h2, h3, h4, h5⟩ := h; exact ⟨xs, h1, h2, h3, h4, hk _ _ h5⟩)
    | p :: q :: r :: t, h => exact (show False from by cases p <;> exact h).elim
  · match ps, h with
    | [], h => exact h.elim
    | [y], h => cases y <;> first | exact h.elim | (obtain ⟨xs, ys, h1, h2, h3, h4⟩ := h; exact ⟨xs, ys, h1, h2, h3, hk _ _ h4⟩)
    | p :: q :: r, h => exact (show False from by cases p <;> exact h).elim
theorem mono_isi {t : TyI} {p : PV} {S : Store} {k k' : Kt} (hk : KLe k k') (h : isiS t p S k) : isiS t p S k' := by
  unfold isiS at h ⊢
  cases e : tyP p S with
  | none => rw [e] at h; exact h.elim
  | some a => rw [e] at h; exact hk _ _ h
theorem mono_neg {p : PV} {S : Store} {k k' : Kt} (hk : KLe k k') (h : negS p S k) : negS p S k' := by
  cases p <;> first | exact h.elim | exact hk _ _ h
theorem mono_part {ls : List PV} {k k' : Option Int → Prop} (hk : ∀ o, k o → k' o) (h : partS ls k) : partS ls k' := by
  match ls, h with
  | [], h => exact hk _ h
  | [p], h => cases p <;> first | exact h.elim | exact hk _ h
  | p :: q :: r, h => exact (show False from by cases p <;> exact h).elim
theorem mono_chn {r : PV} {S : Store} {A A' B B' : Prop} (ha : A → A') (hb : B → B') (h : chnS r S A B) : chnS r S A' B' := by
  cases r <;> first | exact h.elim | skip
  rename_i b
  cases b
  · exact hb h
  · exact ha h
theorem mono_if {bs : List PV} {S : Store} {A A' B B' : Prop} (ha : A → A') (hb : B → B') (h : ifS bs S A B) : ifS bs S A' B' := by
  match bs, h with
  | [], h => exact ha h
  | [p], h =>
    have h' : truS p S (fun b => if b = true then A else B) := h
    show truS p S (fun b => if b = true then A' else B')
    refine mono_tru (fun b q => ?_) h'
    cases b with
    | true => rw [if_pos rfl] at q ⊢; exact ha q
    | false => rw [if_neg Bool.false_ne_true] at q ⊢; exact hb q
  | p :: q :: r, h => exact h.elim
theorem mono_tg {tg : Tg} {p : PV} {env : PEnv} {k k' : PEnv → Prop} (hk : ∀ e, k e → k' e) (h : sTg tg p env k) : sTg tg p env k' := by
  unfold sTg at h ⊢
  cases e : tgE tg p env with
  | none => rw [e] at h; exact h.elim
  | some a => rw [e] at h; exact hk _ h
theorem mono_it {p : PV} {S : Store} {k k' : Ki} (hk : ∀ a b c, k a b c → k' a b c) (h : itS p S k) : itS p S k' := by
  cases p <;> first | exact h.elim | exact hk _ _ _ h | skip
  obtain ⟨xs, h1, h2⟩ := h
  exact ⟨xs, h1, hk _ _ _ h2⟩
theorem mono_en {p : PV} {S : Store} {k k' : Ki} (hk : ∀ a b c, k a b c → k' a b c) (h : enS p S k) : enS p S k' := by
  obtain ⟨xs, h1, h2⟩ := h
  exact ⟨xs, hk _ _ _ h1, h2⟩
theorem mono_rng {ps : List PV} {k k' : List PV → Prop} (hk : ∀ a, k a → k' a) (h : rngS ps k) : rngS ps k' := by
  match ps, h with
  | [], h => exact h.elim
  | [p], h => cases p <;> first | exact h.elim | exact ⟨h.1, hk _ h.2⟩
  | [p, q], h => cases p <;> cases q <;> first | exact h.elim | exact ⟨h.1, hk _ h.2⟩
  | [p, q, r], h => cases p <;> cases q <;> cases r <;> first | exact h.elim | (obtain ⟨n, h1, h2⟩ := h; exact ⟨n, h1, hk _ h2⟩)
  | p :: q :: r :: t :: u, h => exact (show False from by cases p <;> first | exact h | (cases q <;> first | exact h | (cases r <;> exact h))).elim
theorem mono_loopC {stay : Store → Prop} {step : PV → Store → (Option PV → Store → Prop) → Prop} (hs : ∀ p S k k', (∀ r S', k r S' → k' r S') → step p S k → step p S k') {done done' : List PV → Store → Prop} (hd : ∀ a S, done a S → done' a S) :
    ∀ (items acc : List PV) (S : Store), loopC stay step done items acc S → loopC stay step done' items acc S
  | [], acc, S, h => ⟨h.1, hd _ _ h.2⟩
  | p :: ps, acc, S, h => ⟨h.1, hs p S _ _ (fun r S' q => mono_loopC hs hd ps _ S' q) h.2⟩
structure TMono (T : Tab) : Prop where
  m : ∀ f ps S k k' x x', KLe k k' → XLe x x' → T.fn f ps S k x → T.fn f ps S k' x'
section
variable {T : Tab} (tm : TMono T)
include tm
mutual
theorem monoE : ∀ (q : Ex) (env : PEnv) (S : Store) (k k' : Kt) (x x' : Xt), KLe k k' → XLe x x' → sE T q env S k x → sE T q env S k' x'
  | .nam i, env, S, k, k', x, x', hk, hx, h => by
    simp only [sE] at h ⊢
    cases e : getE env i with
    | none => rw [e] at h; exact h.elim
    | some p => rw [e] at h; exact hk _ _ h
  | .glo n, env, S, k, k', x, x', hk, hx, h => by
    simp only [sE] at h ⊢
    cases e : T.con n with
    | none => rw [e] at h; exact h.elim
    | some p => rw [e] at h; exact hk _ _ h
  | .int i, env, S, k, k', x, x', hk, hx, h => hk _ _ h
  | .str i, env, S, k, k', x, x', hk, hx, h => hk _ _ h
  | .bl i, env, S, k, k', x, x', hk, hx, h => hk _ _ h
  | .non, env, S, k, k', x, x', hk, hx, h => hk _ _ h
  | .tup es, env, S, k, k', x, x', hk, hx, h => monoEs es env S _ _ x x' (fun ps S1 q => hk _ _ q) hx h
  | .lst es, env, S, k, k', x, x', hk, hx, h => monoEs es env S _ _ x x' (fun ps S1 q p n => hk _ _ (q p n)) hx h
  | .dic ks vs, env, S, k, k', x, x', hk, hx, h => monoEs vs env S _ _ x x' (fun ps S1 q p n => hk _ _ (q p n)) hx h
  | .bin o a b, env, S, k, k', x, x', hk, hx, h => monoE a env S _ _ x x' (fun p S1 q => monoE b env S1 _ _ x x' (fun p2 S2 q2 => mono_bin o _ _ _ _ _ hk q2) hx q) hx h
  | .neg a, env, S, k, k', x, x', hk, hx, h => monoE a env S _ _ x x' (fun p S1 q => mono_neg hk q) hx h
  | .cmp o a b, env, S, k, k', x, x', hk, hx, h => monoE a env S _ _ x x' (fun p S1 q => monoE b env S1 _ _ x x' (fun p2 S2 q2 => mono_cmp o _ _ _ _ _ hk q2) hx q) hx h
  | .isn n a, env, S, k, k', x, x', hk, hx, h => monoE a env S _ _ x x' (fun p S1 q => hk _ _ q) hx h
  | .chn o o' a b c, env, S, k, k', x, x', hk, hx, h => monoE a env S _ _ x x' (fun p S1 q => monoE b env S1 _ _ x x' (fun p2 S2 q2 => mono_cmp o _ _ _ _ _ (fun r S3 q3 => mono_chn (fun z => monoE c env S3 _ _ x x' (fun t S4 q4 => mono_cmp o' _ _ _ _ _ hk q4) hx z) (fun z => hk _ _ z) q3) q2) hx q) hx h
  | .bop u es, env, S, k, k', x, x', hk, hx, h => monoB u es env S k k' x x' hk hx h
  | .not a, env, S, k, k', x, x', hk, hx, h => monoE a env S _ _ x x' (fun p S1 q => mono_tru (fun b z => hk _ _ z) q) hx h
  | .ife c a b, env, S, k, k', x, x', hk, hx, h => monoE c env S _ _ x x' (fun p S1 q => mono_tru (fun t z => by
      cases t with
      | true => rw [if_pos rfl] at z ⊢; exact monoE a env S1 k k' x x' hk hx z
      | false => rw [if_neg Bool.false_ne_true] at z ⊢; exact monoE b env S1 k k' x x' hk hx z) q) hx h
  | .idx a b, env, S, k, k', x, x', hk, hx, h => monoE a env S _ _ x x' (fun p S1 q => monoE b env S1 _ _ x x' (fun p2 S2 q2 => mono_ix _ _ _ _ _ hk q2) hx q) hx h
  | .slc a lo hi, env, S, k, k', x, x', hk, hx, h => monoE a env S _ _ x x' (fun p S1 q => monoEs lo env S1 _ _ x x' (fun ls S2 q2 => mono_part (fun l q3 => monoEs hi env S2 _ _ x x' (fun hs S3 q4 => mono_part (fun u q5 => mono_sl _ _ _ _ _ _ hk q5) q4) hx q3) q2) hx q) hx h
  | .call f es, env, S, k, k', x, x', hk, hx, h => monoEs es env S _ _ x x' (fun ps S1 q => tm.m f ps S1 k k' x x' hk hx q) hx h
  | .callk f es ks vs pm, env, S, k, k', x, x', hk, hx, h => monoEs es env S _ _ x x' (fun ps S1 q => monoEs vs env S1 _ _ x x' (fun qs S2 q2 => tm.m f _ S2 k k' x x' hk hx q2) hx q) hx h
  | .bi b es, env, S, k, k', x, x', hk, hx, h => monoEs es env S _ _ x x' (fun ps S1 q => mono_bi b _ _ _ _ hk q) hx h
  | .isi a t, env, S, k, k', x, x', hk, hx, h => monoE a env S _ _ x x' (fun p S1 q => mono_isi hk q) hx h
  | .mth m o es, env, S, k, k', x, x', hk, hx, h => monoE o env S _ _ x x' (fun p S1 q => ⟨q.1, monoEs es env S1 _ _ x x' (fun ps S2 q2 => mono_mt m _ _ _ _ _ hk q2) hx q.2⟩) hx h
  | .lc elt tg it ifs own, env, S, k, k', x, x', hk, hx, h => by
    simp only [sE] at h ⊢
    refine monoI it env S _ _ x x' (fun items stay S1 q => ⟨q.1, ?_⟩) hx h
    refine mono_loopC (fun p S2 kk kk' hkk q2 => ?_) (fun acc S5 q2 p n => hk _ _ (q2 p n)) items [] S1 q.2
    refine mono_tg (fun env2 q3 => ?_) q2
    refine monoEs ifs env2 S2 _ _ _ _ (fun bs S3 q4 => ?_) (fun _ _ z => z) q3
    refine mono_if (fun z => ?_) (fun z => hkk _ _ z) q4
    exact monoE elt env2 S3 _ _ _ _ (fun r S4 q5 => hkk _ _ q5) (fun _ _ z => z) z
theorem monoEs : ∀ (q : Exs) (env : PEnv) (S : Store) (k k' : List PV → Store → Prop) (x x' : Xt), (∀ p S, k p S → k' p S) → XLe x x' → sEs T q env S k x → sEs T q env S k' x'
  | .nil, env, S, k, k', x, x', hk, hx, h => hk _ _ h
  | .cons e es, env, S, k, k', x, x', hk, hx, h => monoE e env S _ _ x x' (fun p S1 q => monoEs es env S1 _ _ x x' (fun ps S2 q2 => hk _ _ q2) hx q) hx h
theorem monoB (u : Bool) : ∀ (q : Exs) (env : PEnv) (S : Store) (k k' : Kt) (x x' : Xt), KLe k k' → XLe x x' → sB T u q env S k x → sB T u q env S k' x'
  | .nil, env, S, k, k', x, x', hk, hx, h => h.elim
  | .cons e .nil, env, S, k, k', x, x', hk, hx, h => monoE e env S k k' x x' hk hx h
  | .cons e (.cons e' es), env, S, k, k', x, x', hk, hx, h => monoE e env S _ _ x x' (fun p S1 q => mono_tru (fun b z => by
      by_cases hb : b = u
      · rw [if_pos hb] at z ⊢; exact monoB u (.cons e' es) env S1 k k' x x' hk hx z
      · rw [if_neg hb] at z ⊢; exact hk _ _ z) q) hx h
theorem monoI : ∀ (q : It) (env : PEnv) (S : Store) (k k' : Ki) (x x' : Xt), (∀ a b c, k a b c → k' a b c) → XLe x x' → sI T q env S k x → sI T q env S k' x'
  | .val e, env, S, k, k', x, x', hk, hx, h => monoE e env S _ _ x x' (fun p S1 q => mono_it hk q) hx h
  | .rng es, env, S, k, k', x, x', hk, hx, h => monoEs es env S _ _ x x' (fun ps S1 q => mono_rng (fun a z => hk _ _ _ z) q) hx h
  | .enu e, env, S, k, k', x, x', hk, hx, h => monoE e env S _ _ x x' (fun p S1 q => mono_en hk q) hx h
end
end
end PL
namespace PL
open PySem PySem.Spec PyProof.Rows L2

/-! ### statements: more is asked, more is given -/
structure SLe (κ κ' : SK) : Prop where
  nx : ∀ e S, κ.nx e S → κ'.nx e S
  rt : ∀ p S, κ.rt p S → κ'.rt p S
  bk : ∀ e S, κ.bk e S → κ'.bk e S
  ct : ∀ e S, κ.ct e S → κ'.ct e S
  ex : ∀ x e S, κ.ex x e S → κ'.ex x e S
theorem SLe.refl (κ : SK) : SLe κ κ := ⟨fun _ _ z => z, fun _ _ z => z, fun _ _ z => z, fun _ _ z => z, fun _ _ _ z => z⟩
theorem mono_aug (o : BO) : Mono2 (augS o) := fun p q S k k' hk h => by
  cases o <;> cases p <;> cases q <;> first | exact h.elim | exact hk _ _ h | exact ⟨h.1, hk _ _ h.2⟩
theorem mono_set {p q v : PV} {S : Store} {k k' : Store → Prop} (hk : ∀ S, k S → k' S) (h : setS p q v S k) : setS p q v S k' := by
  cases p <;> first | exact h.elim | skip
  rcases h with ⟨xs, n, j, h1, h2, h3, h4⟩ | ⟨kvs, kk, h1, h2, h3, h4⟩
  · exact .inl ⟨xs, n, j, h1, h2, h3, hk _ h4⟩
  · exact .inr ⟨kvs, kk, h1, h2, h3, hk _ h4⟩
theorem mono_runFor {stay : Store → Prop} {step step' : PV → PEnv → Store → (PEnv → Store → Prop) → Prop} (hs : ∀ p e S k k', (∀ e S', k e S' → k' e S') → step p e S k → step' p e S k') {done done' : PEnv → Store → Prop} (hd : ∀ a S, done a S → done' a S) :
    ∀ (items : List PV) (e : PEnv) (S : Store), runFor stay step done items e S → runFor stay step' done' items e S
  | [], e, S, h => ⟨h.1, hd _ _ h.2⟩
  | p :: ps, e, S, h => ⟨h.1, hs _ _ _ _ _ (fun e' S' z => mono_runFor hs hd ps e' S' z) h.2⟩
section
variable {T : Tab} (tm : TMono T)
include tm
mutual
theorem monoS : ∀ (q : Sn) (env : PEnv) (S : Store) (κ κ' : SK), SLe κ κ' → sS T q env S κ → sS T q env S κ'
  | .asg tg e, env, S, κ, κ', l, h => monoE tm e env S _ _ _ _ (fun p S1 z => mono_tg (fun e z => l.nx _ _ z) z) (fun _ _ z => l.ex _ _ _ z) h
  | .par i j es, env, S, κ, κ', l, h => monoEs tm es env S _ _ _ _ (fun ps S1 ⟨p, q, z1, z2⟩ => ⟨p, q, z1, l.nx _ _ z2⟩) (fun _ _ z => l.ex _ _ _ z) h
  | .seti o i e, env, S, κ, κ', l, h => monoE tm e env S _ _ _ _ (fun v S1 z => monoE tm o env S1 _ _ _ _ (fun p S2 z => monoE tm i env S2 _ _ _ _ (fun q S3 z => mono_set (fun _ z => l.nx _ _ z) z)
      (fun _ _ z => l.ex _ _ _ z) z) (fun _ _ z => l.ex _ _ _ z) z) (fun _ _ z => l.ex _ _ _ z) h
  | .aug i o e, env, S, κ, κ', l, h => by
    simp only [sS] at h ⊢
    cases g : getE env i with
    | none => rw [g] at h; exact h.elim
    | some p => rw [g] at h; exact monoE tm e env S _ _ _ _ (fun q S1 z => mono_aug o _ _ _ _ _ (fun _ _ z => l.nx _ _ z) z) (fun _ _ z => l.ex _ _ _ z) h
  | .augi o a i e, env, S, κ, κ', l, h => monoE tm a env S _ _ _ _ (fun p S1 z => ⟨z.1, monoE tm i env S1 _ _ _ _ (fun q S2 z => mono_ix _ _ _ _ _ (fun v S3 z => monoE tm e env S3 _ _ _ _ (fun w S4 z => mono_aug o _ _ _ _ _ (fun z' S5 z => mono_set (fun _ z => l.nx _ _ z) z) z)
      (fun _ _ z => l.ex _ _ _ z) z) z) (fun _ _ z => l.ex _ _ _ z) z.2⟩) (fun _ _ z => l.ex _ _ _ z) h
  | .exp e, env, S, κ, κ', l, h => monoE tm e env S _ _ _ _ (fun p S1 z => l.nx _ _ z) (fun _ _ z => l.ex _ _ _ z) h
  | .ret e, env, S, κ, κ', l, h => monoE tm e env S _ _ _ _ (fun p S1 z => l.rt _ _ z) (fun _ _ z => l.ex _ _ _ z) h
  | .retn, env, S, κ, κ', l, h => l.rt _ _ h
  | .ife c a b, env, S, κ, κ', l, h => by
    simp only [sS, sT] at h ⊢
    refine monoE tm c env S _ _ _ _ (fun p S1 z => mono_tru (fun t z => ?_) z) (fun _ _ z => l.ex _ _ _ z) h
    cases t with
    | true => rw [if_pos rfl] at z ⊢; exact monoSs a env S1 κ κ' l z
    | false => rw [if_neg Bool.false_ne_true] at z ⊢; exact monoSs b env S1 κ κ' l z
  | .whl c a, env, S, κ, κ', l, h => by
    simp only [sS, sT] at h ⊢
    obtain ⟨I, h0, h1⟩ := h
    refine ⟨I, h0, fun m env S z => ?_⟩
    refine monoE tm c env S _ _ _ _ (fun p S1 z => mono_tru (fun t z => ?_) z) (fun _ _ z => l.ex _ _ _ z) (h1 m env S z)
    cases t with
    | true => rw [if_pos rfl] at z ⊢; refine monoSs a env S1 _ _ ?_ z; exact ⟨fun _ _ z => z, l.rt, l.nx, fun _ _ z => z, l.ex⟩
    | false => rw [if_neg Bool.false_ne_true] at z ⊢; exact l.nx _ _ z
  | .for_ tg it a, env, S, κ, κ', l, h => by
    simp only [sS] at h ⊢
    refine monoI tm it env S _ _ _ _ (fun items stay S1 z => ?_) (fun _ _ z => l.ex _ _ _ z) h
    refine mono_runFor (fun p e S k k' hk z => ?_) l.nx items env S1 z
    refine mono_tg (fun e2 z => ?_) z
    refine monoSs a e2 S _ _ ?_ z
    exact ⟨hk, l.rt, l.nx, hk, l.ex⟩
  | .pas, env, S, κ, κ', l, h => l.nx _ _ h
  | .brk, env, S, κ, κ', l, h => l.bk _ _ h
  | .cnt, env, S, κ, κ', l, h => l.ct _ _ h
theorem monoSs : ∀ (q : Sns) (env : PEnv) (S : Store) (κ κ' : SK), SLe κ κ' → sSs T q env S κ → sSs T q env S κ'
  | .nil, env, S, κ, κ', l, h => l.nx _ _ h
  | .cons s r, env, S, κ, κ', l, h => by
    refine monoS s env S _ _ ?_ h
    exact ⟨fun e S z => monoSs r e S _ _ l z, l.rt, l.bk, l.ct, l.ex⟩
end
theorem mono_fn (f : Fd) (ps : List PV) (S : Store) (k k' : Kt) (x x' : Xt) (hk : KLe k k') (hx : XLe x x') (h : fnS T f ps S k x) : fnS T f ps S k' x' :=
  ⟨h.1, by
    refine monoSs tm f.body _ _ _ _ ?_ h.2
    exact ⟨fun _ _ ⟨S2, z1, z2⟩ => ⟨S2, z1, hk _ _ z2⟩, fun _ _ ⟨S2, z1, z2⟩ => ⟨S2, z1, hk _ _ z2⟩, fun _ _ z => z, fun _ _ z => z, fun _ _ _ z => hx _ _ z⟩⟩
end
theorem tmono_Tb (P : List Fd) (con : Str → Option PV) : ∀ d, TMono (Tb P con d)
  | 0 => ⟨fun _ _ _ _ _ _ _ _ _ h => h.elim⟩
  | d + 1 => ⟨fun f ps S k k' x x' hk hx h => by
    simp only [Tb] at h ⊢
    cases g : P[f]? with
    | none => rw [g] at h; exact h.elim
    | some fd => rw [g] at h; exact mono_fn (tmono_Tb P con d) fd ps S k k' x x' hk hx h⟩
theorem con_Tb (P : List Fd) (con : Str → Option PV) : ∀ d, (Tb P con d).con = con
  | 0 => rfl
  | _ + 1 => rfl
end PL
namespace PL
open PySem PySem.Spec PyProof.Rows L2

/-! ### slots -/
structure EnvOk (K : PySem.W.Frag) (H : Hp) (env : PEnv) (σ : L2.St) : Prop where
  len : env.length = σ.length
  at_ : ∀ i p, getE env i = some p → ∃ v, σ[i]? = some (some v) ∧ RepV K H p v
theorem setE_length : ∀ (env : PEnv) (i : Nat) (p : Option PV), (setE env i p).length = env.length
  | [], _, _ => rfl
  | _ :: _, 0, _ => rfl
  | _ :: r, i + 1, p => by simp only [setE, List.length_cons]; rw [setE_length r i p]
theorem getE_setE : ∀ (env : PEnv) (i j : Nat) (p : Option PV), getE (setE env i p) j = if j = i then (if i < env.length then p else none) else getE env j
  | [], i, j, p => by simp [setE, getE]
  | o :: r, 0, 0, p => by simp [setE, getE]
  | o :: r, 0, j + 1, p => by simp [setE, getE]
  | o :: r, i + 1, 0, p => by simp [setE, getE]
  | o :: r, i + 1, j + 1, p => by
    simp only [setE, getE, getE_setE r i j p, List.length_cons]
    by_cases h : j = i
    · subst h
      simp
    · rw [if_neg h, if_neg (fun z => h (by omega))]
section
variable {K : PySem.W.Frag} {H H' : Hp} {env : PEnv} {σ : L2.St}
theorem EnvOk.keep (e : EnvOk K H env σ) (k : Keeps K H H') : EnvOk K H' env σ := ⟨e.len, fun i p h => by
  obtain ⟨v, h1, h2⟩ := e.at_ i p h
  exact ⟨v, h1, h2.keep k⟩⟩
theorem EnvOk.set (e : EnvOk K H env σ) {p : PV} {v : V} (i : Nat) (r : RepV K H p v) : EnvOk K H (setE env i (some p)) (σ.set i (some v)) := by
  refine ⟨by rw [setE_length, List.length_set]; exact e.len, fun j q h => ?_⟩
  rw [getE_setE] at h
  by_cases hj : j = i
  · subst hj
    rw [if_pos rfl] at h
    split at h
    · rename_i hl
      cases h
      exact ⟨v, by rw [List.getElem?_set_self (by rw [← e.len]; exact hl)], r⟩
    · cases h
  · rw [if_neg hj] at h
    obtain ⟨w, h1, h2⟩ := e.at_ j q h
    exact ⟨w, by rw [List.getElem?_set_ne (Ne.symm hj)]; exact h1, h2⟩
theorem EnvOk.unset (e : EnvOk K H env σ) (i : Nat) : EnvOk K H (setE env i none) (σ.set i none) := by
  refine ⟨by rw [setE_length, List.length_set]; exact e.len, fun j q h => ?_⟩
  rw [getE_setE] at h
  by_cases hj : j = i
  · subst hj
    rw [if_pos rfl] at h
    split at h <;> cases h
  · rw [if_neg hj] at h
    obtain ⟨w, h1, h2⟩ := e.at_ j q h
    exact ⟨w, by rw [List.getElem?_set_ne (Ne.symm hj)]; exact h1, h2⟩
theorem EnvOk.wipe (e : EnvOk K H env σ) : ∀ own : List (Str × Nat), EnvOk K H (wipeE env own) (L2.wipe σ (own.map (·.2)))
  | [] => e
  | v :: vs => (EnvOk.wipe e vs).unset v.2
theorem EnvOk.start {N : List Str} {ps : List PV} {vs : List V} (r : RepVs K H ps vs) : EnvOk K H (startE N.length ps) (L2.start N vs) := by
  have hl := r.length
  refine ⟨by simp [startE, L2.start, hl], fun i p h => ?_⟩
  have key : ∀ (ps : List PV) (i : Nat) (n : Nat), getE (ps.map some ++ List.replicate n none) i = some p → ps[i]? = some p := by
    intro ps
    induction ps with
    | nil =>
      intro i n h
      exfalso
      revert i
      induction n with
      | zero => intro i h; simp [getE] at h
      | succ n ih =>
        intro i h
        cases i with
        | zero => simp [List.replicate_succ, getE] at h
        | succ i => exact ih i (by simpa [List.replicate_succ, getE] using h)
    | cons q ps ih =>
      intro i n h
      cases i with
      | zero => simpa [getE] using h
      | succ i => simpa using ih i n (by simpa [getE] using h)
  obtain ⟨v, h1, h2⟩ := r.at (key ps i _ h)
  refine ⟨v, ?_, h2⟩
  unfold L2.start
  have hi : i < (vs.map some).length := by
    rw [List.length_map]
    exact (List.getElem?_eq_some_iff.mp h1).1
  rw [List.getElem?_append_left hi, List.getElem?_map, h1]
  rfl
end

/-! ### exceptions as they lie -/
def RepX (K : PySem.W.Frag) (mg : Str → Option Value) (H : Hp) (ex : Exn) (cls : Value) (d : Option Addr) : Prop :=
  ∃ (C dd : Addr) (fs : List (Str × V)), cls = .ref C ∧ mg ex.c = some (.ref C) ∧ d = some dd ∧ H dd = some (.xd fs) ∧ ex.fs.map (·.1) = fs.map (·.1) ∧ RepVs K H (ex.fs.map (·.2)) (fs.map (·.2))
def PostX (K : PySem.W.Frag) (mg : Str → Option Value) (H : Hp) (S : Store) (W : WX) (σ : L2.St) (x : Xt) : Prop :=
  ∀ ex S' cls d H', Step K H S H' S' → RepX K mg H' ex cls d → x ex S' → W cls d σ H'
theorem PostX.step {K : PySem.W.Frag} {mg : Str → Option Value} {H H1 : Hp} {S S1 : Store} {W : WX} {σ : L2.St} {x : Xt} (h : PostX K mg H S W σ x) (st : Step K H S H1 S1) : PostX K mg H1 S1 W σ x :=
  fun ex S' cls d H' s r q => h ex S' cls d H' (st.trans s) r q

/-! ### judgements -/
abbrev ME := PEnv → Store → Kt → Xt → Prop
abbrev MT := PEnv → Store → (Bool → Store → Prop) → Xt → Prop
abbrev MA := PEnv → Store → (List PV → Store → Prop) → Xt → Prop
def PostB (K : PySem.W.Frag) (H : Hp) (S : Store) (k : Bool → Store → Prop) (Q : Bool → Hp → Prop) : Prop := ∀ b S' H', Step K H S H' S' → k b S' → Q b H'
def PostL (K : PySem.W.Frag) (n : Nat) (H : Hp) (S : Store) (k : List PV → Store → Prop) (Q : List V → Hp → Prop) : Prop := ∀ ps S' vs H', Step K H S H' S' → RepVs K H' ps vs → vs.length = n → k ps S' → Q vs H'
theorem PostB.step {K : PySem.W.Frag} {H H1 : Hp} {S S1 : Store} {k : Bool → Store → Prop} {Q : Bool → Hp → Prop} (h : PostB K H S k Q) (st : Step K H S H1 S1) : PostB K H1 S1 k Q := fun b S' H' s q => h b S' H' (st.trans s) q
theorem PostL.step {K : PySem.W.Frag} {n : Nat} {H H1 : Hp} {S S1 : Store} {k : List PV → Store → Prop} {Q : List V → Hp → Prop} (h : PostL K n H S k Q) (st : Step K H S H1 S1) : PostL K n H1 S1 k Q := fun b S' v H' s r l q => h b S' v H' (st.trans s) r l q
section
variable (K : PySem.W.Frag) (mg : Str → Option Value) (W : WX)
def rE (m : ME) : TE := fun σ H Q => ∃ env S k x, EnvOk K H env σ ∧ StOk K H S ∧ m env S k x ∧ Post K H S k Q ∧ PostX K mg H S W σ x
def rT (m : MT) : TT := fun σ H Q => ∃ env S k x, EnvOk K H env σ ∧ StOk K H S ∧ m env S k x ∧ PostB K H S k Q ∧ PostX K mg H S W σ x
def rA (n : Nat) (m : MA) : TA := fun σ H Q => ∃ env S k x, EnvOk K H env σ ∧ StOk K H S ∧ m env S k x ∧ PostL K n H S k Q ∧ PostX K mg H S W σ x
end
def QE (X : Cx) (W : WX) (e : Expr) (m : ME) : Prop := PE X e (rE X.K X.mg W m)
def QT (X : Cx) (W : WX) (e : Expr) (m : MT) : Prop := PT X e (rT X.K X.mg W m)
def QW (X : Cx) (W : WX) (e : Expr) (m : MT) : Prop := PW X e (rT X.K X.mg W m)
def QA (X : Cx) (W : WX) (es : List Expr) (m : MA) : Prop := PA X es (rA X.K X.mg W es.length m)
section
variable {X : Cx} {e : Expr}
theorem pe_mono {t t' : TE} (h : PE X e t) (w : ∀ σ H Q, t' σ H Q → t σ H Q) : PE X e t' := ⟨fun pins s σ H Q I q => h.run pins s σ H Q I (w σ H Q q)⟩
theorem pt_mono {t t' : TT} (h : PT X e t) (w : ∀ σ H Q, t' σ H Q → t σ H Q) : PT X e t' := ⟨fun pins s σ H Q I q => h.run pins s σ H Q I (w σ H Q q)⟩
theorem pw_mono {t t' : TT} (h : PW X e t) (w : ∀ σ H Q, t' σ H Q → t σ H Q) : PW X e t' := ⟨fun wh pins s σ H Q I q => h.run wh pins s σ H Q I (w σ H Q q)⟩
theorem pa_mono {es : List Expr} {t t' : TA} (h : PA X es t) (w : ∀ σ H Q, t' σ H Q → t σ H Q) : PA X es t' := ⟨fun pos pins s σ H Q I q => h.run pos pins s σ H Q I (w σ H Q q)⟩
theorem ps_mono {st : Stmt} {t t' : TS} (h : PS X st t) (w : ∀ D σ H, t' D σ H → t D σ H) : PS X st t' := ⟨fun pins s σ H D I q => h.run pins s σ H D I (w D σ H q)⟩
theorem pss_mono {st : List Stmt} {t t' : TS} (h : PSs X st t) (w : ∀ D σ H, t' D σ H → t D σ H) : PSs X st t' := ⟨fun pins s σ H D I q => h.run pins s σ H D I (w D σ H q)⟩
theorem pi_mono {tg it : Expr} {t t' : TI} (h : PI X tg it t) (w : ∀ σ H Q, t' σ H Q → t σ H Q) : PI X tg it t' := ⟨fun pins s σ H Q I q => h.run pins s σ H Q I (w σ H Q q)⟩
theorem pg_mono {tg : Expr} {t t' : TG} (h : PG X tg t) (w : ∀ v σ H Q, t' v σ H Q → t v σ H Q) : PG X tg t' := ⟨fun pins s σ H v u Q I r q => h.run pins s σ H v u Q I r (w v σ H Q q)⟩
theorem pgs_mono {tg : List Expr} {t t' : TGs} (h : PGs X tg t) (w : ∀ v σ H Q, t' v σ H Q → t v σ H Q) : PGs X tg t' := ⟨fun pins s σ H v u Q I r q => h.run pins s σ H v u Q I r (w v σ H Q q)⟩
end

/-! ### the syntax looked at -/
structure Ctx where
  N : List Str
  sc : Scope
  raw : Scope
structure Inf where
  fns : List (Str × List Str)
  bis : List Str
  kws : List (Nat × List Str × List Nat)
def visB (sc : Scope) (x : Str) : Bool := match sc.names.lookup x with
  | some .local => true
  | some .cell => true
  | some .free => true
  | _ => false
def locB (sc : Scope) (x : Str) : Bool := match sc.names.lookup x with
  | some .local => true
  | some .cell => true
  | _ => false
def glB (sc : Scope) (x : Str) : Bool := match sc.names.lookup x with
  | some .globalImplicit => true
  | _ => false
theorem vis_of {sc : Scope} {x : Str} (h : visB sc x = true) : Vis sc x := by
  unfold visB at h
  split at h
  · exact .inl (by assumption)
  · exact .inr (.inl (by assumption))
  · exact .inr (.inr (by assumption))
  · cases h
theorem loc_of {sc : Scope} {x : Str} (h : locB sc x = true) : Loc sc x := by
  unfold locB at h
  split at h
  · exact .inl (by assumption)
  · exact .inr (by assumption)
  · cases h
theorem gl_of {sc : Scope} {x : Str} (h : glB sc x = true) : sc.names.lookup x = some .globalImplicit := by
  unfold glB at h
  split at h
  · assumption
  · cases h
def nst : Expr → Bool
  | .Starred .. => false
  | _ => true
def nsl : Expr → Bool
  | .Slice .. => false
  | _ => true
def nif : Expr → Bool
  | .IfExp .. => false
  | _ => true
def nset : Expr → Bool
  | .Set .. => false
  | _ => true
def plainT : Expr → Bool
  | .UnaryOp .Not _ _ => false
  | .BoolOp .. => false
  | .IfExp .. => false
  | .Compare .. => false
  | _ => true
def nsup : Expr → Bool
  | .Call (.Name id _) [] [] _ => id != ("super" : Str)
  | _ => true
def ncomp : Expr → Bool
  | .ListComp .. => false
  | .SetComp .. => false
  | .DictComp .. => false
  | _ => true
theorem star_cons {e : Expr} {es : List Expr} {env : Env} (h : nst e = true) : starEach (e :: es) env = (false, eval e env) :: starEach es env := by
  cases e <;> first | rfl | (simp [nst] at h; done)
theorem assign_cons {e : Expr} {es : List Expr} {env : Env} (h : nst e = true) : assignEach (e :: es) env = (false, assign e env) :: assignEach es env := by
  cases e <;> first | rfl | (simp [nst] at h; done)
theorem star_plain {pos : Pos} {env : Env} : ∀ {es : List Expr}, es.all nst = true → (backTo pos (starEach es env)).any (·.1) = false
  | [], _ => rfl
  | e :: es, h => by
    rw [List.all_cons, Bool.and_eq_true] at h
    rw [star_cons h.1]
    show (false || (backTo pos (starEach es env)).any (·.1)) = false
    rw [star_plain h.2]; rfl
theorem star_len {env : Env} : ∀ {es : List Expr}, es.all nst = true → (assignEach es env).length = es.length ∧ (assignEach es env).findIdx? (·.1) = none
  | [], _ => ⟨rfl, rfl⟩
  | e :: es, h => by
    rw [List.all_cons, Bool.and_eq_true] at h
    obtain ⟨h1, h2⟩ := star_len (env := env) h.2
    rw [assign_cons h.1]
    refine ⟨by rw [List.length_cons, List.length_cons, h1], ?_⟩
    rw [List.findIdx?_cons, h2]
    rfl
theorem base_ok {e : Expr} {f : Str} {env : Env} (h : nsup e = true) : attributeBase e f env (eval e env) = eval e env := by
  unfold nsup at h
  unfold attributeBase
  split at h
  · rename_i id p pos
    simp only [h, Bool.true_or, if_true]
  · rename_i hn
    split
    · exact absurd rfl (hn _ _ _)
    · rfl
theorem swaps_no {e : Expr} {t : Option Expr} {l : Nat} {env : Env} (h : ncomp e = true) : swapsWith e t l env = pure false := by
  cases e <;> first | rfl | (simp [ncomp] at h; done)
theorem swaps_sole {e t : Expr} {l : Nat} {env : Env} (h : ncomp e = true) : swapsWithSole [t] e l env = pure false := swaps_no h
theorem plain_true {e : Expr} {env : Env} (h : plainT e = true) (whole : Sem Value) : isTrue e env whole = (do let v ← whole; standAt e.pos; holding [v] (truthy v)) := by
  cases e <;> first
    | rfl
    | (simp [plainT] at h; done)
    | (rename_i op x p; cases op <;> first | rfl | (simp [plainT] at h; done))
theorem ix_plain {e : Expr} (h : nsl e = true) (o i : Value) : subscripted e false o i = operate [o, i] (getItem o i) := by
  cases e <;> first | rfl | (simp [nsl] at h; done)
theorem folded_no {e : Expr} {env : Env} (h : nset e = true) (x : Value) : foldedSetIterable e env x = pure x := by
  cases e <;> first | rfl | (simp [nset] at h; done)
theorem marks_no {op : CmpOp} {e : Expr} (h : nset e = true) : behindInMarks op e = false := by
  cases e <;> first | rfl | (simp [nset] at h; done)
theorem few_ok {X : Cx} {e : Expr} {es : List Expr} {cpos : Pos} (h : (e :: es).all nst = true) (hl : (e :: es).length < 30) : ((backTo cpos (starEach (e :: es) X.env)).all (fun x => !x.1) && (backToKw cpos (keywordEach [] X.env)).all (fun x => x.1.isSome)
      && decide ((e :: es).length + ([] : List Keyword).length + (if ([] : List Keyword).isEmpty then 0 else 1) < 30)) = true := by
  have h1 : (backTo cpos (starEach (e :: es) X.env)).all (fun x => !x.1) = true := by
    have := star_plain (pos := cpos) (env := X.env) h
    rw [List.all_eq_true]
    intro x hx
    rw [List.any_eq_false] at this
    have := this x hx
    simpa using this
  rw [h1, Bool.true_and, Bool.and_eq_true]
  exact ⟨rfl, decide_eq_true (by simp only [List.length_nil, Nat.add_zero, List.isEmpty_nil, if_true]; exact hl)⟩
end PL
namespace PL
open PySem PySem.Spec PyProof.Rows L2

/-! ### the tree against the syntax -/
def boOp : BO → Operator
  | .add => .Add | .sub => .Sub | .mul => .Mult | .fdiv => .FloorDiv | .mod => .Mod | .pow => .Pow | .shl => .LShift | .shr => .RShift
def coOp : CO → CmpOp
  | .lt => .Lt | .le => .LtE | .gt => .Gt | .ge => .GtE | .eq => .Eq | .ne => .NotEq | .inn => .In | .nin => .NotIn
def biName : BI → Str
  | .len => "len" | .abs => "abs" | .max => "max" | .min => "min" | .sum => "sum" | .srt => "sorted" | .int => "int" | .str => "str" | .tup => "tuple" | .lst => "list"
def mtName : MI → Str
  | .app => "append" | .pop => "pop" | .popAt => "pop" | .ins => "insert" | .ext => "extend"
/-- a name that may stand for a value -/
def okName (x : Str) : Bool := !(x == ("__debug__" : Str)) && !(x == ("__classdict__" : Str)) && !(x == ("__name__" : Str))
def keyEx : Key → Expr → Bool
  | .inl i, .Constant (.int j) _ _ => decide (i = j)
  | .inr x, .Constant (.str y) _ _ => decide (x = y)
  | _, _ => false
def keysEx : List Key → List (Option Expr) → Bool
  | [], [] => true
  | k :: ks, some e :: es => keyEx k e && keysEx ks es
  | _, _ => false
def kwNames : List Keyword → List (Option Str)
  | [] => []
  | k :: ks => k.arg :: kwNames ks
def kwVals : List Keyword → List Expr
  | [] => []
  | k :: ks => k.value :: kwVals ks
mutual
def chkTg (c : Ctx) : Tg → Expr → Bool
  | .nam i, .Name x _ => decide (c.N[i]? = some x) && locB c.sc x && locB c.raw x
  | .tup ts, .Tuple es _ _ => es.all nst && chkTgs c ts es
  | _, _ => false
def chkTgs (c : Ctx) : Tgs → List Expr → Bool
  | .nil, [] => true
  | .cons t ts, e :: es => chkTg c t e && chkTgs c ts es
  | _, _ => false
end
mutual
def tgIx : Tg → List Nat
  | .nam i => [i]
  | .tup ts => tgsIx ts
def tgsIx : Tgs → List Nat
  | .nil => []
  | .cons t ts => tgIx t ++ tgsIx ts
end
section
variable (F : Inf)
mutual
def chkE : Ctx → Ex → Expr → Bool
  | c, .nam i, .Name x _ => decide (c.N[i]? = some x) && visB c.sc x && okName x
  | c, .glo n, .Name x _ => decide (n = x) && glB c.sc x && okName x
  | _, .int i, .Constant (.int j) _ _ => decide (i = j)
  | _, .str i, .Constant (.str j) _ _ => decide (i = j)
  | _, .bl i, .Constant (.bool j) _ _ => decide (i = j)
  | _, .non, .Constant .none _ _ => true
  | c, .tup es, .Tuple fs _ _ => decide (fs.length ≤ 1000) && chkEs c es fs
  | c, .lst es, .List fs _ => decide (fs.length ≤ 1000) && chkEs c es fs
  | c, .dic ks vs, .Dict kes ves _ => keysEx ks kes && decide (kes.length = ves.length) && decide (kes.length ≤ 15) && chkEs c vs ves
  | c, .bin o a b, .BinOp l op r _ => decide (op = boOp o) && chkE c a l && chkE c b r
  | c, .neg a, .UnaryOp op e _ => decide (op = .USub) && chkE c a e
  | c, .cmp o a b, .Compare l [op] [r] _ => decide (op = coOp o) && nset r && chkE c a l && chkE c b r
  | c, .isn n a, .Compare l [op] [.Constant .none _ _] _ => decide (op = if n then CmpOp.IsNot else CmpOp.Is) && chkE c a l
  | c, .chn o o' a b d, .Compare l [op, op'] [r, t] _ => decide (op = coOp o) && decide (op' = coOp o') && nset t && chkE c a l && chkE c b r && chkE c d t
  | c, .bop u es, .BoolOp op fs _ => decide (op = if u then BoolOp.And else BoolOp.Or) && fs.all nif && chkEs c es fs
  | c, .not a, .UnaryOp op e _ => decide (op = .Not) && nif e && chkE c a e
  | c, .ife d a b, .IfExp t l r _ => nif t && chkE c d t && chkE c a l && chkE c b r
  | c, .idx a b, .Subscript o i _ => nsl i && chkE c a o && chkE c b i
  | c, .slc a lo hi, .Subscript o (.Slice l h none _) _ => chkE c a o && chkO c lo l && chkO c hi h
  | c, .call f es, .Call (.Name x _) fs [] _ => (match F.fns[f]? with | some (nm, _) => decide (nm = x) | none => false) && glB c.sc x && okName x && chkEs c es fs
  | c, .callk f es ks vs pm, .Call (.Name x _) fs kws _ => (match F.fns[f]? with | some (nm, _) => decide (nm = x) | none => false) && glB c.sc x && okName x && chkEs c es fs &&
      decide (kwNames kws = ks.map some) && !ks.isEmpty && decide ((f, ks, pm) ∈ F.kws) && decide (fs.length + ks.length = pm.length) && pm.all (fun j => decide (j < pm.length)) && chkEs c vs (kwVals kws)
  | c, .bi b es, .Call (.Name x _) fs [] _ => decide (x = biName b) && decide (x ∈ F.bis) && glB c.sc x && !fs.isEmpty && chkEs c es fs
  | c, .isi a t, .Call (.Name x _) [e, .Name y _] [] _ => decide (x = ("isinstance" : Str)) && decide (x ∈ F.bis) && glB c.sc x && decide (y = tiStr t) && decide (y ∈ F.bis) && glB c.sc y && decide (t ≠ .non) && nst e && chkE c a e
  | c, .mth m o es, .Call (.Attribute e nm ap) fs [] p => decide (nm = mtName m) && nsup e && decide (ap.endLine = p.line) && decide (fs.length < 30) && (match m with | .pop => fs.isEmpty | _ => !fs.isEmpty) && chkE c o e && chkEs c es fs
  | c, .lc elt tg it ifs own, .ListComp e [⟨t, i, fs, as⟩] scope _ => decide (as = 0) && blkC c.N c.sc scope own && (tgIx tg).all (fun j => decide (j ∈ own.map (·.2))) && nset i && decide (fs.length ≤ 1) && fs.all nif &&
      chkTg ⟨c.N, relS scope c.sc, scope⟩ tg t && chkI c t it i && chkEs ⟨c.N, relS scope c.sc, scope⟩ ifs fs && chkE ⟨c.N, relS scope c.sc, scope⟩ elt e
  | _, _, _ => false
def chkEs : Ctx → Exs → List Expr → Bool
  | _, .nil, [] => true
  | c, .cons e es, f :: fs => nst f && chkE c e f && chkEs c es fs
  | _, _, _ => false
def chkO : Ctx → Exs → Option Expr → Bool
  | _, .nil, none => true
  | c, .cons e .nil, some f => chkE c e f
  | _, _, _ => false
def chkI : Ctx → Expr → It → Expr → Bool
  | c, _, .val a, e => chkE c a e
  | c, _, .rng es, .Call (.Name x _) fs [] _ => decide (x = ("range" : Str)) && decide (x ∈ F.bis) && glB c.sc x && decide (1 ≤ fs.length) && decide (fs.length ≤ 3) && chkEs c es fs
  | c, .Tuple _ _ _, .enu a, .Call (.Name x _) [f] [] _ => decide (x = ("enumerate" : Str)) && decide (x ∈ F.bis) && glB c.sc x && nst f && chkE c a f
  | _, _, _, _ => false
end
def ntup : Expr → Bool
  | .Tuple _ _ _ => false
  | e => true
def swB (x : Str) (p q : Pos) (sc : Scope) : Bool := p.line == q.line && !(sc.names.any fun (n, k) => n == x && (k == .local || k == .cell))
def onName (c : Ctx) : Expr → Expr → Bool
  | .Name x p, f => (match f with
    | .ListComp e gs sc q => locB c.sc x && (!swB x p q sc || decide (c.sc.names.lookup x = some .local))
    | e => ncomp e)
  | _, _ => true
def asgB (tg : Tg) (f : Expr) : Bool := match tg with
  | .nam _ => true
  | .tup _ => ncomp f && ntup f
mutual
def chkS (c : Ctx) : Sn → Stmt → Bool
  | .asg tg e, .Assign [t] f _ => nst t && onName c t f && chkTg c tg t && chkE F c e f && asgB tg f
  | .par i j es, .Assign [.Tuple [.Name x px, .Name y py] _ tp] (.Tuple [a, b] _ _) _ => decide (c.N[i]? = some x) && decide (c.N[j]? = some y) && decide (i ≠ j) && decide (x ≠ y) && decide (px.line = py.line) && decide (c.sc.names.lookup x = some .local) && decide (c.sc.names.lookup y = some .local) && !(foldedForSure 8 a && foldedForSure 8 b) && !(constantsAlone 8 a && constantsAlone 8 b) && chkEs F c es [a, b]
  | .seti o i e, .Assign [.Subscript f g _] h _ => nsl g && ncomp h && chkE F c o f && chkE F c i g && chkE F c e h
  | .aug i o e, .AugAssign (.Name x _) op f _ => decide (c.N[i]? = some x) && locB c.sc x && locB c.raw x && decide (op = boOp o) && chkE F c e f
  | .augi o a i e, .AugAssign (.Subscript f g _) op h _ => nsl g && decide (op = boOp o) && chkE F c a f && chkE F c i g && chkE F c e h
  | .exp e, .Expr f _ => ncomp f && chkE F c e f
  | .ret e, .Return (some f) _ => chkE F c e f
  | .retn, .Return none _ => true
  | .ife d a b, .If t l r _ => nif t && chkE F c d t && chkSs c a l && chkSs c b r
  | .whl d a, .While t l [] _ => nif t && chkE F c d t && chkSs c a l
  | .for_ tg it a, .For t i l [] _ => nset i && chkTg c tg t && chkI F c t it i && chkSs c a l
  | .pas, .Pass _ => true
  | .brk, .Break _ => true
  | .cnt, .Continue _ => true
  | _, _ => false
def chkSs (c : Ctx) : Sns → List Stmt → Bool
  | .nil, [] => true
  | .cons s r, t :: ts => chkS c s t && chkSs c r ts
  | _, _ => false
end
end

/-! ### the context in which a body runs -/
def spOf (K : PySem.W.Frag) (mg : Str → Option Value) (g : List PV → Store → Kt → Xt → Prop) (n : Nat) : Sp := fun vs H Q E =>
  ∃ ps S k x, RepVs K H ps vs ∧ vs.length = n ∧ StOk K H S ∧ g ps S k x ∧ Post K H S k Q ∧ ∀ ex S' cls d H', Step K H S H' S' → RepX K mg H' ex cls d → x ex S' → E cls d H'
def KwB (K : PySem.W.Frag) (fd : FuncData) (ps ks : List Str) (pm : List Nat) : Prop :=
  ∀ (s : Shared) (us ws : List Value), K.In s.heap → us.length + ks.length = pm.length → ws.length = ks.length → BindsTo s fd ⟨us, ks.zip ws⟩ (ps.zip (perm pm (us ++ ws)))
structure GloOk (F : Inf) (P : Program) (w : World) (K : PySem.W.Frag) (mg : Str → Option Value) (base : Heap) (T : Tab) (d : Nat) : Prop where
  fn : ∀ i nm ps, F.fns[i]? = some (nm, ps) → ∃ f fd, mg nm = some (.ref f) ∧ PySem.W.keepIn K (.ref f) = true ∧ Binds K fd ps [] ∧ (∀ ks pm, (i, ks, pm) ∈ F.kws → KwB K fd ps ks pm) ∧
    FnOk P w K mg base (L2.CX P w) d f fd ps (spOf K mg (T.fn i) ps.length)
  bi : ∀ x ∈ F.bis, mg x = none
  tm : TMono T
  ar : ∀ i nm ps args S k x, F.fns[i]? = some (nm, ps) → T.fn i args S k x → args.length = ps.length
  con : ∀ x p, T.con x = some p → ∃ u v, mg x = some u ∧ RelV v u ∧ ∀ H, RepV K H p v
structure XOk (F : Inf) (T : Tab) (d : Nat) (c : Ctx) (X : Cx) (W : WX) : Prop where
  N : X.N = c.N
  sc : X.env.scope = c.sc
  nd : c.N.Nodup
  calm : X.calm = true
  tk : Takes X W
  po : PassesOwn (model X.prog X.w) X.A X.env X.xe
  room : Room d X.A
  fn : ∀ x, locB c.raw x = true → X.fn x = true ∨ X.env.scope.names.lookup x = some .local
  gl : GloOk F X.prog X.w X.K X.mg X.base T d
section
variable {F : Inf} {T : Tab} {d : Nat} {c : Ctx} {X : Cx} {W : WX}
theorem XOk.hu (ok : XOk F T d c X W) : X.A.units + 1 < cLine := hu_of ok.room
theorem XOk.u64 (ok : XOk F T d c X W) : X.A.units + 64 < cLine := ok.room.units
theorem XOk.blk (ok : XOk F T d c X W) (scope : Scope) (s : Shared) (H : Hp) (C : Addr) (cl : List (Str × Addr)) (fp : List Addr) :
    XOk F T d ⟨c.N, relS scope c.sc, scope⟩ (X.blk s H scope (compEnvC scope cl C X.env) fp) (fun _ _ _ _ => False) := by
  refine ⟨ok.N, ?_, ok.nd, ok.calm, takes0, PassesOwn.never, ok.room, fun x hx => ?_, ok.gl⟩
  · show relabel scope X.env = relS scope c.sc
    rw [← ok.sc]
    rfl
  · rcases loc_of hx with h | h
    · refine .inr ?_
      show (relabel scope X.env).names.lookup x = some .local
      exact lookup_relabel_local h
    · refine .inl ?_
      show (scope.names.lookup x == some .cell) = true
      rw [show scope.names.lookup x = some .cell from h]
      rfl
end
end PL
namespace PL
open PySem PySem.Spec PyProof.Rows L2

/-! ### targets -/
def OnlyAt (is : List Nat) (σ σ' : L2.St) : Prop := σ'.length = σ.length ∧ ∀ i, i ∉ is → σ'[i]? = σ[i]?
theorem OnlyAt.wipe {is vs : List Nat} {σ σ' : L2.St} (h : OnlyAt is σ σ') (hs : ∀ i ∈ is, i ∈ vs) : L2.wipe σ' vs = L2.wipe σ vs := by
  refine List.ext_getElem? fun i => ?_
  by_cases hi : i ∈ vs
  · have key : ∀ (τ : L2.St) (ws : List Nat), i ∈ ws → (L2.wipe τ ws)[i]? = if i < τ.length then some none else none := by
      intro τ ws
      induction ws with
      | nil => intro h; cases h
      | cons v ws ih =>
        intro hm
        unfold L2.wipe
        by_cases hv : v = i
        · subst hv
          rw [List.getElem?_set]
          rw [if_pos rfl, wipe_length]
        · rw [List.getElem?_set_ne hv]
          rcases List.mem_cons.mp hm with z | z
          · exact absurd z.symm hv
          · exact ih z
    rw [key σ' vs hi, key σ vs hi, h.1]
  · rw [wipe_out hi, wipe_out hi]
    exact h.2 i fun z => hi (hs i z)
theorem OnlyAt.trans {is js : List Nat} {σ σ1 σ2 : L2.St} (a : OnlyAt is σ σ1) (b : OnlyAt js σ1 σ2) : OnlyAt (is ++ js) σ σ2 :=
  ⟨b.1.trans a.1, fun i h => (b.2 i fun z => h (List.mem_append_right _ z)).trans (a.2 i fun z => h (List.mem_append_left _ z))⟩
abbrev rG (K : PySem.W.Frag) (tg : Tg) : TG := fun v σ H Q => ∃ p env env', RepV K H p v ∧ EnvOk K H env σ ∧ tgE tg p env = some env' ∧ ∀ σ', EnvOk K H env' σ' → OnlyAt (tgIx tg) σ σ' → Q σ' H
abbrev rGs (K : PySem.W.Frag) (ts : Tgs) : TGs := fun vs σ H Q => ∃ ps env env', RepVs K H ps vs ∧ EnvOk K H env σ ∧ tgsE ts ps env = some env' ∧ ∀ σ', EnvOk K H env' σ' → OnlyAt (tgsIx ts) σ σ' → Q σ' H
theorem tgs_len (c : Ctx) : ∀ (ts : Tgs) (es : List Expr) (ps : List PV) (env env' : PEnv), chkTgs c ts es = true → tgsE ts ps env = some env' → es.length = ps.length
  | .nil, [], [], _, _, _, _ => rfl
  | .nil, [], _ :: _, _, _, _, h => by simp [tgsE] at h
  | .nil, _ :: _, _, _, _, h, _ => by simp [chkTgs] at h
  | .cons _ _, [], _, _, _, h, _ => by simp [chkTgs] at h
  | .cons _ _, _ :: _, [], _, _, _, h => by simp [tgsE] at h
  | .cons t ts, e :: es, p :: ps, env, env', h, hk => by
    simp only [chkTgs, Bool.and_eq_true] at h
    simp only [tgsE] at hk
    cases e1 : tgE t p env with
    | none => rw [e1] at hk; cases hk
    | some env1 =>
      rw [e1] at hk
      rw [List.length_cons, List.length_cons, tgs_len c ts es ps env1 env' h.2 hk]
section
variable {F : Inf} {T : Tab} {d : Nat} {c : Ctx} {X : Cx} {W : WX}
mutual
theorem soundTg (ok : XOk F T d c X W) : ∀ (tg : Tg) (e : Expr), chkTg c tg e = true → PG X e (rG X.K tg)
  | .nam i, e, h => by
    cases e <;> first | (simp [chkTg] at h; done) | skip
    rename_i x pos
    simp only [chkTg, Bool.and_eq_true, decide_eq_true_eq] at h
    obtain ⟨⟨h1, h2⟩, h3⟩ := h
    refine pg_mono (pg_name (i := i) (by rw [ok.N]; exact ok.nd) (by rw [ok.N]; exact h1) (by rw [ok.sc]; exact loc_of h2) (ok.fn x h3)) fun v σ H Q h => ?_
    obtain ⟨p, env, env', rp, eo, hk, q⟩ := h
    simp only [tgE, Option.some.injEq] at hk
    subst hk
    refine q _ (eo.set i rp) ⟨List.length_set .., fun j hj => ?_⟩
    rw [List.getElem?_set_ne fun z => hj (by rw [z]; simp [tgIx])]
  | .tup ts, e, h => by
    cases e <;> first | (simp [chkTg] at h; done) | skip
    rename_i es kk pos
    simp only [chkTg, Bool.and_eq_true] at h
    obtain ⟨h1, h2⟩ := h
    obtain ⟨l1, l2⟩ := star_len (env := X.env) h1
    refine pg_mono (pg_tup ok.calm (soundTgs ok ts es h1 h2) rfl l2) fun v σ H Q h => ?_
    obtain ⟨p, env, env', rp, eo, hk, q⟩ := h
    cases rp <;> first | (simp [tgE] at hk; done) | skip
    rename_i a xs ps r1 r2
    simp only [tgE] at hk
    exact ⟨a, xs, rfl, r1, by rw [l1, ← r2.length]; exact (tgs_len c ts es ps env env' h2 hk).symm, ps, env, env', r2, eo, hk, q⟩
theorem soundTgs (ok : XOk F T d c X W) : ∀ (ts : Tgs) (es : List Expr), es.all nst = true → chkTgs c ts es = true → PGs X es (rGs X.K ts)
  | .nil, es, _, h => by
    cases es with
    | cons a b => simp [chkTgs] at h
    | nil =>
      refine pgs_mono pgs_nil fun vs σ H Q h => ?_
      obtain ⟨ps, env, env', rp, eo, hk, q⟩ := h
      cases ps with
      | cons a b => simp [tgsE] at hk
      | nil =>
        simp only [tgsE, Option.some.injEq] at hk
        subst hk
        exact ⟨rp.nil_inv, q σ eo ⟨rfl, fun _ _ => rfl⟩⟩
  | .cons t ts, es, hn, h => by
    cases es with
    | nil => simp [chkTgs] at h
    | cons a b =>
      simp only [chkTgs, Bool.and_eq_true] at h
      rw [List.all_cons, Bool.and_eq_true] at hn
      refine pgs_mono (pgs_cons (soundTg ok t a h.1) (soundTgs ok ts b hn.2 h.2) (by rw [assign_cons hn.1]; rfl)) fun vs σ H Q h => ?_
      obtain ⟨ps, env, env', rp, eo, hk, q⟩ := h
      cases ps with
      | nil => simp [tgsE] at hk
      | cons p ps =>
        obtain ⟨v, r, rfl, r1, r2⟩ := rp.cons_inv
        simp only [tgsE] at hk
        cases e1 : tgE t p env with
        | none => rw [e1] at hk; cases hk
        | some env1 =>
          rw [e1] at hk
          refine ⟨v, r, rfl, p, env, env1, r1, eo, e1, fun σ1 eo1 oa1 => ?_⟩
          exact ⟨ps, env1, env', r2, eo1, hk, fun σ2 eo2 oa2 => q σ2 eo2 (oa1.trans oa2)⟩
end

/-! ### calls -/
theorem perm_rep {K : PySem.W.Frag} {H : Hp} {ps : List PV} {vs : List V} (r : RepVs K H ps vs) : ∀ pm : List Nat, RepVs K H (perm pm ps) (perm pm vs)
  | [] => .nil
  | j :: pm => by
    have ih := perm_rep r pm
    unfold perm at ih ⊢
    rw [List.filterMap_cons, List.filterMap_cons]
    cases e : ps[j]? with
    | none =>
      have e2 : vs[j]? = none := by
        rw [List.getElem?_eq_none_iff] at e ⊢
        rw [← r.length]; exact e
      rw [e2]; exact ih
    | some p =>
      obtain ⟨v, e2, rv⟩ := r.at e
      rw [e2]; exact .cons rv ih
theorem perm_vals {vs : List V} {us : List Value} (r : Vals vs us) : ∀ pm : List Nat, Vals (perm pm vs) (perm pm us)
  | [] => .nil
  | j :: pm => by
    have ih := perm_vals r pm
    unfold perm at ih ⊢
    rw [List.filterMap_cons, List.filterMap_cons]
    cases e : vs[j]? with
    | none =>
      rw [r.none_of e]; exact ih
    | some p =>
      obtain ⟨v, e2, rv⟩ := r.get e
      rw [e2]; exact .cons rv ih
theorem fn_run (ok : XOk F T d c X W) {f : Nat} {nm : Str} {prs : List Str} (hf : F.fns[f]? = some (nm, prs)) {fa : Addr} {fd : FuncData} (hb : Binds X.K fd prs [])
    (G : FnOk X.prog X.w X.K X.mg X.base (L2.CX X.prog X.w) d fa fd prs (spOf X.K X.mg (T.fn f) prs.length)) {pins : List (Addr × Obj)} {σ : L2.St} {H : Hp} {s : Shared} {S : Store} {ps : List PV} {vs : List V} {us : List Value} {k : Kt} {x : Xt} {Q : VK}
    (rp : RepVs X.K H ps vs) (rv : Vals vs us) (so : StOk X.K H S) (h : T.fn f ps S k x) (po : Post X.K H S k Q) (px : PostX X.K X.mg H S W σ x) (I : Inv X pins σ H s) : wpAny (model X.prog X.w) X.A (call (.ref fa) us) (EP X pins σ Q) X.xe s :=
  run_fnS G ok.room hb (passAt ok.tk σ) I rv ⟨ps, S, k, x, rp, by rw [← rp.length]; exact ok.gl.ar _ _ _ _ _ _ _ hf h, so, h, po, px⟩
theorem fn_runk (ok : XOk F T d c X W) {f : Nat} {nm : Str} {prs ks : List Str} {pm : List Nat} (hf : F.fns[f]? = some (nm, prs)) {fa : Addr} {fd : FuncData} (hb : KwB X.K fd prs ks pm)
    (G : FnOk X.prog X.w X.K X.mg X.base (L2.CX X.prog X.w) d fa fd prs (spOf X.K X.mg (T.fn f) prs.length)) {pins : List (Addr × Obj)} {σ : L2.St} {H : Hp} {s : Shared} {S : Store} {ps qs : List PV} {vs zs : List V} {us ws : List Value} {k : Kt} {x : Xt} {Q : VK}
    (rp : RepVs X.K H ps vs) (rq : RepVs X.K H qs zs) (rv : Vals vs us) (rz : Vals zs ws) (h1 : us.length + ks.length = pm.length) (h2 : ws.length = ks.length) (so : StOk X.K H S) (h : T.fn f (perm pm (ps ++ qs)) S k x) (po : Post X.K H S k Q) (px : PostX X.K X.mg H S W σ x) (I : Inv X pins σ H s) :
    wpAny (model X.prog X.w) X.A (call (.ref fa) us (ks.zip ws)) (EP X pins σ Q) X.xe s := by
  have r2 : Vals (perm pm (vs ++ zs)) (perm pm (us ++ ws)) := perm_vals (rv.append rz) pm
  refine wpAny_call (codeAny_mono (G.run X.A X.stack s H ⟨us, ks.zip ws⟩ (perm pm (us ++ ws)) (perm pm (vs ++ zs)) Q (WE W σ) ok.room I.env0 (hb s us ws I.kIn h1 h2) r2
    ⟨_, S, k, x, perm_rep (rp.app rq) pm, by rw [← (perm_rep (rp.app rq) pm).length]; exact ok.gl.ar _ _ _ _ _ _ _ hf h, so, h, po, px⟩) fun r s' hq => ?_)
  cases r with
  | error e => exact passAt ok.tk σ pins H s e s' I hq
  | ok fl =>
    cases fl with
    | ret u => exact I.after hq
    | next => exact False.elim hq
    | brk => exact False.elim hq
    | cont => exact False.elim hq
end
end PL
namespace PL
open PySem PySem.Spec PyProof.Rows L2

section
variable {K : PySem.W.Frag} {mg : Str → Option Value} {W : WX} {σ : L2.St} {H : Hp} {env : PEnv} {S : Store} {x : Xt}
theorem one_rd {ma : ME} {R : PV → Store → Prop} {Q : V → Hp → Prop} (eo : EnvOk K H env σ) (so : StOk K H S) (px : PostX K mg H S W σ x) (h : ma env S R x)
    (fin : ∀ p S1 a H1, Step K H S H1 S1 → Keeps K H H1 → RepV K H1 p a → R p S1 → Q a H1) : rE K mg W ma σ H Q :=
  ⟨env, S, R, x, eo, so, h, fun p S1 a H1 st r q => fin p S1 a H1 st (st.keeps so) r q, px⟩
theorem two_rd {ma mb : ME} {R : PV → PV → Store → Prop} {Q : V → V → Hp → Prop} (eo : EnvOk K H env σ) (so : StOk K H S) (px : PostX K mg H S W σ x) (h : ma env S (fun p S1 => mb env S1 (fun q S2 => R p q S2) x) x)
    (fin : ∀ p q S2 a b H2, Step K H S H2 S2 → Keeps K H H2 → RepV K H2 p a → RepV K H2 q b → R p q S2 → Q a b H2) : rE K mg W ma σ H fun a H1 => rE K mg W mb σ H1 fun b H2 => Q a b H2 := by
  refine one_rd eo so px h fun p S1 a H1 st kp rp q => ?_
  refine one_rd (eo.keep kp) st.ok (px.step st) q fun q S2 b H2 st2 kp2 rq h2 => ?_
  exact fin p q S2 a b H2 (st.trans st2) ((st.trans st2).keeps so) (rp.keep kp2) rq h2
theorem arg_rd {n : Nat} {ma : MA} {R : List PV → Store → Prop} {Q : List V → Hp → Prop} (eo : EnvOk K H env σ) (so : StOk K H S) (px : PostX K mg H S W σ x) (h : ma env S R x)
    (fin : ∀ p S1 a H1, Step K H S H1 S1 → Keeps K H H1 → RepVs K H1 p a → a.length = n → R p S1 → Q a H1) : rA K mg W n ma σ H Q :=
  ⟨env, S, R, x, eo, so, h, fun p S1 a H1 st r l q => fin p S1 a H1 st (st.keeps so) r l q, px⟩
theorem tst_rd {ma : MT} {R : Bool → Store → Prop} {Q : Bool → Hp → Prop} (eo : EnvOk K H env σ) (so : StOk K H S) (px : PostX K mg H S W σ x) (h : ma env S R x)
    (fin : ∀ b S1 H1, Step K H S H1 S1 → Keeps K H H1 → R b S1 → Q b H1) : rT K mg W ma σ H Q :=
  ⟨env, S, R, x, eo, so, h, fun b S1 H1 st q => fin b S1 H1 st (st.keeps so) q, px⟩
end

section
variable {F : Inf} {T : Tab} {d : Nat} {c : Ctx} {X : Cx} {W : WX} {a b e e' : Expr} {es : List Expr} {pos : Pos} {ma mb mc : ME} {ms : MA}
theorem qe_nam (ok : XOk F T d c X W) {i : Nat} {n : Str} (h1 : c.N[i]? = some n) (h2 : visB c.sc n = true) (h3 : okName n = true) : QE X W (.Name n pos) (sE T (.nam i)) := by
  unfold okName at h3
  simp only [Bool.and_eq_true, Bool.not_eq_true'] at h3
  refine pe_mono (pe_var (i := i) (by rw [ok.N]; exact h1) (by rw [ok.sc]; exact vis_of h2) h3.1.1 h3.1.2) fun σ H Q h => ?_
  obtain ⟨env, S, k, x, eo, so, h, po, px⟩ := h
  simp only [sE] at h
  cases e1 : getE env i with
  | none => rw [e1] at h; exact h.elim
  | some p =>
    rw [e1] at h
    obtain ⟨v, hv, rv⟩ := eo.at_ i p e1
    exact ⟨v, hv, po.here so rv h⟩
theorem qe_glo (ok : XOk F T d c X W) {n : Str} (h2 : glB c.sc n = true) (h3 : okName n = true) : QE X W (.Name n pos) (sE T (.glo n)) := by
  unfold okName at h3
  simp only [Bool.and_eq_true, Bool.not_eq_true'] at h3
  refine ⟨fun pins s σ H Q I h => ?_⟩
  obtain ⟨env, S, k, x, eo, so, h, po, px⟩ := h
  simp only [sE] at h
  cases e1 : T.con n with
  | none => rw [e1] at h; exact h.elim
  | some p =>
    rw [e1] at h
    obtain ⟨u, v, hm, r, rp⟩ := ok.gl.con n p e1
    refine ld_glob I (show X.env.scope.names.lookup n = _ by rw [ok.sc]; exact gl_of h2) hm ⟨v, H, I, r, po.here so (rp H) h⟩ h3.1.1
theorem qe_con {v : V} {p : PV} (h : PE X e (tC v)) (r : ∀ H, RepV X.K H p v) : QE X W e (fun _ S k _ => k p S) :=
  pe_mono h fun σ H Q ⟨env, S, k, x, eo, so, h, po, px⟩ => po.here so (r H) h
theorem qe_tup {kk : Nat} (h : QA X W es ms) (hl : es.length ≤ 1000) : QE X W (.Tuple es kk pos) (fun env S k x => ms env S (fun ps S1 => k (.tup ps) S1) x) := by
  refine pe_mono (pe_tup h) fun σ H Q ⟨env, S, k, x, eo, so, h, po, px⟩ => ?_
  refine arg_rd eo so px h fun ps S1 vs H1 st kp r hl2 q => ?_
  exact ⟨by rw [hl2, sizeLine_eq]; omega, (po.step st).tup st.ok r q⟩
theorem qe_lst (h : QA X W es ms) (hl : es.length ≤ 1000) : QE X W (.List es pos) (fun env S k x => ms env S (fun ps S1 => ∀ p, S1 p = none → k (.loc p) (sup S1 p (.lst ps))) x) := by
  refine pe_mono (pe_lst h) fun σ H Q ⟨env, S, k, x, eo, so, h, po, px⟩ => ?_
  refine arg_rd eo so px h fun ps S1 vs H1 st kp r hl2 q => ?_
  exact ⟨by rw [hl2, sizeLine_eq]; omega, (po.step st).lst st.ok r q⟩
theorem qe_bin {op : Operator} {r : Op2} (hop : OpR X (binaryOp op) (lift2 X.K r)) (ha : QE X W a ma) (hb : QE X W b mb) : QE X W (.BinOp a op b pos) (fun env S k x => ma env S (fun p S1 => mb env S1 (fun q S2 => r p q S2 k) x) x) :=
  pe_mono (pe_op hop ha hb) fun σ H Q ⟨env, S, k, x, eo, so, h, po, px⟩ => two_rd eo so px h fun p q S2 u v H2 st kp rp rq q2 => ⟨p, q, S2, k, rp, rq, st.ok, q2, po.step st⟩
theorem qe_neg (ha : QE X W a ma) : QE X W (.UnaryOp .USub a pos) (fun env S k x => ma env S (fun p S1 => negS p S1 k) x) :=
  pe_mono (pe_un un_neg ha) fun σ H Q ⟨env, S, k, x, eo, so, h, po, px⟩ => one_rd eo so px h fun p S1 u H1 st kp rp q => by
    cases rp <;> first | exact (show False from q).elim | skip
    exact ⟨_, rfl, (po.step st).here st.ok (.int _) q⟩
theorem qe_cmp {op : CmpOp} {r : Op2} (hop : OpR X (compareOp op) (lift2 X.K r)) (hm : behindInMarks op b = false) (ha : QE X W a ma) (hb : QE X W b mb) : QE X W (.Compare a [op] [b] pos) (fun env S k x => ma env S (fun p S1 => mb env S1 (fun q S2 => r p q S2 k) x) x) :=
  pe_mono (pe_cmpR hop ha hb hm) fun σ H Q ⟨env, S, k, x, eo, so, h, po, px⟩ => two_rd eo so px h fun p q S2 u v H2 st kp rp rq q2 => ⟨p, q, S2, k, rp, rq, st.ok, q2, po.step st⟩
/-- every answer is a truth value -/
def Bly (r : Op2) : Prop := ∀ p q S k, r p q S k → r p q S fun v S' => (∃ b, v = .bl b) ∧ k v S'
theorem qt_cmp {op : CmpOp} {r : Op2} (hop : OpR X (compareOp op) (lift2 X.K r)) (hm : behindInMarks op b = false) (hb' : Bly r) (ha : QE X W a ma) (hb : QE X W b mb) :
    QT X W (.Compare a [op] [b] pos) (fun env S k x => ma env S (fun p S1 => mb env S1 (fun q S2 => r p q S2 fun v S3 => truS v S3 fun t => k t S3) x) x) :=
  pt_mono (pt_cmpR hop ha hb hm) fun σ H Q ⟨env, S, k, x, eo, so, h, po, px⟩ => two_rd eo so px h fun p q S2 u v H2 st kp rp rq q2 =>
    ⟨p, q, S2, _, rp, rq, st.ok, hb' _ _ _ _ q2, fun w S3 y H3 st3 rw ⟨⟨t, e1⟩, q3⟩ => by
      subst e1
      cases rw
      exact ⟨t, rfl, po t S3 H3 (st.trans st3) q3⟩⟩
theorem bly_cmp (o : CO) : Bly (cmpS o) := by
  intro p q S k h
  cases o
  · cases p <;> cases q <;> first | exact h.elim | exact ⟨⟨_, rfl⟩, h⟩
  · cases p <;> cases q <;> first | exact h.elim | exact ⟨⟨_, rfl⟩, h⟩
  · cases p <;> cases q <;> first | exact h.elim | exact ⟨⟨_, rfl⟩, h⟩
  · cases p <;> cases q <;> first | exact h.elim | exact ⟨⟨_, rfl⟩, h⟩
  · rcases h with ⟨h1, h2⟩ | ⟨h1, h2, h3⟩
    · exact .inl ⟨h1, ⟨_, rfl⟩, h2⟩
    · exact .inr ⟨h1, h2, ⟨_, rfl⟩, h3⟩
  · rcases h with ⟨h1, h2⟩ | ⟨h1, h2, h3⟩
    · exact .inl ⟨h1, ⟨_, rfl⟩, h2⟩
    · exact .inr ⟨h1, h2, ⟨_, rfl⟩, h3⟩
  all_goals
    cases q <;> first | exact h.elim | skip
    · cases p <;> first | exact h.elim | exact ⟨⟨_, rfl⟩, h⟩
    · exact ⟨h.1, h.2.1, ⟨_, rfl⟩, h.2.2⟩
    · exact ⟨h.1, h.2.1, ⟨_, rfl⟩, h.2.2⟩
    · rcases h with ⟨xs, h1, h2, h3, h4⟩ | ⟨kvs, kk, h1, h2, h3⟩
      · exact .inl ⟨xs, h1, h2, h3, ⟨_, rfl⟩, h4⟩
      · exact .inr ⟨kvs, kk, h1, h2, ⟨_, rfl⟩, h3⟩
theorem cmp_okR (ok : XOk F T d c X W) (o : CO) : OpR X (compareOp (coOp o)) (lift2 X.K (cmpS o)) := by
  cases o
  · exact lt_ok
  · exact le_ok
  · exact gt_ok
  · exact ge_ok
  · exact eq_ok ok.u64
  · exact ne_ok ok.u64
  · exact in_ok ok.hu
  · exact nin_ok ok.hu
theorem bin_okR (o : BO) : OpR X (binaryOp (boOp o)) (lift2 X.K (binS o)) := by
  cases o
  · exact add_ok
  · exact sub_ok
  · exact mul_ok
  · exact div_ok
  · exact mod_ok
  · exact pow_ok
  · exact shl_ok
  · exact shr_ok
theorem qe_isn {n : Bool} {j : Nat} {p1 : Pos} (ha : QE X W a ma) : QE X W (.Compare a [if n then CmpOp.IsNot else CmpOp.Is] [.Constant .none j p1] pos) (fun env S k x => ma env S (fun p S1 => k (.bl (if n then !isNon p else isNon p)) S1) x) := by
  cases n
  · exact pe_mono (pe_cmpR op_isN ha pe_non rfl) fun σ H Q ⟨env, S, k, x, eo, so, h, po, px⟩ => one_rd eo so px h fun p S1 u H1 st kp rp q => ⟨rfl, (po.step st).here st.ok (p := .bl (isNon p)) (by rw [isnone_of rp]; exact .bl _) q⟩
  · exact pe_mono (pe_cmpR op_notN ha pe_non rfl) fun σ H Q ⟨env, S, k, x, eo, so, h, po, px⟩ => one_rd eo so px h fun p S1 u H1 st kp rp q => ⟨rfl, (po.step st).here st.ok (p := .bl (!isNon p)) (by rw [isnone_of rp]; exact .bl _) q⟩
theorem qt_isn {n : Bool} {j : Nat} {p1 : Pos} (ha : QE X W a ma) : QT X W (.Compare a [if n then CmpOp.IsNot else CmpOp.Is] [.Constant .none j p1] pos) (fun env S k x => ma env S (fun p S1 => k (if n then !isNon p else isNon p) S1) x) := by
  cases n
  · exact pt_mono (pt_cmpR op_isN ha pe_non rfl) fun σ H Q ⟨env, S, k, x, eo, so, h, po, px⟩ => one_rd eo so px h fun p S1 u H1 st kp rp q => ⟨rfl, _, rfl, by rw [isnone_of rp]; exact po _ _ _ st q⟩
  · exact pt_mono (pt_cmpR op_notN ha pe_non rfl) fun σ H Q ⟨env, S, k, x, eo, so, h, po, px⟩ => one_rd eo so px h fun p S1 u H1 st kp rp q => ⟨rfl, _, rfl, by rw [isnone_of rp]; exact po _ _ _ st q⟩
theorem qe_chn {o o' : CO} {b' : Expr} (ok : XOk F T d c X W) (hm : nset b' = true) (ha : QE X W a ma) (hb : QE X W b mb) (hc : QE X W b' mc) : QE X W (.Compare a [coOp o, coOp o'] [b, b'] pos)
    (fun env S k x => ma env S (fun p S1 => mb env S1 (fun q S2 => cmpS o p q S2 fun r S3 => chnS r S3 (mc env S3 (fun t S4 => cmpS o' q t S4 k) x) (k (.bl false) S3)) x) x) := by
  refine pe_mono (pe_chain (cmp_okR ok o) (cmp_okR ok o') ha hb hc (marks_no (op := coOp o') hm)) fun σ H Q ⟨env, S, k, x, eo, so, h, po, px⟩ => two_rd eo so px h fun p q S2 u v H2 st kp rp rq q2 => ?_
  refine ⟨p, q, S2, _, rp, rq, st.ok, bly_cmp o _ _ _ _ q2, fun w S3 y H3 st3 rw ⟨⟨t, e1⟩, q3⟩ => ?_⟩
  subst e1
  cases rw
  have k3 := st3.keeps st.ok
  cases t with
  | false => exact ⟨false, rfl, (po.step (st.trans st3)).here st3.ok (.bl false) q3⟩
  | true =>
    refine ⟨true, rfl, one_rd ((eo.keep kp).keep k3) st3.ok (px.step (st.trans st3)) q3 fun t S4 z H4 st4 kp4 rt q4 => ?_⟩
    exact ⟨q, t, S4, k, (rq.keep k3).keep kp4, rt, st4.ok, q4, po.step ((st.trans st3).trans st4)⟩
theorem qt_chn {o o' : CO} {b' : Expr} (ok : XOk F T d c X W) (hm : nset b' = true) (ha : QE X W a ma) (hb : QE X W b mb) (hc : QE X W b' mc) : QT X W (.Compare a [coOp o, coOp o'] [b, b'] pos)
    (fun env S k x => ma env S (fun p S1 => mb env S1 (fun q S2 => cmpS o p q S2 fun r S3 => chnS r S3 (mc env S3 (fun t S4 => cmpS o' q t S4 fun v S5 => truS v S5 fun b => k b S5) x) (k false S3)) x) x) := by
  refine pt_mono (pt_chain (cmp_okR ok o) (cmp_okR ok o') ha hb hc (marks_no (op := coOp o') hm)) fun σ H Q ⟨env, S, k, x, eo, so, h, po, px⟩ => two_rd eo so px h fun p q S2 u v H2 st kp rp rq q2 => ?_
  refine ⟨p, q, S2, _, rp, rq, st.ok, bly_cmp o _ _ _ _ q2, fun w S3 y H3 st3 rw ⟨⟨t, e1⟩, q3⟩ => ?_⟩
  subst e1
  cases rw
  have k3 := st3.keeps st.ok
  cases t with
  | false => exact ⟨false, rfl, false, rfl, po _ _ _ (st.trans st3) q3⟩
  | true =>
    refine ⟨true, rfl, one_rd ((eo.keep kp).keep k3) st3.ok (px.step (st.trans st3)) q3 fun t S4 z H4 st4 kp4 rt q4 => ?_⟩
    refine ⟨q, t, S4, _, (rq.keep k3).keep kp4, rt, st4.ok, bly_cmp o' _ _ _ _ q4, fun w S5 y H5 st5 rw ⟨⟨t5, e5⟩, q5⟩ => ?_⟩
    subst e5
    cases rw
    exact ⟨t5, rfl, po _ _ _ (((st.trans st3).trans st4).trans st5) q5⟩
theorem qe_not (ha : QE X W a ma) : QE X W (.UnaryOp .Not a pos) (fun env S k x => ma env S (fun p S1 => truS p S1 fun b => k (.bl (!b)) S1) x) :=
  pe_mono (pe_notT ha) fun σ H Q ⟨env, S, k, x, eo, so, h, po, px⟩ => one_rd eo so px h fun p S1 u H1 st kp rp q => by
    obtain ⟨b, h1, h2⟩ := tru_of rp st.ok q
    exact ⟨b, h1, (po.step st).here st.ok (.bl _) h2⟩
theorem qt_not {mt : MT} (ha : QT X W a mt) : QT X W (.UnaryOp .Not a pos) (fun env S k x => mt env S (fun b S1 => k (!b) S1) x) :=
  pt_mono (pt_not ha) fun σ H Q ⟨env, S, k, x, eo, so, h, po, px⟩ => tst_rd eo so px h fun b S1 H1 st kp q => po _ _ _ st q
theorem qe_ife {mt : MT} (hc : QT X W e mt) (ha : QE X W a ma) (hb : QE X W b mb) : QE X W (.IfExp e a b pos) (fun env S k x => mt env S (fun t S1 => if t = true then ma env S1 k x else mb env S1 k x) x) :=
  pe_mono (pe_ifExp hc ha hb) fun σ H Q ⟨env, S, k, x, eo, so, h, po, px⟩ => tst_rd eo so px h fun t S1 H1 st kp q => by
    cases t with
    | true => exact ⟨env, S1, k, x, eo.keep kp, st.ok, q, po.step st, px.step st⟩
    | false => exact ⟨env, S1, k, x, eo.keep kp, st.ok, q, po.step st, px.step st⟩
theorem qe_idx (ok : XOk F T d c X W) (hs : nsl b = true) (ha : QE X W a ma) (hb : QE X W b mb) : QE X W (.Subscript a b pos) (fun env S k x => ma env S (fun p S1 => mb env S1 (fun q S2 => ixS p q S2 k) x) x) :=
  pe_mono (pe_ix (ixS_ok ok.hu) ha hb (fun o i => ix_plain hs o i)) fun σ H Q ⟨env, S, k, x, eo, so, h, po, px⟩ => two_rd eo so px h fun p q S2 u v H2 st kp rp rq q2 => ⟨p, q, S2, k, rp, rq, st.ok, q2, po.step st⟩
theorem qt_plain (he : plainT a = true) (ha : QE X W a ma) : QT X W a (fun env S k x => ma env S (fun p S1 => truS p S1 fun b => k b S1) x) :=
  pt_mono (pt_truth ha (plain_true he)) fun σ H Q ⟨env, S, k, x, eo, so, h, po, px⟩ => one_rd eo so px h fun p S1 u H1 st kp rp q => by
    obtain ⟨b, h1, h2⟩ := tru_of rp st.ok q
    exact ⟨b, h1, po _ _ _ st h2⟩

/-! ### and, or -/
theorem tru_det {p : PV} {S : Store} {k : Bool → Prop} {u : Bool} {A : Prop} (h : truS p S fun b => if b = u then A else truS p S k) : truS p S fun b => if b = u then A else k b := by
  cases p with
  | non => by_cases e : false = u
           · simp only [truS, if_pos e] at h ⊢; exact h
           · simp only [truS, if_neg e] at h ⊢; exact h
  | bl b => by_cases e : b = u
            · simp only [truS, if_pos e] at h ⊢; exact h
            · simp only [truS, if_neg e] at h ⊢; exact h
  | int i => by_cases e : (i != 0) = u
             · simp only [truS, if_pos e] at h ⊢; exact h
             · simp only [truS, if_neg e] at h ⊢; exact h
  | str y => by_cases e : ((y.length : Int) != 0) = u
             · simp only [truS, if_pos e] at h ⊢; exact h
             · simp only [truS, if_neg e] at h ⊢; exact ⟨h.1, h.2.2⟩
  | tup xs => by_cases e : (!xs.isEmpty) = u
              · simp only [truS, if_pos e] at h ⊢; exact h
              · simp only [truS, if_neg e] at h ⊢; exact h
  | frl xs => by_cases e : (!xs.isEmpty) = u
              · simp only [truS, if_pos e] at h ⊢; exact h
              · simp only [truS, if_neg e] at h ⊢; exact h
  | loc a =>
    rcases h with ⟨xs, e1, h⟩ | ⟨kvs, e1, h⟩
    · refine .inl ⟨xs, e1, ?_⟩
      by_cases e : (!xs.isEmpty) = u
      · simp only [if_pos e] at h ⊢; exact h
      · simp only [if_neg e] at h ⊢
        rcases h with ⟨ys, e2, h⟩ | ⟨ys, e2, h⟩
        · rw [e1] at e2; cases e2; exact h
        · rw [e1] at e2; cases e2
    · refine .inr ⟨kvs, e1, ?_⟩
      by_cases e : (!kvs.isEmpty) = u
      · simp only [if_pos e] at h ⊢; exact h
      · simp only [if_neg e] at h ⊢
        rcases h with ⟨ys, e2, h⟩ | ⟨ys, e2, h⟩
        · rw [e1] at e2; cases e2
        · rw [e1] at e2; cases e2; exact h
def boolOpOf (u : Bool) : BoolOp := if u then .And else .Or
theorem qe_bop {u : Bool} {es : List Expr} (ha : QE X W a ma) (hb : QE X W (.BoolOp (boolOpOf u) (b :: es) pos) mb) : QE X W (.BoolOp (boolOpOf u) (a :: b :: es) pos)
    (fun env S k x => ma env S (fun p S1 => truS p S1 fun t => if t = u then mb env S1 k x else k p S1) x) := by
  cases u
  · refine pe_mono (pe_orT ha hb) fun σ H Q ⟨env, S, k, x, eo, so, h, po, px⟩ => one_rd eo so px h fun p S1 v H1 st kp rp q => ?_
    obtain ⟨t, h1, h2⟩ := tru_of rp st.ok q
    refine ⟨t, h1, ?_⟩
    cases t with
    | true => exact (po.step st).here st.ok rp h2
    | false => exact ⟨env, S1, k, x, eo.keep kp, st.ok, h2, po.step st, px.step st⟩
  · refine pe_mono (pe_andT ha hb) fun σ H Q ⟨env, S, k, x, eo, so, h, po, px⟩ => one_rd eo so px h fun p S1 v H1 st kp rp q => ?_
    obtain ⟨t, h1, h2⟩ := tru_of rp st.ok q
    refine ⟨t, h1, ?_⟩
    cases t with
    | false => exact (po.step st).here st.ok rp h2
    | true => exact ⟨env, S1, k, x, eo.keep kp, st.ok, h2, po.step st, px.step st⟩
theorem qw_bop {u : Bool} {es : List Expr} {mt mu : MT} (ha : QT X W a mt) (hb : QW X W (.BoolOp (boolOpOf u) (b :: es) pos) mu) : QW X W (.BoolOp (boolOpOf u) (a :: b :: es) pos)
    (fun env S k x => mt env S (fun t S1 => if t = u then mu env S1 k x else k t S1) x) := by
  cases u
  · refine pw_mono (pw_or ha hb) fun σ H Q ⟨env, S, k, x, eo, so, h, po, px⟩ => tst_rd eo so px h fun t S1 H1 st kp q => ?_
    cases t with
    | true => exact po _ _ _ st q
    | false => exact ⟨env, S1, k, x, eo.keep kp, st.ok, q, po.step st, px.step st⟩
  · refine pw_mono (pw_and ha hb) fun σ H Q ⟨env, S, k, x, eo, so, h, po, px⟩ => tst_rd eo so px h fun t S1 H1 st kp q => ?_
    cases t with
    | false => exact po _ _ _ st q
    | true => exact ⟨env, S1, k, x, eo.keep kp, st.ok, q, po.step st, px.step st⟩
end
end PL
namespace PL
open PySem PySem.Spec PyProof.Rows L2

section
variable {F : Inf} {T : Tab} {d : Nat} {c : Ctx} {X : Cx} {W : WX} {a b e e' : Expr} {es : List Expr} {pos : Pos} {ma mb mc : ME} {ms mq : MA}
theorem qa_nil : QA X W [] (fun _ S k _ => k [] S) := pa_mono pa_nil fun σ H Q ⟨env, S, k, x, eo, so, h, po, px⟩ => po [] S [] H (Step.refl so) .nil rfl h
theorem qa_cons (hn : nst e = true) (ha : QE X W e ma) (hr : QA X W es ms) : QA X W (e :: es) (fun env S k x => ma env S (fun p S1 => ms env S1 (fun ps S2 => k (p :: ps) S2) x) x) :=
  pa_mono (pa_cons ha hr (star_cons hn)) fun σ H Q ⟨env, S, k, x, eo, so, h, po, px⟩ => one_rd eo so px h fun p S1 v H1 st kp rp q =>
    arg_rd (eo.keep kp) st.ok (px.step st) q fun ps S2 vs H2 st2 kp2 rps hl q2 => po _ S2 _ H2 (st.trans st2) (.cons (rp.keep kp2) rps) (by rw [List.length_cons, hl]; rfl) q2
/-- the keywords' values -/
theorem qk_nil : PK X [] (rA X.K X.mg W 0 (fun _ S k _ => k [] S)) := ⟨fun pos pins s σ H Q I ⟨env, S, k, x, eo, so, h, po, px⟩ => pk_nil.run pos pins s σ H Q I (po [] S [] H (Step.refl so) .nil rfl h)⟩
theorem qk_cons {nm : Option Str} {kpos : Pos} {kws : List Keyword} {n : Nat} (ha : QE X W e ma) (hr : PK X kws (rA X.K X.mg W n ms)) : PK X (⟨nm, e, kpos⟩ :: kws) (rA X.K X.mg W (n + 1) (fun env S k x => ma env S (fun p S1 => ms env S1 (fun ps S2 => k (p :: ps) S2) x) x)) :=
  ⟨fun pos pins s σ H Q I ⟨env, S, k, x, eo, so, h, po, px⟩ => (pk_cons ha hr).run pos pins s σ H Q I (one_rd eo so px h fun p S1 v H1 st kp rp q =>
    arg_rd (eo.keep kp) st.ok (px.step st) q fun ps S2 vs H2 st2 kp2 rps hl q2 => po _ S2 _ H2 (st.trans st2) (.cons (rp.keep kp2) rps) (by rw [List.length_cons, hl]) q2)⟩

/-! ### dict displays -/
theorem key_ex {k : Key} {e : Expr} (h : keyEx k e = true) : PE X e (tC (kV k)) := by
  cases k <;> cases e <;> first | (simp [keyEx] at h; done) | skip
  · rename_i i v kk p
    cases v <;> first | (simp [keyEx] at h; done) | skip
    simp only [keyEx, decide_eq_true_eq] at h
    subst h
    exact pe_int
  · rename_i i v kk p
    cases v <;> first | (simp [keyEx] at h; done) | skip
    simp only [keyEx, decide_eq_true_eq] at h
    subst h
    exact pe_str
def trsOf (K : PySem.W.Frag) : List Key → List TE → List (TE × TE)
  | [], _ => []
  | _, [] => []
  | k :: ks, t :: ts => (tC (kV k), t) :: trsOf K ks ts
/-- the values alone decide -/
structure QPs (X : Cx) (W : WX) (ks : List Key) (kes : List (Option Expr)) (ves : List Expr) (m : MA) : Prop where
  run : ∀ pos, ∃ trs, PPs X pos kes ves trs ∧ ∀ σ H Q, (∃ env S k x, EnvOk X.K H env σ ∧ StOk X.K H S ∧ m env S k x ∧ (∀ ps S' vs H', Step X.K H S H' S' → RepVs X.K H' ps vs → vs.length = ves.length → k ps S' → Q ((ks.map kV).zip vs) H') ∧ PostX X.K X.mg H S W σ x) → tPairs trs σ H Q
theorem qp_nil : QPs X W [] [] [] (fun _ S k _ => k [] S) := ⟨fun pos => ⟨[], pps_nil, fun σ H Q ⟨env, S, k, x, eo, so, h, po, px⟩ => po [] S [] H (Step.refl so) .nil rfl h⟩⟩
theorem qp_cons {k : Key} {ks : List Key} {ke : Expr} {kes : List (Option Expr)} (hk : keyEx k ke = true) (ha : QE X W e ma) (hr : QPs X W ks kes es ms) : QPs X W (k :: ks) (some ke :: kes) (e :: es) (fun env S k x => ma env S (fun p S1 => ms env S1 (fun ps S2 => k (p :: ps) S2) x) x) := by
  refine ⟨fun pos => ?_⟩
  obtain ⟨trs, h1, h2⟩ := hr.run pos
  refine ⟨_, pps_cons (key_ex hk) ha h1, fun σ H Q ⟨env, S, k, x, eo, so, h, po, px⟩ => ?_⟩
  refine one_rd eo so px h fun p S1 v H1 st kp rp q => ?_
  refine h2 σ H1 _ ⟨env, S1, _, x, eo.keep kp, st.ok, q, fun ps S' vs H' st2 rps hl q2 => ?_, px.step st⟩
  exact po _ S' _ H' (st.trans st2) (.cons (rp.keep (st2.keeps st.ok)) rps) (by rw [List.length_cons, hl]; rfl) q2
theorem merge_rep {K : PySem.W.Frag} {H : Hp} : ∀ (ks : List Key) (ps : List PV) (vs : List V) (acc : List (Key × PV)) (acc' : List (Key × V)), RepVs K H ps vs → acc.map (·.1) = acc'.map (·.1) → RepVs K H (acc.map (·.2)) (acc'.map (·.2)) →
    ((ks.zip ps).foldl (fun acc kv => putKP acc kv.1 kv.2) acc).map (·.1) = (mergeK acc' (ks.zip vs)).map (·.1) ∧
      RepVs K H (((ks.zip ps).foldl (fun acc kv => putKP acc kv.1 kv.2) acc).map (·.2)) ((mergeK acc' (ks.zip vs)).map (·.2))
  | [], _, _, _, _, _, e, r => by simpa [mergeK] using ⟨e, r⟩
  | k :: ks, [], _, _, _, h, e, r => by cases h; simpa [mergeK] using ⟨e, r⟩
  | k :: ks, p :: ps, _, acc, acc', h, e, r => by
    cases h with
    | cons h1 h2 =>
      obtain ⟨i1, i2⟩ := put_of (kk := k) h1 e r
      exact merge_rep ks ps _ _ _ h2 i1 i2
theorem keys_len : ∀ {ks : List Key} {kes : List (Option Expr)}, keysEx ks kes = true → ks.length = kes.length ∧ kes.all (·.isSome) = true
  | [], [], _ => ⟨rfl, rfl⟩
  | [], _ :: _, h => by simp [keysEx] at h
  | _ :: _, [], h => by simp [keysEx] at h
  | k :: ks, none :: kes, h => by simp [keysEx] at h
  | k :: ks, some e :: kes, h => by
    simp only [keysEx, Bool.and_eq_true] at h
    obtain ⟨h1, h2⟩ := keys_len h.2
    exact ⟨by rw [List.length_cons, List.length_cons, h1], by rw [List.all_cons, h2]; rfl⟩
theorem zip_keys : ∀ (ks : List Key) (vs : List V), vs.length = ks.length → (ks.map kV).zip vs = (ks.zip vs).map (fun kv => (kV kv.1, kv.2))
  | [], [], _ => rfl
  | [], _ :: _, h => by simp at h
  | _ :: _, [], h => by simp at h
  | k :: ks, v :: vs, h => by
    simp only [List.map_cons, List.zip_cons_cons, List.cons.injEq, true_and]
    exact zip_keys ks vs (by simpa using h)
theorem qe_dic0 : QE X W (.Dict [] [] pos) (fun _ S k _ => ∀ p, S p = none → k (.loc p) (sup S p (.dic []))) :=
  pe_mono pe_dnewK fun σ H Q ⟨env, S, k, x, eo, so, h, po, px⟩ p n => po _ _ _ _ (Step.add (m := .dic []) so n ⟨[], upd_same, rfl, .nil⟩) (.loc p) (h p (so.free n))
theorem qe_dic {ks : List Key} {kes : List (Option Expr)} (hk : keysEx ks kes = true) (hl : kes.length = es.length) (h15 : kes.length ≤ 15) (h0 : kes ≠ []) (h : QPs X W ks kes es ms) : QE X W (.Dict kes es pos) (fun env S k x => ms env S (fun ps S1 => ∀ p, S1 p = none → k (.loc p) (sup S1 p (.dic (dicOf ks ps)))) x) := by
  obtain ⟨l1, l2⟩ := keys_len hk
  refine pe_mono (pe_disp (h.run pos).choose_spec.1 l2 hl h0 h15) fun σ H Q ⟨env, S, k, x, eo, so, hm, po, px⟩ => ?_
  intro p n
  have sh := Step.hid (o := .dK []) so n
  refine (h.run pos).choose_spec.2 σ _ _ ⟨env, S, _, x, eo.keep (keeps_new n), sh.ok, hm, fun ps S' vs H' st rps hl2 q => ?_, px.step sh⟩
  have hS' : S' p = none := by
    cases z : S' p with
    | none => rfl
    | some o =>
      rcases st.nw p (by rw [z]; simp) with y | y
      · exact absurd (so.free n) y
      · rw [upd_same] at y; cases y
  have hp : H' p = some (.dK []) := st.fr p _ upd_same (so.free n)
  refine ⟨hp, ks.zip vs, zip_keys ks vs (by rw [l1, hl]; exact hl2), ?_, ?_⟩
  · rw [List.length_zip]
    exact Nat.le_trans (Nat.min_le_left _ _) (by rw [l1]; exact h15)
  · obtain ⟨i1, i2⟩ := merge_rep (H := H') ks ps vs [] [] rps rfl .nil
    have sa := sh.trans st
    have ku : Keeps X.K H' (upd H' p (.dK (mergeK [] (ks.zip vs)))) := keeps_put hp True.intro
    refine po _ (sup S' p (.dic (dicOf ks ps))) _ _ ⟨fun b o hb hn => ?_, fun b hb => ?_, fun b hb => ?_, fun b o hb => ?_⟩ (.loc p) (q p hS')
    · have hbp : b ≠ p := fun z => by rw [z, n] at hb; cases hb
      rw [upd_ne hbp]
      exact sa.fr b o hb hn
    · by_cases hbp : b = p
      · subst hbp; rw [upd_same]; simp
      · rw [upd_ne hbp]; exact sa.ks b hb
    · by_cases hbp : b = p
      · subst hbp; exact .inr n
      · rw [sup_ne hbp] at hb; exact sa.nw b hb
    · by_cases hbp : b = p
      · subst hbp
        rw [sup_same] at hb
        cases hb
        exact ⟨_, upd_same, i1, i2.keep ku⟩
      · rw [sup_ne hbp] at hb
        exact (sa.ok b o hb).keep ku (by rw [upd_ne hbp])

/-! ### slices -/
def QO (X : Cx) (W : WX) (e : Option Expr) (m : MA) : Prop := PO X e (fun σ H Q => ∃ (env : PEnv) (S : Store) (k : Option Int → Store → Prop) (x : Xt), EnvOk X.K H env σ ∧ StOk X.K H S ∧ m env S (fun ls S' => partS ls fun l => k l S') x ∧ (∀ l S' H', Step X.K H S H' S' → k l S' → Q l H') ∧ PostX X.K X.mg H S W σ x)
theorem qo_none : QO X W none (fun _ S k _ => k [] S) := ⟨fun pins s σ H Q I ⟨env, S, k, x, eo, so, h, po, px⟩ => po_none.run pins s σ H Q I (po none S H (Step.refl so) h)⟩
theorem qo_some (ha : QE X W e ma) : QO X W (some e) (fun env S k x => ma env S (fun p S1 => k [p] S1) x) :=
  ⟨fun pins s σ H Q I ⟨env, S, k, x, eo, so, h, po, px⟩ => (po_some ha).run pins s σ H Q I (one_rd eo so px h fun p S1 v H1 st kp rp q => by
    cases rp <;> first | exact (show False from q).elim | skip
    exact ⟨_, rfl, po _ _ _ st q⟩)⟩
theorem qe_slc {lo hi : Option Expr} {p2 : Pos} (ha : QE X W a ma) (hl : QO X W lo ms) (hu : QO X W hi mq) : QE X W (.Subscript a (.Slice lo hi none p2) pos)
    (fun env S k x => ma env S (fun p S1 => ms env S1 (fun ls S2 => partS ls fun l => mq env S2 (fun hs S3 => partS hs fun h => slS p l h S3 k) x) x) x) :=
  pe_mono (pe_slice sl_ok ha hl hu) fun σ H Q ⟨env, S, k, x, eo, so, h, po, px⟩ => one_rd eo so px h fun p S1 v H1 st kp rp q => by
    refine ⟨env, S1, _, x, eo.keep kp, st.ok, q, fun l S2 H2 st2 q2 => ?_, px.step st⟩
    have kp2 := st2.keeps st.ok
    refine ⟨env, S2, _, x, (eo.keep kp).keep kp2, st2.ok, q2, fun u S3 H3 st3 q3 => ?_, px.step (st.trans st2)⟩
    exact ⟨p, S3, k, (rp.keep kp2).keep (st3.keeps st2.ok), st3.ok, q3, po.step ((st.trans st2).trans st3)⟩

/-! ### calls -/
theorem qe_call (ok : XOk F T d c X W) {f : Nat} {n : Str} {prs : List Str} {p1 : Pos} (hf : F.fns[f]? = some (n, prs)) (hg : glB c.sc n = true) (hn : okName n = true) (hst : es.all nst = true) (hne : es ≠ []) (ha : QA X W es ms) : QE X W (.Call (.Name n p1) es [] pos) (fun env S k x => ms env S (fun ps S1 => T.fn f ps S1 k x) x) := by
  unfold okName at hn
  simp only [Bool.and_eq_true, Bool.not_eq_true'] at hn
  obtain ⟨fa, fd, hm, hk, hb, _, G⟩ := ok.gl.fn f n prs hf
  have hG : Gl X n := by show X.env.scope.names.lookup n = _; rw [ok.sc]; exact gl_of hg
  refine ⟨fun pins s σ H Q I ⟨env, S, k, x, eo, so, h, po, px⟩ => ?_⟩
  refine wpAny_Call_Name_kw (ld_glob I hG hm ?_ hn.1.1)
  have rd : rA X.K X.mg W es.length ms σ H fun vs H1 => ∃ ps S1, Step X.K H S H1 S1 ∧ RepVs X.K H1 ps vs ∧ T.fn f ps S1 k x := arg_rd eo so px h fun ps S1 vs H1 st kp r hl q => ⟨ps, S1, st, r, q⟩
  have fin : ∀ {s1 : Shared} {us : List Value}, AP X pins σ (fun vs H1 => ∃ ps S1, Step X.K H S H1 S1 ∧ RepVs X.K H1 ps vs ∧ T.fn f ps S1 k x) us s1 → X.K.In s1.heap ∧ wpAny (model X.prog X.w) X.A (call (.ref fa) us) (EP X pins σ Q) X.xe s1 := by
    rintro s1 us ⟨vs, H1, I1, r1, ps, S1, st, rp, q⟩
    exact ⟨I1.kIn, fn_run ok hf hb G rp r1 st.ok q (po.step st) (px.step st) I1⟩
  cases es with
  | nil => exact absurd rfl hne
  | cons e es =>
    rw [List.all_cons, Bool.and_eq_true] at hst
    exact PySem.W.callWith_K (h₀ := X.base) I.ok.mod.kin hk (thn (ha.run pos pins s σ H _ I rd) fun us s1 q => fin q) (star_cons hst.1) (star_plain hst.2)
theorem qe_call0 (ok : XOk F T d c X W) {f : Nat} {n : Str} {prs : List Str} {p1 : Pos} (hf : F.fns[f]? = some (n, prs)) (hg : glB c.sc n = true) (hn : okName n = true) : QE X W (.Call (.Name n p1) [] [] pos) (fun env S k x => T.fn f [] S k x) := by
  unfold okName at hn
  simp only [Bool.and_eq_true, Bool.not_eq_true'] at hn
  obtain ⟨fa, fd, hm, hk, hb, _, G⟩ := ok.gl.fn f n prs hf
  have hG : Gl X n := by show X.env.scope.names.lookup n = _; rw [ok.sc]; exact gl_of hg
  refine ⟨fun pins s σ H Q I ⟨env, S, k, x, eo, so, h, po, px⟩ => ?_⟩
  refine wpAny_Call_Name_kw (ld_glob I hG hm ?_ hn.1.1)
  exact PySem.W.callWith_K0 I.kIn hk (fn_run (us := []) ok hf hb G .nil .nil so h po px I)
theorem kws_plain {env : Env} : ∀ {kws : List Keyword} {ks : List Str}, kwNames kws = ks.map some → (backToKw pos (keywordEach kws env)).all (·.1.isSome) = true ∧ (backToKw pos (keywordEach kws env)).filterMap (·.1) = ks ∧ (backToKw pos (keywordEach kws env)).any (·.1.isNone) = false ∧ (kwVals kws).length = ks.length
  | [], [], _ => ⟨rfl, rfl, rfl, rfl⟩
  | [], _ :: _, h => by simp [kwNames] at h
  | _ :: _, [], h => by simp [kwNames] at h
  | ⟨nm, v, p⟩ :: kws, k :: ks, h => by
    simp only [kwNames, List.map_cons, List.cons.injEq] at h
    obtain ⟨rfl, h⟩ := h
    obtain ⟨h1, h2, h3, h4⟩ := kws_plain (env := env) h
    refine ⟨?_, ?_, ?_, by simp only [kwVals, List.length_cons, h4]⟩
    · show (true && (backToKw pos (keywordEach kws env)).all (·.1.isSome)) = true
      rw [h1]; rfl
    · show k :: (backToKw pos (keywordEach kws env)).filterMap (·.1) = k :: ks
      rw [h2]
    · show (false || (backToKw pos (keywordEach kws env)).any (·.1.isNone)) = false
      rw [h3]; rfl
theorem qe_callk (ok : XOk F T d c X W) {f : Nat} {n : Str} {prs ks : List Str} {pm : List Nat} {kws : List Keyword} {p1 : Pos} (hf : F.fns[f]? = some (n, prs)) (hg : glB c.sc n = true) (hn : okName n = true) (hst : es.all nst = true) (hes : es ≠ []) (hk : kwNames kws = ks.map some) (hne : ks ≠ []) (hkw : (f, ks, pm) ∈ F.kws) (hl : es.length + ks.length = pm.length)
    (ha : QA X W es ms) (hb' : PK X kws (rA X.K X.mg W (kwVals kws).length mq)) : QE X W (.Call (.Name n p1) es kws pos) (fun env S k x => ms env S (fun ps S1 => mq env S1 (fun qs S2 => T.fn f (perm pm (ps ++ qs)) S2 k x) x) x) := by
  unfold okName at hn
  simp only [Bool.and_eq_true, Bool.not_eq_true'] at hn
  obtain ⟨fa, fd, hm, hkp, _, hb, G⟩ := ok.gl.fn f n prs hf
  have hG : Gl X n := by show X.env.scope.names.lookup n = _; rw [ok.sc]; exact gl_of hg
  refine ⟨fun pins s σ H Q I ⟨env, S, k, x, eo, so, h, po, px⟩ => ?_⟩
  obtain ⟨k1, k2, k3, k4⟩ := kws_plain (pos := pos) (env := X.env) hk
  refine wpAny_Call_Name_kw (ld_glob I hG hm ?_ hn.1.1)
  have fin : ∀ {s2 : Shared} {us ws : List Value} {vs zs : List V} {H2 : Hp} {ps qs : List PV} {S2 : Store}, Inv X pins σ H2 s2 → Step X.K H S H2 S2 → Vals vs us → Vals zs ws → RepVs X.K H2 ps vs → RepVs X.K H2 qs zs → vs.length = es.length → zs.length = (kwVals kws).length → T.fn f (perm pm (ps ++ qs)) S2 k x →
      wpAny (model X.prog X.w) X.A (call (.ref fa) us (ks.zip ws)) (EP X pins σ Q) X.xe s2 := fun {s2 us ws vs zs H2 ps qs S2} I2 st rv rz rp rq l1 l2 q =>
    fn_runk ok hf (hb ks pm hkw) G rp rq rv rz (by rw [← rv.length, l1]; exact hl) (by rw [← rz.length, l2, k4]) st.ok q (po.step st) (px.step st) I2
  cases es with
  | nil => exact absurd rfl hes
  | cons e es =>
    have hst' := hst
    rw [List.all_cons, Bool.and_eq_true] at hst
    refine PySem.W.callWith_KW (h₀ := X.base) I.ok.mod.kin hkp k1 ?_ (by rw [star_plain hst', k3]; rfl) (star_cons hst.1)
    have r0 : rA X.K X.mg W (e :: es).length ms σ H (fun vs H1 => vs.length = (e :: es).length ∧ rA X.K X.mg W (kwVals kws).length mq σ H1 fun zs H2 => ∃ ps qs S2, Step X.K H S H2 S2 ∧ RepVs X.K H2 ps vs ∧ RepVs X.K H2 qs zs ∧ zs.length = (kwVals kws).length ∧ T.fn f (perm pm (ps ++ qs)) S2 k x) :=
      arg_rd eo so px h fun ps S1 vs H1 st kp r hl q => ⟨hl, arg_rd (eo.keep kp) st.ok (px.step st) q fun qs S2 zs H2 st2 kp2 rq hl2 q2 => ⟨ps, qs, S2, st.trans st2, r.keep kp2, rq, hl2, q2⟩⟩
    refine thn (ha.run pos pins s σ H _ I r0) fun us s1 ⟨vs, H1, I1, rv, hl1, r3⟩ => ?_
    refine thn (hb'.run pos pins s1 σ H1 _ I1 r3) fun ws s2 ⟨zs, H2, I2, rz, ps, qs, S2, st, rp, rq, l2, q⟩ => ⟨I2.kIn, ?_⟩
    rw [k2]
    exact fin (us := us) I2 st rv rz rp rq hl1 l2 q
theorem qe_callk0 (ok : XOk F T d c X W) {f : Nat} {n : Str} {prs ks : List Str} {pm : List Nat} {kws : List Keyword} {p1 : Pos} (hf : F.fns[f]? = some (n, prs)) (hg : glB c.sc n = true) (hn : okName n = true) (hk : kwNames kws = ks.map some) (hkw : (f, ks, pm) ∈ F.kws) (hl : ks.length = pm.length)
    (hb' : PK X kws (rA X.K X.mg W (kwVals kws).length mq)) : QE X W (.Call (.Name n p1) [] kws pos) (fun env S k x => mq env S (fun qs S2 => T.fn f (perm pm ([] ++ qs)) S2 k x) x) := by
  unfold okName at hn
  simp only [Bool.and_eq_true, Bool.not_eq_true'] at hn
  obtain ⟨fa, fd, hm, hkp, _, hb, G⟩ := ok.gl.fn f n prs hf
  have hG : Gl X n := by show X.env.scope.names.lookup n = _; rw [ok.sc]; exact gl_of hg
  refine ⟨fun pins s σ H Q I ⟨env, S, k, x, eo, so, h, po, px⟩ => ?_⟩
  obtain ⟨k1, k2, k3, k4⟩ := kws_plain (pos := pos) (env := X.env) hk
  refine wpAny_Call_Name_kw (ld_glob I hG hm ?_ hn.1.1)
  refine PySem.W.callWith_KW0 (h₀ := X.base) I.ok.mod.kin hkp k1 ?_ (by show (false || _) = false; rw [k3]; rfl)
  have r0 : rA X.K X.mg W (kwVals kws).length mq σ H (fun zs H2 => ∃ qs S2, Step X.K H S H2 S2 ∧ RepVs X.K H2 qs zs ∧ zs.length = (kwVals kws).length ∧ T.fn f (perm pm ([] ++ qs)) S2 k x) :=
    arg_rd eo so px h fun qs S2 zs H2 st kp r hl q => ⟨qs, S2, st, r, hl, q⟩
  refine thn (hb'.run pos pins s σ H _ I r0) fun ws s2 ⟨zs, H2, I2, rz, qs, S2, st, rq, l2, q⟩ => ⟨I2.kIn, ?_⟩
  rw [k2]
  exact fn_runk (us := []) (vs := []) ok hf (hb ks pm hkw) G .nil rq .nil rz (by rw [List.length_nil, Nat.zero_add]; exact hl) (by rw [← rz.length, l2, k4]) st.ok q (po.step st) (px.step st) I2

/-! ### built-ins -/
theorem qe_biB (ok : XOk F T d c X W) {n : Str} {p1 : Pos} {id : String} {r : OpN} (hr : CallR X (.builtin id) (liftN X.K r)) (hv : bootBuiltins n = some (.builtin id)) (hn : n ≠ "__name__") (hd : (n == ("__debug__" : Str)) = false) (hm : n ∈ F.bis) (hg : glB c.sc n = true) (hst : es.all nst = true) (hne : es ≠ []) (ha : QA X W es ms) :
    QE X W (.Call (.Name n p1) es [] pos) (fun env S k x => ms env S (fun ps S1 => r ps S1 k) x) := by
  cases es with
  | nil => exact absurd rfl hne
  | cons e es =>
    rw [List.all_cons, Bool.and_eq_true] at hst
    exact pe_mono (pe_callB hr (show X.env.scope.names.lookup n = _ by rw [ok.sc]; exact gl_of hg) (ok.gl.bi n hm) hv ha hn hd (star_cons hst.1) (star_plain hst.2)) fun σ H Q ⟨env, S, k, x, eo, so, h, po, px⟩ =>
      arg_rd eo so px h fun ps S1 vs H1 st kp r hl q => ⟨ps, S1, k, r, st.ok, q, po.step st⟩
theorem qe_biT (ok : XOk F T d c X W) {n : Str} {p1 : Pos} {id : String} {r : OpN} (hr : CallR X (.type id) (liftN X.K r)) (hv : bootBuiltins n = some (.type id)) (hn : n ≠ "__name__") (hd : (n == ("__debug__" : Str)) = false) (hm : n ∈ F.bis) (hg : glB c.sc n = true) (hst : es.all nst = true) (hne : es ≠ []) (ha : QA X W es ms) :
    QE X W (.Call (.Name n p1) es [] pos) (fun env S k x => ms env S (fun ps S1 => r ps S1 k) x) := by
  cases es with
  | nil => exact absurd rfl hne
  | cons e es =>
    rw [List.all_cons, Bool.and_eq_true] at hst
    exact pe_mono (pe_callTy hr (show X.env.scope.names.lookup n = _ by rw [ok.sc]; exact gl_of hg) (ok.gl.bi n hm) hv ha hn hd (star_cons hst.1) (star_plain hst.2)) fun σ H Q ⟨env, S, k, x, eo, so, h, po, px⟩ =>
      arg_rd eo so px h fun ps S1 vs H1 st kp r hl q => ⟨ps, S1, k, r, st.ok, q, po.step st⟩
theorem qe_bi (ok : XOk F T d c X W) {p1 : Pos} (b : BI) (hm : biName b ∈ F.bis) (hg : glB c.sc (biName b) = true) (hst : es.all nst = true) (hne : es ≠ []) (ha : QA X W es ms) :
    QE X W (.Call (.Name (biName b) p1) es [] pos) (fun env S k x => ms env S (fun ps S1 => biS b ps S1 k) x) := by
  cases b
  · exact qe_biB ok len_ok (by decide +kernel) (by decide) (by decide) hm hg hst hne ha
  · exact qe_biB ok abs_ok (by decide +kernel) (by decide) (by decide) hm hg hst hne ha
  · exact qe_biB ok (max_ok ok.calm) (by decide +kernel) (by decide) (by decide) hm hg hst hne ha
  · exact qe_biB ok (min_ok ok.calm) (by decide +kernel) (by decide) (by decide) hm hg hst hne ha
  · exact qe_biB ok (sum_ok ok.calm) (by decide +kernel) (by decide) (by decide) hm hg hst hne ha
  · exact qe_biB ok srt_ok (by decide +kernel) (by decide) (by decide) hm hg hst hne ha
  · exact qe_biT ok int_ok (by decide +kernel) (by decide) (by decide) hm hg hst hne ha
  · exact qe_biT ok str_ok (by decide +kernel) (by decide) (by decide) hm hg hst hne ha
  · exact qe_biT ok tup_ok (by decide +kernel) (by decide) (by decide) hm hg hst hne ha
  · exact qe_biT ok lst_ok (by decide +kernel) (by decide) (by decide) hm hg hst hne ha
theorem boot_ti (t : TyI) (h : t ≠ .non) : bootBuiltins (tiStr t) = some (.type (tiName t)) := by
  cases t <;> first | exact absurd rfl h | decide +kernel
theorem ti_names (t : TyI) : tiStr t ≠ "__name__" ∧ (tiStr t == ("__debug__" : Str)) = false := by
  cases t <;> exact ⟨by decide, by decide⟩
theorem qe_isi (ok : XOk F T d c X W) {p1 p2 : Pos} (t : TyI) (ht : t ≠ .non) (hm : ("isinstance" : Str) ∈ F.bis) (hg : glB c.sc "isinstance" = true) (hm2 : tiStr t ∈ F.bis) (hg2 : glB c.sc (tiStr t) = true) (hn : nst a = true) (ha : QE X W a ma) :
    QE X W (.Call (.Name "isinstance" p1) [a, .Name (tiStr t) p2] [] pos) (fun env S k x => ma env S (fun p S1 => isiS t p S1 k) x) := by
  have hty : PE X (.Name (tiStr t) p2) (tC (.ty (tiName t))) := pe_bltn (show X.env.scope.names.lookup (tiStr t) = _ by rw [ok.sc]; exact gl_of hg2) (ok.gl.bi _ hm2) (boot_ti t ht) (show RelV (.ty (tiName t)) (.type (tiName t)) from rfl) (ti_names t).1 (ti_names t).2
  refine pe_mono (pe_callB (isi_ok ht) (show X.env.scope.names.lookup ("isinstance" : Str) = _ by rw [ok.sc]; exact gl_of hg) (ok.gl.bi _ hm) (by decide +kernel) (pa_cons ha (pa_cons hty pa_nil) (star_cons hn)) (by decide) (by decide) (star_cons hn) rfl) fun σ H Q ⟨env, S, k, x, eo, so, h, po, px⟩ => ?_
  exact one_rd eo so px h fun p S1 v H1 st kp rp q => ⟨p, v, S1, k, rfl, rp, st.ok, q, po.step st⟩

/-! ### methods -/
theorem mt_ty {K : PySem.W.Frag} {H : Hp} {S : Store} {m : MI} {p : PV} {v : V} (so : StOk K H S) (rp : RepV K H p v) (h : mtTy m p S) : tyV K "list" v H := by
  obtain ⟨a, xs, rfl, e⟩ := h
  cases rp
  obtain ⟨ys, hy, _⟩ := so.lst e
  exact .inl ⟨rfl, ys, SqL.of hy⟩
theorem qe_mtN {nm : Str} {id : String} {ap : Pos} {m : MI} {r : OpM} (slot : Slot "list" nm id) (hty : typeOf (.builtin id) = pure (.type "method_descriptor")) (hr : MtR X id (liftM X.K "list" r)) (hs : nsup a = true) (hl : (ap.endLine == pos.line) = true) (h30 : es.length < 30) (hst : es.all nst = true) (hne : es ≠ []) (ha : QE X W a ma) (hb : QA X W es ms) :
    QE X W (.Call (.Attribute a nm ap) es [] pos) (fun env S k x => ma env S (fun p S1 => mtTy m p S1 ∧ ms env S1 (fun ps S2 => r p ps S2 k) x) x) := by
  cases es with
  | nil => exact absurd rfl hne
  | cons e es =>
    have hst' := hst
    rw [List.all_cons, Bool.and_eq_true] at hst
    refine pe_mono (pe_bm PySem.F.plainAttrs_list slot hty hr ha hb (base_ok hs) (few_ok hst' h30) hl (star_cons hst.1) (star_plain hst.2)) fun σ H Q ⟨env, S, k, x, eo, so, h, po, px⟩ => one_rd eo so px h fun p S1 v H1 st kp rp ⟨q1, q2⟩ => ?_
    refine ⟨mt_ty st.ok rp q1, arg_rd (eo.keep kp) st.ok (px.step st) q2 fun ps S2 vs H2 st2 kp2 rps hl2 q3 => ?_⟩
    exact ⟨p, ps, S2, k, rp.keep kp2, rps, st2.ok, q3, po.step (st.trans st2)⟩
theorem qe_mt0 {nm : Str} {id : String} {ap : Pos} {m : MI} {r : OpM} (slot : Slot "list" nm id) (hty : typeOf (.builtin id) = pure (.type "method_descriptor")) (hr : MtR X id (liftM X.K "list" r)) (hs : nsup a = true) (hl : (ap.endLine == pos.line) = true) (ha : QE X W a ma) :
    QE X W (.Call (.Attribute a nm ap) [] [] pos) (fun env S k x => ma env S (fun p S1 => mtTy m p S1 ∧ r p [] S1 k) x) :=
  pe_mono (pe_bm0 PySem.F.plainAttrs_list slot hty hr ha (base_ok hs) hl) fun σ H Q ⟨env, S, k, x, eo, so, h, po, px⟩ => one_rd eo so px h fun p S1 v H1 st kp rp ⟨q1, q2⟩ =>
    ⟨mt_ty st.ok rp q1, p, [], S1, k, rp, .nil, st.ok, q2, po.step st⟩
end
end PL
namespace PL
open PySem PySem.Spec PyProof.Rows L2

/-! ### what is walked -/
structure WalkP (K : PySem.W.Frag) (H0 : Hp) (J : L2.It) (items : List PV) (stay : Store → Prop) : Prop where
  go : ∀ i H S, Keeps K H0 H → StOk K H S → stay S → i < items.length → J.go i H
  stop : ∀ H S, Keeps K H0 H → StOk K H S → stay S → J.stop items.length H
  yld : ∀ i H S v H', Keeps K H0 H → StOk K H S → stay S → i < items.length → J.yld i H v H' → Step K H S H' S ∧ ∃ p, items[i]? = some p ∧ RepV K H' p v
abbrev MI' := PEnv → Store → Ki → Xt → Prop
def rI (K : PySem.W.Frag) (mg : Str → Option Value) (W : WX) (m : MI') : TI := fun σ H R => ∃ env S k x, EnvOk K H env σ ∧ StOk K H S ∧ m env S k x ∧ PostX K mg H S W σ x ∧
  ∀ items stay S1 J H1, Step K H S H1 S1 → WalkP K H1 J items stay → k items stay S1 → R J H1
def QI (X : Cx) (W : WX) (tg e : Expr) (m : MI') : Prop := PI X tg e (rI X.K X.mg W m)
section
variable {K : PySem.W.Frag} {H0 : Hp}
theorem walk_l {a : Addr} {xs : List V} {ps : List PV} (hx : FzL K H0 a xs) (r : RepVs K H0 ps xs) : WalkP K H0 (Itl K a) ps (fun _ => True) := by
  refine ⟨fun i H S kp _ _ hi => ?_, fun H S kp _ _ => ?_, fun i H S v H' kp so _ hi y => ?_⟩
  · rw [r.length] at hi
    exact ⟨xs, xs[i], (kp.2 _ _ hx).sq, by simp [hi]⟩
  · exact ⟨xs, (kp.2 _ _ hx).sq, by rw [r.length]; exact Nat.le_refl _⟩
  · obtain ⟨rfl, y⟩ := y
    obtain ⟨p, h1, h2⟩ := r.get (y xs (kp.2 _ _ hx).sq)
    exact ⟨Step.refl so, p, h1, h2.keep kp⟩
theorem walk_m {a : Addr} {ps : List PV} (xs0 : List V) : WalkP K H0 (Itl K a) ps (fun S => S a = some (.lst ps)) := by
  refine ⟨fun i H S kp so hs hi => ?_, fun H S kp so hs => ?_, fun i H S v H' kp so hs hi y => ?_⟩
  · obtain ⟨xs, hx, r⟩ := so.lst hs
    rw [r.length] at hi
    exact ⟨xs, xs[i], SqL.of hx, by simp [hi]⟩
  · obtain ⟨xs, hx, r⟩ := so.lst hs
    exact ⟨xs, SqL.of hx, by rw [r.length]; exact Nat.le_refl _⟩
  · obtain ⟨xs, hx, r⟩ := so.lst hs
    obtain ⟨rfl, y⟩ := y
    obtain ⟨p, h1, h2⟩ := r.get (y xs (SqL.of hx))
    exact ⟨Step.refl so, p, h1, h2⟩
theorem walk_t {a : Addr} {xs : List V} {ps : List PV} (hx : SqT K H0 a xs) (r : RepVs K H0 ps xs) : WalkP K H0 (Itt K a) ps (fun _ => True) := by
  refine ⟨fun i H S kp _ _ hi => ?_, fun H S kp _ _ => ?_, fun i H S v H' kp so _ hi y => ?_⟩
  · rw [r.length] at hi
    exact ⟨xs, xs[i], kp.1 _ _ hx, by simp [hi]⟩
  · exact ⟨xs, kp.1 _ _ hx, by rw [r.length]; exact Nat.le_refl _⟩
  · obtain ⟨rfl, y⟩ := y
    obtain ⟨p, h1, h2⟩ := r.get (y xs (kp.1 _ _ hx))
    exact ⟨Step.refl so, p, h1, h2.keep kp⟩
theorem walk_s {z : Str} : WalkP K H0 (Its z) (z.cps.toList.map fun c => .str ⟨#[c]⟩) (fun _ => True) := by
  refine ⟨fun i H S kp _ _ hi => ?_, fun H S kp _ _ => ?_, fun i H S v H' kp so _ hi y => ?_⟩
  · have hi' : i < z.cps.size := by simpa using hi
    exact hi'
  · show z.cps.size ≤ _
    simp
  · obtain ⟨rfl, c, hc, rfl⟩ := y
    refine ⟨Step.refl so, .str ⟨#[c]⟩, ?_, .str _⟩
    rw [List.getElem?_map, Array.getElem?_toList, hc]
    rfl
theorem walk_r {lo : Int} {n : Nat} : WalkP K H0 (Itr lo n) (rngL lo n) (fun _ => True) := by
  refine ⟨fun i H S kp _ _ hi => ?_, fun H S kp _ _ => ?_, fun i H S v H' kp so _ hi y => ?_⟩
  · have hi' : i < n := by simpa [rngL] using hi
    exact hi'
  · show n ≤ _
    simp [rngL]
  · obtain ⟨rfl, rfl⟩ := y
    refine ⟨Step.refl so, .int (lo + i), ?_, .int _⟩
    have hi' : i < n := by simpa [rngL] using hi
    simp [rngL, hi']
theorem walk_rC {lo cc : Int} {n : Nat} : WalkP K H0 (Itc lo cc n) (rngLC lo cc n) (fun _ => True) := by
  refine ⟨fun i H S kp _ _ hi => ?_, fun H S kp _ _ => ?_, fun i H S v H' kp so _ hi y => ?_⟩
  · have hi' : i < n := by simpa [rngLC] using hi
    exact hi'
  · show n ≤ _
    simp [rngLC]
  · obtain ⟨rfl, rfl⟩ := y
    refine ⟨Step.refl so, .int (lo + (i : Nat) * cc), ?_, .int _⟩
    have hi' : i < n := by simpa [rngLC] using hi
    simp [rngLC, hi']
theorem walk_e {a : Addr} {ps : List PV} {q : PV} (ok : ∀ H S, Keeps K H0 H → StOk K H S → listOf' q S ps → ∃ xs, SqL K H a xs ∧ RepVs K H ps xs) :
    WalkP K H0 (Ite K a) (ps.zipIdx.map fun xi => .tup [.int (xi.2 : Nat), xi.1]) (fun S => listOf' q S ps) := by
  refine ⟨fun i H S kp so hs hi => ?_, fun H S kp so hs => ?_, fun i H S v H' kp so hs hi y => ?_⟩
  · obtain ⟨xs, hx, r⟩ := ok H S kp so hs
    have hi' : i < xs.length := by rw [← r.length]; simpa using hi
    exact ⟨xs, xs[i], hx, by simp [hi']⟩
  · obtain ⟨xs, hx, r⟩ := ok H S kp so hs
    exact ⟨xs, hx, by rw [← r.length]; simp⟩
  · obtain ⟨xs, hx, r⟩ := ok H S kp so hs
    obtain ⟨t, x, rfl, n, rfl, y⟩ := y
    obtain ⟨p, h1, h2⟩ := r.get (y xs hx)
    refine ⟨Step.hid so n, .tup [.int (i : Nat), p], ?_, .tup (.inl (.inl upd_same)) (.cons (.int _) (.one (h2.keep (keeps_new n))))⟩
    rw [List.getElem?_map, List.getElem?_zipIdx, h1]
    simp
end
section
variable {F : Inf} {T : Tab} {d : Nat} {c : Ctx} {X : Cx} {W : WX} {a b e e' tgE : Expr} {es : List Expr} {pos : Pos} {ma mb mc : ME} {ms mq : MA}
theorem qi_val (ha : QE X W a ma) : QI X W tgE a (fun env S k x => ma env S (fun p S1 => itS p S1 k) x) := by
  refine ⟨fun pins s σ H R I ⟨env, S, k, x, eo, so, h, px, po⟩ => ?_⟩
  have rd : rE X.K X.mg W ma σ H fun v H1 => ∃ p S1, Step X.K H S H1 S1 ∧ RepV X.K H1 p v ∧ itS p S1 k := one_rd eo so px h fun p S1 v H1 st kp rp q => ⟨p, S1, st, rp, q⟩
  refine thn (PE.run ha pins s σ H _ I rd) fun v s1 ⟨xv, H1, I1, r1, p, S1, st, rp, q⟩ => ?_
  cases rp with
  | non => exact (show False from q).elim
  | bl b => exact (show False from q).elim
  | int b => exact (show False from q).elim
  | str z =>
    obtain ⟨t, rfl⟩ := r1
    have q' := po _ _ _ (Its z) H1 st walk_s q
    cases ha : z.cps.all (· < 128)
    · exact wpAny_pyIter_wide ha (pi_one (tk := s1.toks) I1 _ (turn_str _ z t "str_iterator" (.inr rfl)) ⟨_, Heap.get?_push_size _ rfl, rfl, rfl⟩ q')
    · exact wpAny_pyIter_ascii ha (pi_one (tk := s1.toks) I1 _ (turn_str _ z t "str_ascii_iterator" (.inl rfl)) ⟨_, Heap.get?_push_size _ rfl, rfl, rfl⟩ q')
  | loc a =>
    cases r1
    obtain ⟨ps, e, hk⟩ := q
    obtain ⟨xs, hx, r⟩ := st.ok.lst e
    obtain ⟨its, rv, pl, hz⟩ := I1.list (SqL.of hx)
    refine wpAny_pyIter_list pl.isList ?_
    refine ⟨s1.heap.objs.size, [s1.heap.objs.size], _, _, H1, rfl, I1.kept (t' := s1.toks) fun b o e => Heap.get?_push_of_some _ e, turn_list a _, ⟨_, Heap.get?_push_size _ rfl, rfl, rfl⟩, fun b hb => ?_, po ps _ S1 (Itl X.K a) H1 st (walk_m xs) hk⟩
    have e : b = s1.heap.objs.size := by simpa using hb
    subst e
    exact I1.fpOk (Nat.le_refl _) (I1.hok.fresh (Nat.le_refl _))
  | @tup a xs ps h1 h2 =>
    cases r1
    obtain ⟨its, rv, pl, hz⟩ := I1.tuple h1
    refine wpAny_pyIter_tuple (show s1.heap.IsTuple a its.toArray from pl) ?_
    refine ⟨s1.heap.objs.size, [s1.heap.objs.size], _, _, H1, rfl, I1.kept (t' := s1.toks) fun b o e => Heap.get?_push_of_some _ e, turn_tuple a _, ⟨_, Heap.get?_push_size _ rfl, rfl, rfl⟩, fun b hb => ?_, po ps _ S1 (Itt X.K a) H1 st (walk_t h1 h2) q⟩
    have e : b = s1.heap.objs.size := by simpa using hb
    subst e
    exact I1.fpOk (Nat.le_refl _) (I1.hok.fresh (Nat.le_refl _))
  | @frl a xs ps h1 h2 =>
    cases r1
    obtain ⟨its, rv, pl, hz⟩ := I1.list h1.sq
    refine wpAny_pyIter_list pl.isList ?_
    refine ⟨s1.heap.objs.size, [s1.heap.objs.size], _, _, H1, rfl, I1.kept (t' := s1.toks) fun b o e => Heap.get?_push_of_some _ e, turn_list a _, ⟨_, Heap.get?_push_size _ rfl, rfl, rfl⟩, fun b hb => ?_, po ps _ S1 (Itl X.K a) H1 st (walk_l h1 h2) q⟩
    have e : b = s1.heap.objs.size := by simpa using hb
    subst e
    exact I1.fpOk (Nat.le_refl _) (I1.hok.fresh (Nat.le_refl _))
theorem qi_rng (ok : XOk F T d c X W) {p1 : Pos} (hm : ("range" : Str) ∈ F.bis) (hg : glB c.sc "range" = true) (hst : es.all nst = true) (h1 : 1 ≤ es.length) (h3 : es.length ≤ 3) (ha : QA X W es ms) :
    QI X W tgE (.Call (.Name "range" p1) es [] pos) (fun env S k x => ms env S (fun ps S1 => rngS ps fun items => k items (fun _ => True) S1) x) := by
  have hG : Gl X "range" := by show X.env.scope.names.lookup ("range" : Str) = _; rw [ok.sc]; exact gl_of hg
  have hM := ok.gl.bi _ hm
  match es, h1, h3 with
  | [a], _, _ =>
    refine pi_mono (pi_range1 hG hM ha (star_cons (by simpa using hst))) fun σ H R ⟨env, S, k, x, eo, so, h, px, po⟩ => ?_
    refine arg_rd eo so px h fun ps S1 vs H1 st kp r hl q => ?_
    match ps, q with
    | [p], q =>
      obtain ⟨v, rfl, rp⟩ := one_inv r
      cases rp <;> first | exact (show False from q).elim | skip
      exact ⟨_, rfl, q.1.1, q.1.2, po _ _ _ (Itr 0 _) H1 st walk_r q.2⟩
    | [], q => exact (show False from q).elim
    | p :: q' :: r', q => have := r.length; rw [hl] at this; simp at this
  | [a, b], _, _ =>
    simp only [List.all_cons, List.all_nil, Bool.and_true, Bool.and_eq_true] at hst
    refine pi_mono (pi_range2 hG hM ha (by rw [star_cons hst.1, star_cons hst.2]; rfl) (by rw [star_cons hst.2]; rfl)) fun σ H R ⟨env, S, k, x, eo, so, h, px, po⟩ => ?_
    refine arg_rd eo so px h fun ps S1 vs H1 st kp r hl q => ?_
    match ps, q with
    | [p, p'], q =>
      obtain ⟨v, v', rfl, rp, rq⟩ := two_inv r
      cases rp <;> first | exact (show False from q).elim | skip
      cases rq <;> first | exact (show False from q).elim | skip
      exact ⟨_, _, rfl, q.1, po _ _ _ (Itr _ _) H1 st walk_r q.2⟩
    | [], q => exact (show False from q).elim
    | [p], q => have := r.length; rw [hl] at this; simp at this
    | p :: q' :: r' :: r'', q => have := r.length; rw [hl] at this; simp at this
  | [a, b, b'], _, _ =>
    simp only [List.all_cons, List.all_nil, Bool.and_true, Bool.and_eq_true] at hst
    refine pi_mono (pi_range3 hG hM ha (star_cons hst.1) (star_plain (by simp [hst.2.1, hst.2.2]))) fun σ H R ⟨env, S, k, x, eo, so, h, px, po⟩ => ?_
    refine arg_rd eo so px h fun ps S1 vs H1 st kp r hl q => ?_
    match ps, q with
    | [p, p', p''], q =>
      obtain ⟨v, r', rfl, rp, r2⟩ := r.cons_inv
      obtain ⟨v', v'', rfl, rq, rr⟩ := two_inv r2
      cases rp <;> first | exact (show False from q).elim | skip
      cases rq <;> first | exact (show False from q).elim | skip
      cases rr <;> first | exact (show False from q).elim | skip
      obtain ⟨n, hn, q⟩ := q
      exact ⟨_, _, _, n, rfl, hn, po _ _ _ (Itc _ _ _) H1 st walk_rC q⟩
    | [], q => exact (show False from q).elim
    | [p], q => have := r.length; rw [hl] at this; simp at this
    | [p, p'], q => have := r.length; rw [hl] at this; simp at this
    | p :: q' :: r' :: r'' :: r3, q => have := r.length; rw [hl] at this; simp at this
theorem qi_enu (ok : XOk F T d c X W) {p1 tp : Pos} {elts : List Expr} {kk : Nat} (hm : ("enumerate" : Str) ∈ F.bis) (hg : glB c.sc "enumerate" = true) (hn : nst a = true) (ha : QE X W a ma) :
    QI X W (.Tuple elts kk tp) (.Call (.Name "enumerate" p1) [a] [] pos) (fun env S k x => ma env S (fun p S1 => enS p S1 k) x) := by
  have hG : Gl X "enumerate" := by show X.env.scope.names.lookup ("enumerate" : Str) = _; rw [ok.sc]; exact gl_of hg
  refine pi_mono (pi_enum hG (ok.gl.bi _ hm) (pa_cons ha pa_nil (star_cons hn)) (star_cons hn)) fun σ H R ⟨env, S, k, x, eo, so, h, px, po⟩ => ?_
  refine one_rd eo so px h fun p S1 v H1 st kp rp q => ?_
  obtain ⟨ps, hk, hl⟩ := q
  obtain ⟨a, xs, rfl, hx, r⟩ := listOf_rep st.ok rp hl
  refine ⟨a, xs, rfl, hx, po _ _ S1 (Ite X.K a) H1 st (walk_e (q := p) fun H2 S2 kp2 so2 hl2 => ?_) hk⟩
  obtain ⟨a', xs', e, hx', r'⟩ := listOf_rep so2 (rp.keep kp2) hl2
  cases e
  exact ⟨xs', hx', r'⟩

/-! ### list comprehensions -/
theorem wipe_idem (σ : L2.St) (vs : List Nat) : L2.wipe (L2.wipe σ vs) vs = L2.wipe σ vs := by
  refine List.ext_getElem? fun i => ?_
  by_cases hi : i ∈ vs
  · have key : ∀ (τ : L2.St) (ws : List Nat), i ∈ ws → (L2.wipe τ ws)[i]? = if i < τ.length then some none else none := by
      intro τ ws
      induction ws with
      | nil => intro h; cases h
      | cons v ws ih =>
        intro hm
        unfold L2.wipe
        by_cases hv : v = i
        · subst hv
          rw [List.getElem?_set]
          rw [if_pos rfl, wipe_length]
        · rw [List.getElem?_set_ne hv]
          rcases List.mem_cons.mp hm with z | z
          · exact absurd z.symm hv
          · exact ih z
    rw [key _ vs hi, key _ vs hi, wipe_length]
  · rw [wipe_out hi]
abbrev W0 : WX := fun _ _ _ _ => False
abbrev X0 : Xt := fun _ _ => False
theorem px0 {K : PySem.W.Frag} {mg : Str → Option Value} {H : Hp} {S : Store} {σ : L2.St} : PostX K mg H S W0 σ X0 := fun _ _ _ _ _ _ _ z => z
/-- what the tests of a clause are worth -/
def TstOk (K : PySem.W.Frag) (ms : MA) (tt : TT) : Prop := ∀ σ H env S (A B : Store → Prop) (Q : Bool → Hp → Prop), EnvOk K H env σ → StOk K H S → ms env S (fun bs S1 => ifS bs S1 (A S1) (B S1)) X0 →
  (∀ S1 H1, Step K H S H1 S1 → A S1 → Q true H1) → (∀ S1 H1, Step K H S H1 S1 → B S1 → Q false H1) → tt σ H Q
theorem lc_loop {K : PySem.W.Frag} {mg : Str → Option Value} {tg : Tg} {own : List (Str × Nat)} {tt : TT} {σ : L2.St} {env : PEnv} {H1 : Hp} {S1 : Store} {J : L2.It} {items : List PV} {stay : Store → Prop} {D : Addr} {done : List PV → Store → Prop} {Qd : Hp → Prop}
    (hs : ∀ i ∈ tgIx tg, i ∈ own.map (·.2)) (htt : TstOk K ms tt) (eo : EnvOk K H1 env σ) (so : StOk K H1 S1) (w : WalkP K H1 J items stay) (hz : items.length ≤ sizeLine) (hD : H1 D = none)
    (h : loopC stay (fun p S2 kk => sTg tg p (wipeE env own) fun env2 => ms env2 S2 (fun bs S3 => ifS bs S3 (ma env2 S3 (fun r S4 => kk (some r) S4) X0) (kk none S3)) X0) done items [] S1)
    (fin : ∀ acc S5 accV H5, Step K H1 S1 H5 S5 → S5 D = none → H5 D = some (.lst accV) → RepVs K H5 acc accV → done acc S5 → Qd H5) :
    ∃ Wv : Nat → Nat → Hp → Prop, (∃ m, Wv 0 m (upd H1 D (.lst []))) ∧ ∀ i m H, Wv i m H →
      (J.stop i H ∧ Qd H) ∨ (J.go i H ∧ ∃ Nx : Hp → Prop, (∀ H', Nx H' → ∃ m', m' < m ∧ Wv (i + 1) m' H') ∧ ∀ x H', J.yld i H x H' → rG K tg x (L2.wipe σ (own.map (·.2))) H' fun σ2 H2 => L2.wipe σ2 (own.map (·.2)) = L2.wipe σ (own.map (·.2)) ∧ tt σ2 H2 fun b H3 =>
        if b = true then rE K mg W0 ma σ2 H3 fun y H4 => ∃ acc, H4 D = some (.lst acc) ∧ acc.length < sizeLine ∧ Nx (upd H4 D (.lst (acc ++ [y]))) else Nx H3) := by
  refine ⟨fun i m H => m = items.length - i ∧ i ≤ items.length ∧ ∃ acc accV S', H D = some (.lst accV) ∧ RepVs K H acc accV ∧ S' D = none ∧ Step K H1 S1 H S' ∧ acc.length ≤ i ∧
    loopC stay (fun p S2 kk => sTg tg p (wipeE env own) fun env2 => ms env2 S2 (fun bs S3 => ifS bs S3 (ma env2 S3 (fun r S4 => kk (some r) S4) X0) (kk none S3)) X0) done (items.drop i) acc S',
    ⟨items.length, by simp, Nat.zero_le _, [], [], S1, upd_same, .nil, so.free hD, Step.hid so hD, Nat.le_refl _, by simpa using h⟩, ?_⟩
  rintro i m H ⟨rfl, hi, acc, accV, S', e, ra, eS, st, hal, hl⟩
  have kp := st.keeps so
  by_cases hlt : i < items.length
  · have hd : items.drop i = items[i] :: items.drop (i + 1) := (List.drop_eq_getElem_cons hlt)
    rw [hd] at hl
    obtain ⟨hst, hstep⟩ := hl
    refine .inr ⟨w.go i H S' kp st.ok hst hlt, fun H' => ∃ acc accV S', H' D = some (.lst accV) ∧ RepVs K H' acc accV ∧ S' D = none ∧ Step K H1 S1 H' S' ∧ acc.length ≤ i + 1 ∧
      loopC stay (fun p S2 kk => sTg tg p (wipeE env own) fun env2 => ms env2 S2 (fun bs S3 => ifS bs S3 (ma env2 S3 (fun r S4 => kk (some r) S4) X0) (kk none S3)) X0) done (items.drop (i + 1)) acc S',
      fun H' hN => ⟨items.length - (i + 1), by omega, rfl, hlt, hN⟩, fun x H' y => ?_⟩
    obtain ⟨st2, p, hp, rp⟩ := w.yld i H S' x H' kp st.ok hst hlt y
    have ep : items[i] = p := by
      have : items[i]? = some items[i] := by simp [hlt]
      rw [this] at hp
      exact Option.some.inj hp
    rw [ep] at hstep
    unfold sTg at hstep
    cases et : tgE tg p (wipeE env own) with
    | none => rw [et] at hstep; exact hstep.elim
    | some env2 =>
      rw [et] at hstep
      have st' := st.trans st2
      refine ⟨p, wipeE env own, env2, rp, ((eo.keep (st'.keeps so)).wipe own), et, fun σ2 eo2 oa => ⟨?_, ?_⟩⟩
      · rw [oa.wipe hs, wipe_idem]
      · have eD2 : H' D = some (.lst accV) := st2.fr D _ e eS
        refine htt σ2 H' env2 S' _ _ _ eo2 st2.ok hstep (fun S3 H3 st3 hA => ?_) (fun S3 H3 st3 hB => ?_)
        · rw [if_pos rfl]
          have eD3 : H3 D = some (.lst accV) := st3.fr D _ eD2 eS
          have eS3 : S3 D = none := by
            cases z : S3 D with
            | none => rfl
            | some o =>
              rcases st3.nw D (by rw [z]; simp) with q | q
              · exact absurd eS q
              · rw [eD2] at q; cases q
          refine one_rd (eo2.keep (st3.keeps st2.ok)) st3.ok px0 hA fun r S4 yv H4 st4 kp4 rr hk => ?_
          have eD4 : H4 D = some (.lst accV) := st4.fr D _ eD3 eS3
          have eS4 : S4 D = none := by
            cases z : S4 D with
            | none => rfl
            | some o =>
              rcases st4.nw D (by rw [z]; simp) with q | q
              · exact absurd eS3 q
              · rw [eD3] at q; cases q
          have sAll : Step K H1 S1 H4 S4 := (st'.trans st3).trans st4
          have k24 : Keeps K H H4 := ((st2.trans st3).trans st4).keeps st.ok
          have ku : Keeps K H4 (upd H4 D (.lst (accV ++ [yv]))) := keeps_put eD4 True.intro
          refine ⟨accV, eD4, by rw [← ra.length]; omega, acc ++ [r], accV ++ [yv], S4, upd_same, ((ra.keep k24).app (.one rr)).keep ku, eS4, ⟨fun b o hb hn => ?_, fun b hb => ?_, sAll.nw, fun b o hb => ?_⟩, by simp; omega, hk⟩
          · have hbD : b ≠ D := fun z => by rw [z, hD] at hb; cases hb
            rw [upd_ne hbD]
            exact sAll.fr b o hb hn
          · by_cases hbD : b = D
            · subst hbD; rw [upd_same]; simp
            · rw [upd_ne hbD]; exact sAll.ks b hb
          · have hbD : b ≠ D := fun z => by rw [z, eS4] at hb; cases hb
            exact (sAll.ok b o hb).keep ku (by rw [upd_ne hbD])
        · rw [if_neg Bool.false_ne_true]
          have eD3 : H3 D = some (.lst accV) := st3.fr D _ eD2 eS
          have eS3 : S3 D = none := by
            cases z : S3 D with
            | none => rfl
            | some o =>
              rcases st3.nw D (by rw [z]; simp) with q | q
              · exact absurd eS q
              · rw [eD2] at q; cases q
          exact ⟨acc, accV, S3, eD3, ra.keep ((st2.trans st3).keeps st.ok), eS3, st'.trans st3, by omega, hB⟩
  · have ei : i = items.length := by omega
    subst ei
    rw [List.drop_length] at hl
    obtain ⟨hst, hdone⟩ := hl
    exact .inl ⟨w.stop H S' kp st.ok hst, fin acc S' accV H st eS e ra hdone⟩
theorem qe_lc (ok : XOk F T d c X W) {tg : Tg} {own : List (Str × Nat)} {scope : Scope} {ifs : List Expr} {mi : MI'} {tt : TT} (hb : blkC c.N c.sc scope own = true) (hs : ∀ i ∈ tgIx tg, i ∈ own.map (·.2)) (hset : nset e = true) (hi : QI X W tgE e mi)
    (hg : ∀ (s : Shared) (H : Hp) (C : Addr) (cl : List (Str × Addr)) (fp : List Addr), PG (X.blk s H scope (compEnvC scope cl C X.env) fp) tgE (rG X.K tg))
    (ht : ∀ (s : Shared) (H : Hp) (C : Addr) (cl : List (Str × Addr)) (fp : List Addr), PTs (X.blk s H scope (compEnvC scope cl C X.env) fp) ifs tt) (htt : TstOk X.K ms tt)
    (he : ∀ (s : Shared) (H : Hp) (C : Addr) (cl : List (Str × Addr)) (fp : List Addr), PE (X.blk s H scope (compEnvC scope cl C X.env) fp) a (rE X.K X.mg W0 ma)) :
    QE X W (.ListComp a [⟨tgE, e, ifs, 0⟩] scope pos) (fun env S k x => mi env S (fun items stay S1 => items.length ≤ sizeLine ∧
      loopC stay (fun p S2 kk => sTg tg p (wipeE env own) fun env2 => ms env2 S2 (fun bs S3 => ifS bs S3 (ma env2 S3 (fun r S4 => kk (some r) S4) (fun _ _ => False)) (kk none S3)) (fun _ _ => False))
        (fun acc S5 => ∀ q, S5 q = none → k (.loc q) (sup S5 q (.lst acc))) items [] S1) x) := by
  have ob : BlkOk X.N X.env.scope scope own := by rw [ok.N, ok.sc]; exact blkOk_by hb
  refine pe_mono (pe_lc ok.calm (by rw [ok.N]; exact ok.nd) hi ob hg ht he (folded_no hset)) fun σ H Q ⟨env, S, k, x, eo, so, h, po, px⟩ => ?_
  refine ⟨env, S, _, x, eo, so, h, px, fun items stay S1 J H1 st w ⟨hz, hl⟩ D hD => ?_⟩
  refine lc_loop hs htt (eo.keep (st.keeps so)) st.ok w hz hD hl fun acc S5 accV H5 st5 eS eH ra hk => ?_
  refine po (.loc D) _ _ _ (st.trans ⟨st5.fr, st5.ks, fun b hb => ?_, fun b o hb => ?_⟩) (.loc D) (hk D eS)
  · by_cases hbD : b = D
    · subst hbD; exact .inr hD
    · rw [sup_ne hbD] at hb; exact st5.nw b hb
  · by_cases hbD : b = D
    · subst hbD
      rw [sup_same] at hb
      cases hb
      exact ⟨accV, eH, ra⟩
    · rw [sup_ne hbD] at hb
      exact st5.ok b o hb
/-- name = [..] on one line -/
theorem qs_lc (ok : XOk F T d c X W) {j : Nat} {y : Str} {py spos : Pos} {tg : Tg} {own : List (Str × Nat)} {scope : Scope} {ifs : List Expr} {mi : MI'} {tt : TT} (hb : blkC c.N c.sc scope own = true) (hs : ∀ i ∈ tgIx tg, i ∈ own.map (·.2)) (hset : nset e = true) (hi : QI X W tgE e mi)
    (hy : c.N[j]? = some y) (hyl : c.sc.names.lookup y = some .local) (hsw : swapsWith (.ListComp a [⟨tgE, e, ifs, 0⟩] scope pos) (some (.Name y py)) spos.line X.env = pure true)
    (hg : ∀ (s : Shared) (H : Hp) (C : Addr) (cl : List (Str × Addr)) (fp : List Addr), PG (X.blk s H scope (compEnvC scope cl C X.env) fp) tgE (rG X.K tg))
    (ht : ∀ (s : Shared) (H : Hp) (C : Addr) (cl : List (Str × Addr)) (fp : List Addr), PTs (X.blk s H scope (compEnvC scope cl C X.env) fp) ifs tt) (htt : TstOk X.K ms tt)
    (he : ∀ (s : Shared) (H : Hp) (C : Addr) (cl : List (Str × Addr)) (fp : List Addr), PE (X.blk s H scope (compEnvC scope cl C X.env) fp) a (rE X.K X.mg W0 ma)) :
    PS X (.Assign [.Name y py] (.ListComp a [⟨tgE, e, ifs, 0⟩] scope pos) spos) (tAsg (rE X.K X.mg W (fun env S k x => mi env S (fun items stay S1 => items.length ≤ sizeLine ∧
      loopC stay (fun p S2 kk => sTg tg p (wipeE env own) fun env2 => ms env2 S2 (fun bs S3 => ifS bs S3 (ma env2 S3 (fun r S4 => kk (some r) S4) (fun _ _ => False)) (kk none S3)) (fun _ _ => False))
        (fun acc S5 => ∀ q, S5 q = none → k (.loc q) (sup S5 q (.lst acc))) items [] S1) x)) (gName j)) := by
  have ob : BlkOk X.N X.env.scope scope own := by rw [ok.N, ok.sc]; exact blkOk_by hb
  refine ps_mono (ps_setLc ok.calm (by rw [ok.N]; exact ok.nd) (by rw [ok.N]; exact hy) (by rw [ok.sc]; exact hyl) hsw hi ob hg ht he (folded_no hset)) fun D0 σ H ⟨env, S, k, x, eo, so, h, po, px⟩ => ?_
  refine ⟨env, S, _, x, eo, so, h, px, fun items stay S1 J H1 st w ⟨hz, hl⟩ D hD => ?_⟩
  refine lc_loop hs htt (eo.keep (st.keeps so)) st.ok w hz hD hl fun acc S5 accV H5 st5 eS eH ra hk => ?_
  refine po (.loc D) _ _ _ (st.trans ⟨st5.fr, st5.ks, fun b hb => ?_, fun b o hb => ?_⟩) (.loc D) (hk D eS)
  · by_cases hbD : b = D
    · subst hbD; exact .inr hD
    · rw [sup_ne hbD] at hb; exact st5.nw b hb
  · by_cases hbD : b = D
    · subst hbD
      rw [sup_same] at hb
      cases hb
      exact ⟨accV, eH, ra⟩
    · rw [sup_ne hbD] at hb
      exact st5.ok b o hb
end
end PL
namespace PL
open PySem PySem.Spec PyProof.Rows L2

/-! ### all expressions -/
section
variable {F : Inf} {T : Tab} {d : Nat}
theorem chk_nst : ∀ {q : Exs} {c : Ctx} {es : List Expr}, chkEs F c q es = true → es.all nst = true
  | .nil, c, [], _ => rfl
  | .nil, c, _ :: _, h => by simp [chkEs] at h
  | .cons a b, c, [], h => by simp [chkEs] at h
  | .cons a b, c, e :: es, h => by
    simp only [chkEs, Bool.and_eq_true] at h
    rw [List.all_cons, h.1.1, chk_nst h.2]; rfl
theorem boolOp_eq {u : Bool} : (if u then BoolOp.And else BoolOp.Or) = boolOpOf u := rfl
theorem qe_cast {X : Cx} {W : WX} {e : Expr} {m m' : ME} (h : QE X W e m) (e1 : m = m') : QE X W e m' := e1 ▸ h
/-- values, and as tests -/
def SndB (T : Tab) (X : Cx) (W : WX) (q : Exs) (es : List Expr) : Prop := ∀ u pos, es ≠ [] → es.all nif = true →
  QE X W (.BoolOp (boolOpOf u) es pos) (sB T u q) ∧ QW X W (.BoolOp (boolOpOf u) es pos) (fun env S k x => sB T u q env S (fun p S1 => truS p S1 fun b => k b S1) x)
theorem both {X : Cx} {W : WX} {e : Expr} {q : Ex} (he : plainT e = true) (r : QE X W e (sE T q)) (e2 : sT T q = fun env S k x => sE T q env S (fun p S1 => truS p S1 fun b => k b S1) x) : QE X W e (sE T q) ∧ (nif e = true → QT X W e (sT T q)) :=
  ⟨r, fun _ => e2 ▸ qt_plain he r⟩
mutual
theorem sndE : ∀ (q : Ex) (c : Ctx) (e : Expr) (X : Cx) (W : WX), XOk F T d c X W → chkE F c q e = true → QE X W e (sE T q) ∧ (nif e = true → QT X W e (sT T q))
  | .nam i, c, e, X, W, ok, h => by
    cases e <;> first | (simp [chkE] at h; done) | skip
    simp only [chkE, Bool.and_eq_true, decide_eq_true_eq] at h
    exact both rfl (qe_nam ok (T := T) h.1.1 h.1.2 h.2) rfl
  | .glo n, c, e, X, W, ok, h => by
    cases e <;> first | (simp [chkE] at h; done) | skip
    simp only [chkE, Bool.and_eq_true, decide_eq_true_eq] at h
    obtain ⟨⟨rfl, h1⟩, h2⟩ := h
    exact both rfl (qe_glo ok (T := T) h1 h2) rfl
  | .int i, c, e, X, W, ok, h => by
    cases e <;> first | (simp [chkE] at h; done) | skip
    rename_i v _ _
    cases v <;> first | (simp [chkE] at h; done) | skip
    simp only [chkE, decide_eq_true_eq] at h
    subst h
    exact both rfl (qe_con pe_int fun _ => .int i) rfl
  | .str i, c, e, X, W, ok, h => by
    cases e <;> first | (simp [chkE] at h; done) | skip
    rename_i v _ _
    cases v <;> first | (simp [chkE] at h; done) | skip
    simp only [chkE, decide_eq_true_eq] at h
    subst h
    exact both rfl (qe_con pe_str fun _ => .str i) rfl
  | .bl i, c, e, X, W, ok, h => by
    cases e <;> first | (simp [chkE] at h; done) | skip
    rename_i v _ _
    cases v <;> first | (simp [chkE] at h; done) | skip
    simp only [chkE, decide_eq_true_eq] at h
    subst h
    exact both rfl (qe_con pe_bl fun _ => .bl i) rfl
  | .non, c, e, X, W, ok, h => by
    cases e <;> first | (simp [chkE] at h; done) | skip
    rename_i v _ _
    cases v <;> first | (simp [chkE] at h; done) | skip
    exact both rfl (qe_con pe_non fun _ => .non) rfl
  | .tup es, c, e, X, W, ok, h => by
    cases e <;> first | (simp [chkE] at h; done) | skip
    simp only [chkE, Bool.and_eq_true, decide_eq_true_eq] at h
    exact both rfl (qe_tup (sndEs es c _ X W ok h.2).1 h.1) rfl
  | .lst es, c, e, X, W, ok, h => by
    cases e <;> first | (simp [chkE] at h; done) | skip
    simp only [chkE, Bool.and_eq_true, decide_eq_true_eq] at h
    exact both rfl (qe_lst (sndEs es c _ X W ok h.2).1 h.1) rfl
  | .dic ks vs, c, e, X, W, ok, h => by
    cases e <;> first | (simp [chkE] at h; done) | skip
    rename_i kes ves pz
    simp only [chkE, Bool.and_eq_true, decide_eq_true_eq] at h
    obtain ⟨⟨⟨h1, h2⟩, h3⟩, h4⟩ := h
    have r : QE X W (.Dict kes ves pz) (sE T (.dic ks vs)) := by
      by_cases h0 : kes = []
      · subst h0
        have e0 : ves = [] := List.eq_nil_of_length_eq_zero h2.symm
        subst e0
        have e1 : ks = [] := List.eq_nil_of_length_eq_zero (keys_len h1).1
        subst e1
        cases vs with
        | nil => exact qe_dic0
        | cons a b => simp [chkEs] at h4
      · exact qe_dic h1 h2 h3 h0 ((sndEs vs c ves X W ok h4).2.2 ks kes h1 h2)
    exact both rfl r rfl
  | .bin o a b, c, e, X, W, ok, h => by
    cases e <;> first | (simp [chkE] at h; done) | skip
    simp only [chkE, Bool.and_eq_true, decide_eq_true_eq] at h
    obtain ⟨⟨rfl, h1⟩, h2⟩ := h
    exact both rfl (qe_bin (bin_okR o) (sndE a c _ X W ok h1).1 (sndE b c _ X W ok h2).1) rfl
  | .neg a, c, e, X, W, ok, h => by
    cases e <;> first | (simp [chkE] at h; done) | skip
    simp only [chkE, Bool.and_eq_true, decide_eq_true_eq] at h
    obtain ⟨rfl, h1⟩ := h
    exact both rfl (qe_neg (sndE a c _ X W ok h1).1) rfl
  | .cmp o a b, c, e, X, W, ok, h => by
    cases e <;> first | (simp [chkE] at h; done) | skip
    rename_i l ops rs pos
    match ops, rs, h with
    | [], _, h => simp [chkE] at h
    | _ :: _ :: _, _, h => simp [chkE] at h
    | [op], [], h => simp [chkE] at h
    | [op], _ :: _ :: _, h => simp [chkE] at h
    | [op], [r], h =>
      simp only [chkE, Bool.and_eq_true, decide_eq_true_eq] at h
      obtain ⟨⟨⟨rfl, h0⟩, h1⟩, h2⟩ := h
      have ha := (sndE a c _ X W ok h1).1
      have hb := (sndE b c _ X W ok h2).1
      exact ⟨qe_cmp (cmp_okR ok o) (marks_no h0) ha hb, fun _ => qt_cmp (cmp_okR ok o) (marks_no h0) (bly_cmp o) ha hb⟩
  | .isn n a, c, e, X, W, ok, h => by
    cases e <;> first | (simp [chkE] at h; done) | skip
    rename_i l ops rs pos
    match ops, rs, h with
    | [], _, h => simp [chkE] at h
    | _ :: _ :: _, _, h => simp [chkE] at h
    | [op], [], h => simp [chkE] at h
    | [op], _ :: _ :: _, h => simp [chkE] at h
    | [op], [r], h =>
      cases r <;> first | (simp [chkE] at h; done) | skip
      rename_i v _ _
      cases v <;> first | (simp [chkE] at h; done) | skip
      simp only [chkE, Bool.and_eq_true, decide_eq_true_eq] at h
      obtain ⟨rfl, h1⟩ := h
      have ha := (sndE a c _ X W ok h1).1
      exact ⟨qe_isn ha, fun _ => qt_isn ha⟩
  | .chn o o' a b t, c, e, X, W, ok, h => by
    cases e <;> first | (simp [chkE] at h; done) | skip
    rename_i l ops rs pos
    match ops, rs, h with
    | [], _, h => simp [chkE] at h
    | [_], _, h => simp [chkE] at h
    | _ :: _ :: _ :: _, _, h => simp [chkE] at h
    | [op, op'], [], h => simp [chkE] at h
    | [op, op'], [_], h => simp [chkE] at h
    | [op, op'], _ :: _ :: _ :: _, h => simp [chkE] at h
    | [op, op'], [r, s], h =>
      simp only [chkE, Bool.and_eq_true, decide_eq_true_eq] at h
      obtain ⟨⟨⟨⟨⟨rfl, rfl⟩, h0⟩, h1⟩, h2⟩, h3⟩ := h
      have ha := (sndE a c _ X W ok h1).1
      have hb := (sndE b c _ X W ok h2).1
      have hc := (sndE t c _ X W ok h3).1
      refine ⟨qe_chn ok h0 ha hb hc, fun _ => pt_mono (qt_chn ok h0 ha hb hc) fun σ H Q ⟨env, S, k, x, eo, so, hm, po, px⟩ => ⟨env, S, k, x, eo, so, ?_, po, px⟩⟩
      exact hm
  | .bop u es, c, e, X, W, ok, h => by
    cases e <;> first | (simp [chkE] at h; done) | skip
    rename_i op fs pos
    simp only [chkE, Bool.and_eq_true, decide_eq_true_eq] at h
    obtain ⟨⟨rfl, h1⟩, h2⟩ := h
    have hne : fs ≠ [] ∨ fs = [] := by by_cases z : fs = []; exact .inr z; exact .inl z
    rcases hne with hne | rfl
    · obtain ⟨g1, g2⟩ := (sndEs es c fs X W ok h2).2.1 u pos hne h1
      exact ⟨g1, fun _ => g2.pt⟩
    · cases es with
      | cons a b => simp [chkEs] at h2
      | nil => exact ⟨⟨fun _ _ _ _ _ _ ⟨_, _, _, _, _, _, z, _⟩ => z.elim⟩, fun _ => ⟨fun _ _ _ _ _ _ ⟨_, _, _, _, _, _, z, _⟩ => z.elim⟩⟩
  | .not a, c, e, X, W, ok, h => by
    cases e <;> first | (simp [chkE] at h; done) | skip
    simp only [chkE, Bool.and_eq_true, decide_eq_true_eq] at h
    obtain ⟨⟨rfl, h0⟩, h1⟩ := h
    obtain ⟨g1, g2⟩ := sndE a c _ X W ok h1
    exact ⟨qe_not g1, fun _ => qt_not (g2 h0)⟩
  | .ife t a b, c, e, X, W, ok, h => by
    cases e <;> first | (simp [chkE] at h; done) | skip
    simp only [chkE, Bool.and_eq_true, decide_eq_true_eq] at h
    obtain ⟨⟨⟨h0, h1⟩, h2⟩, h3⟩ := h
    exact ⟨qe_ife ((sndE t c _ X W ok h1).2 h0) (sndE a c _ X W ok h2).1 (sndE b c _ X W ok h3).1, fun z => by simp [nif] at z⟩
  | .idx a b, c, e, X, W, ok, h => by
    cases e <;> first | (simp [chkE] at h; done) | skip
    simp only [chkE, Bool.and_eq_true, decide_eq_true_eq] at h
    exact both rfl (qe_idx ok h.1.1 (sndE a c _ X W ok h.1.2).1 (sndE b c _ X W ok h.2).1) rfl
  | .slc a lo hi, c, e, X, W, ok, h => by
    cases e <;> first | (simp [chkE] at h; done) | skip
    rename_i o s pos
    cases s <;> first | (simp [chkE] at h; done) | skip
    rename_i l u st p2
    cases st with
    | some _ => simp [chkE] at h
    | none =>
      simp only [chkE, Bool.and_eq_true] at h
      exact both rfl (qe_slc (sndE a c _ X W ok h.1.1).1 (sndO lo c l X W ok h.1.2) (sndO hi c u X W ok h.2)) rfl
  | .call f es, c, e, X, W, ok, h => by
    cases e <;> first | (simp [chkE] at h; done) | skip
    rename_i g fs kws pos
    cases g <;> first | (simp [chkE] at h; done) | skip
    rename_i n p1
    cases kws with
    | cons _ _ => simp [chkE] at h
    | nil =>
      simp only [chkE, Bool.and_eq_true] at h
      obtain ⟨⟨⟨h0, h1⟩, h2⟩, h3⟩ := h
      cases ef : F.fns[f]? with
      | none => rw [ef] at h0; simp at h0
      | some np =>
        obtain ⟨nm, prs⟩ := np
        rw [ef] at h0
        simp only [decide_eq_true_eq] at h0
        subst h0
        have r : QE X W (.Call (.Name nm p1) fs [] pos) (sE T (.call f es)) := by
          cases fs with
          | nil =>
            cases es with
            | cons a b => simp [chkEs] at h3
            | nil => exact qe_call0 ok ef h1 h2
          | cons a b => exact qe_call ok ef h1 h2 (chk_nst h3) (by simp) (sndEs es c _ X W ok h3).1
        exact both rfl r rfl
  | .callk f es ks vs pm, c, e, X, W, ok, h => by
    cases e <;> first | (simp [chkE] at h; done) | skip
    rename_i g fs kws pos
    cases g <;> first | (simp [chkE] at h; done) | skip
    rename_i n p1
    simp only [chkE, Bool.and_eq_true, decide_eq_true_eq, Bool.not_eq_true'] at h
    obtain ⟨⟨⟨⟨⟨⟨⟨⟨⟨h0, h1⟩, h2⟩, h3⟩, h4⟩, h5⟩, h6⟩, h7⟩, h8⟩, h9⟩ := h
    cases ef : F.fns[f]? with
    | none => rw [ef] at h0; simp at h0
    | some np =>
      obtain ⟨nm, prs⟩ := np
      rw [ef] at h0
      simp only [decide_eq_true_eq] at h0
      subst h0
      have hk := (sndEs vs c (kwVals kws) X W ok h9).2.2
      have hpk : PK X kws (rA X.K X.mg W (kwVals kws).length (sEs T vs)) := sndK vs c kws X W ok h9
      have r : QE X W (.Call (.Name nm p1) fs kws pos) (sE T (.callk f es ks vs pm)) := by
        cases fs with
        | nil =>
          cases es with
          | cons a b => simp [chkEs] at h3
          | nil => exact qe_callk0 ok ef h1 h2 h4 h6 (by simpa using h7) hpk
        | cons a b => exact qe_callk ok ef h1 h2 (chk_nst h3) (by simp) h4 (by intro z; subst z; simp at h5) h6 h7 (sndEs es c _ X W ok h3).1 hpk
      exact both rfl r rfl
  | .bi b es, c, e, X, W, ok, h => by
    cases e <;> first | (simp [chkE] at h; done) | skip
    rename_i g fs kws pos
    cases g <;> first | (simp [chkE] at h; done) | skip
    rename_i n p1
    cases kws with
    | cons _ _ => simp [chkE] at h
    | nil =>
      simp only [chkE, Bool.and_eq_true, decide_eq_true_eq, Bool.not_eq_true'] at h
      obtain ⟨⟨⟨⟨rfl, h1⟩, h2⟩, h3⟩, h4⟩ := h
      exact both rfl (qe_bi ok b h1 h2 (chk_nst h4) (by intro z; subst z; simp at h3) (sndEs es c _ X W ok h4).1) rfl
  | .isi a t, c, e, X, W, ok, h => by
    cases e <;> first | (simp [chkE] at h; done) | skip
    rename_i g fs kws pos
    cases g <;> first | (simp [chkE] at h; done) | skip
    rename_i n p1
    match fs, kws, h with
    | [], _, h => simp [chkE] at h
    | [_], _, h => simp [chkE] at h
    | _ :: _ :: _ :: _, _, h => simp [chkE] at h
    | [_, _], _ :: _, h => simp [chkE] at h
    | [e, y], [], h =>
      cases y <;> first | (simp [chkE] at h; done) | skip
      simp only [chkE, Bool.and_eq_true, decide_eq_true_eq] at h
      obtain ⟨⟨⟨⟨⟨⟨⟨⟨rfl, h1⟩, h2⟩, rfl⟩, h4⟩, h5⟩, h6⟩, h7⟩, h8⟩ := h
      exact both rfl (qe_isi ok t h6 h1 h2 h4 h5 h7 (sndE a c _ X W ok h8).1) rfl
  | .mth m o es, c, e, X, W, ok, h => by
    cases e <;> first | (simp [chkE] at h; done) | skip
    rename_i g fs kws pos
    cases g <;> first | (simp [chkE] at h; done) | skip
    rename_i g n ap
    cases kws with
    | cons _ _ => simp [chkE] at h
    | nil =>
      simp only [chkE, Bool.and_eq_true, decide_eq_true_eq] at h
      obtain ⟨⟨⟨⟨⟨⟨rfl, h1⟩, h2⟩, h3⟩, h4⟩, h5⟩, h6⟩ := h
      have ho := (sndE o c _ X W ok h5).1
      have hs := (sndEs es c _ X W ok h6).1
      have hl : (ap.endLine == pos.line) = true := by rw [h2]; exact beq_self_eq_true _
      have hn := chk_nst h6
      have hne : m ≠ .pop → fs ≠ [] := fun z e => by
        subst e
        cases m <;> first | exact z rfl | (simp at h4; done)
      have r : QE X W (.Call (.Attribute g (mtName m) ap) fs [] pos) (sE T (.mth m o es)) := by
        cases m
        · exact qe_mtN PySem.F.slot_list_append PySem.F.type_list_append app_ok' h1 hl h3 hn (hne (by decide)) ho hs
        · have e0 : fs = [] := by simpa using h4
          subst e0
          cases es with
          | cons a b => simp [chkEs] at h6
          | nil => exact qe_mt0 PySem.F.slot_list_pop PySem.F.type_list_pop pop_ok h1 hl ho
        · exact qe_mtN PySem.F.slot_list_pop PySem.F.type_list_pop popAt_ok h1 hl h3 hn (hne (by decide)) ho hs
        · exact qe_mtN PySem.F.slot_list_insert PySem.F.type_list_insert ins_ok h1 hl h3 hn (hne (by decide)) ho hs
        · exact qe_mtN PySem.F.slot_list_extend PySem.F.type_list_extend ext_ok h1 hl h3 hn (hne (by decide)) ho hs
      exact both rfl r rfl
  | .lc elt tg it ifs own, c, e, X, W, ok, h => by
    cases e <;> first | (simp [chkE] at h; done) | skip
    rename_i el gs scope pos
    match gs, h with
    | [], h => simp [chkE] at h
    | _ :: _ :: _, h => simp [chkE] at h
    | [⟨t, i, fs, as⟩], h =>
      simp only [chkE, Bool.and_eq_true, decide_eq_true_eq] at h
      obtain ⟨⟨⟨⟨⟨⟨⟨⟨⟨rfl, h1⟩, h2⟩, h3⟩, h4⟩, h5⟩, h6⟩, h7⟩, h8⟩, h9⟩ := h
      have hs : ∀ j ∈ tgIx tg, j ∈ own.map (·.2) := fun j hj => by
        have := List.all_eq_true.mp h2 j hj
        simpa using this
      have bl := fun s H C cl fp => ok.blk scope s H C cl fp
      have hi := sndI it c t i X W ok h7
      have hg : ∀ (s : Shared) (H : Hp) (C : Addr) (cl : List (Str × Addr)) (fp : List Addr), PG (X.blk s H scope (compEnvC scope cl C X.env) fp) t (rG X.K tg) := fun s H C cl fp => soundTg (bl s H C cl fp) tg t h6
      have he : ∀ (s : Shared) (H : Hp) (C : Addr) (cl : List (Str × Addr)) (fp : List Addr), PE (X.blk s H scope (compEnvC scope cl C X.env) fp) el (rE X.K X.mg W0 (sE T elt)) := fun s H C cl fp => (sndE elt _ el _ W0 (bl s H C cl fp) h9).1
      have r : QE X W (.ListComp el [⟨t, i, fs, 0⟩] scope pos) (sE T (.lc elt tg it ifs own)) := by
        match fs, ifs, h4, h5, h8 with
        | [], .nil, _, _, _ =>
          exact qe_lc ok (tt := tYes) (ms := sEs T .nil) h1 hs h3 hi hg (fun s H C cl fp => pts_nil) (fun σ H env S A B Q eo so hm hA hB => hA S H (Step.refl so) hm) he
        | [], .cons _ _, _, _, h8 => simp [chkEs] at h8
        | _ :: _ :: _, _, h4, _, _ => simp at h4
        | [f], .nil, _, _, h8 => simp [chkEs] at h8
        | [f], .cons _ (.cons _ _), _, _, h8 => simp [chkEs] at h8
        | [f], .cons a .nil, _, h5, h8 =>
          simp only [chkEs, Bool.and_eq_true, Bool.and_true] at h8
          have hf : nif f = true := by simpa using h5
          refine qe_lc ok (tt := rT X.K X.mg W0 (sT T a)) (ms := sEs T (.cons a .nil)) h1 hs h3 hi hg (fun s H C cl fp => pts_one ((sndE a _ f _ W0 (bl s H C cl fp) h8.2).2 hf)) (fun σ H env S A B Q eo so hm hA hB => ?_) he
          refine ⟨env, S, fun b S1 => if b = true then A S1 else B S1, X0, eo, so, hm, fun b S1 H1 st q => ?_, px0⟩
          cases b with
          | true => exact hA S1 H1 st q
          | false => exact hB S1 H1 st q
      exact both rfl r rfl
theorem sndEs : ∀ (q : Exs) (c : Ctx) (es : List Expr) (X : Cx) (W : WX), XOk F T d c X W → chkEs F c q es = true → QA X W es (sEs T q) ∧ SndB T X W q es ∧ (∀ ks kes, keysEx ks kes = true → kes.length = es.length → QPs X W ks kes es (sEs T q))
  | .nil, c, es, X, W, ok, h => by
    cases es with
    | cons _ _ => simp [chkEs] at h
    | nil =>
      refine ⟨qa_nil, fun u pos hne _ => absurd rfl hne, fun ks kes hk hl => ?_⟩
      have e0 : kes = [] := List.eq_nil_of_length_eq_zero hl
      subst e0
      have e1 : ks = [] := List.eq_nil_of_length_eq_zero (keys_len hk).1
      subst e1
      exact qp_nil
  | .cons a as, c, es, X, W, ok, h => by
    cases es with
    | nil => simp [chkEs] at h
    | cons e es =>
      simp only [chkEs, Bool.and_eq_true] at h
      obtain ⟨⟨h0, h1⟩, h2⟩ := h
      obtain ⟨g1, g2⟩ := sndE a c e X W ok h1
      obtain ⟨f1, f2, f3⟩ := sndEs as c es X W ok h2
      refine ⟨qa_cons h0 g1 f1, fun u pos hne hnif => ?_, fun ks kes hk hl => ?_⟩
      · rw [List.all_cons, Bool.and_eq_true] at hnif
        match es, as, h2, f2, hnif with
        | [], .nil, _, _, hnif =>
          refine ⟨pe_one g1, ?_⟩
          cases u
          · exact pw_or1 (g2 hnif.1)
          · exact pw_and1 (g2 hnif.1)
        | [], .cons _ _, h2, _, _ => simp [chkEs] at h2
        | _ :: _, .nil, h2, _, _ => simp [chkEs] at h2
        | e' :: es', .cons a' as', h2, f2, hnif =>
          obtain ⟨b1, b2⟩ := f2 u pos (by simp) hnif.2
          refine ⟨qe_bop g1 b1, pw_mono (qw_bop (g2 hnif.1) b2) fun σ H Q ⟨env, S, k, x, eo, so, hm, po, px⟩ => ⟨env, S, k, x, eo, so, ?_, po, px⟩⟩
          exact monoE ok.gl.tm a env S _ _ x x (fun p S1 q => tru_det q) (fun _ _ z => z) hm
      · match ks, kes, hk, hl with
        | [], [], _, hl => simp at hl
        | [], _ :: _, hk, _ => simp [keysEx] at hk
        | _ :: _, [], hk, _ => simp [keysEx] at hk
        | k :: ks, none :: kes, hk, _ => simp [keysEx] at hk
        | k :: ks, some ke :: kes, hk, hl =>
          simp only [keysEx, Bool.and_eq_true] at hk
          exact qp_cons hk.1 g1 (f3 ks kes hk.2 (by simpa using hl))
theorem sndK : ∀ (q : Exs) (c : Ctx) (kws : List Keyword) (X : Cx) (W : WX), XOk F T d c X W → chkEs F c q (kwVals kws) = true → PK X kws (rA X.K X.mg W (kwVals kws).length (sEs T q))
  | .nil, c, [], X, W, ok, h => qk_nil
  | .nil, c, _ :: _, X, W, ok, h => by simp [kwVals, chkEs] at h
  | .cons a as, c, [], X, W, ok, h => by simp [kwVals, chkEs] at h
  | .cons a as, c, ⟨nm, v, p⟩ :: kws, X, W, ok, h => by
    simp only [kwVals, chkEs, Bool.and_eq_true] at h
    exact qk_cons (sndE a c v X W ok h.1.2).1 (sndK as c kws X W ok h.2)
theorem sndO : ∀ (q : Exs) (c : Ctx) (e : Option Expr) (X : Cx) (W : WX), XOk F T d c X W → chkO F c q e = true → QO X W e (sEs T q)
  | .nil, c, none, X, W, ok, h => qo_none
  | .nil, c, some _, X, W, ok, h => by simp [chkO] at h
  | .cons a .nil, c, some e, X, W, ok, h => by
    simp only [chkO] at h
    exact qo_some (sndE a c e X W ok h).1
  | .cons a .nil, c, none, X, W, ok, h => by simp [chkO] at h
  | .cons a (.cons _ _), c, none, X, W, ok, h => by simp [chkO] at h
  | .cons a (.cons _ _), c, some _, X, W, ok, h => by simp [chkO] at h
theorem sndI : ∀ (q : It) (c : Ctx) (tgE e : Expr) (X : Cx) (W : WX), XOk F T d c X W → chkI F c tgE q e = true → QI X W tgE e (sI T q)
  | .val a, c, tgE, e, X, W, ok, h => by
    have h' : chkE F c a e = true := by cases tgE <;> exact h
    exact qi_val (sndE a c e X W ok h').1
  | .rng es, c, tgE, e, X, W, ok, h => by
    cases e <;> first | (simp [chkI] at h; done) | skip
    rename_i g fs kws pos
    cases g <;> first | (simp [chkI] at h; done) | skip
    rename_i n p1
    cases kws with
    | cons _ _ => simp [chkI] at h
    | nil =>
      simp only [chkI, Bool.and_eq_true, decide_eq_true_eq] at h
      obtain ⟨⟨⟨⟨⟨rfl, h1⟩, h2⟩, h3⟩, h4⟩, h5⟩ := h
      exact qi_rng ok h1 h2 (chk_nst h5) h3 h4 (sndEs es c fs X W ok h5).1
  | .enu a, c, tgE, e, X, W, ok, h => by
    cases tgE <;> first | (simp [chkI] at h; done) | skip
    cases e <;> first | (simp [chkI] at h; done) | skip
    rename_i g fs kws pos
    cases g <;> first | (simp [chkI] at h; done) | skip
    rename_i n p1
    match fs, kws, h with
    | [], _, h => simp [chkI] at h
    | _ :: _ :: _, _, h => simp [chkI] at h
    | [f], _ :: _, h => simp [chkI] at h
    | [f], [], h =>
      simp only [chkI, Bool.and_eq_true, decide_eq_true_eq] at h
      obtain ⟨⟨⟨⟨rfl, h1⟩, h2⟩, h3⟩, h4⟩ := h
      exact qi_enu ok h1 h2 h3 (sndE a c f X W ok h4).1
end
end
end PL
namespace PL
open PySem PySem.Spec PyProof.Rows L2

/-! ### statements -/
structure PostK (K : PySem.W.Frag) (mg : Str → Option Value) (H : Hp) (S : Store) (W : WX) (D : Ends) (κ : SK) : Prop where
  nx : ∀ env S' σ' H', Step K H S H' S' → EnvOk K H' env σ' → κ.nx env S' → D.nx σ' H'
  bk : ∀ env S' σ' H', Step K H S H' S' → EnvOk K H' env σ' → κ.bk env S' → D.bk σ' H'
  ct : ∀ env S' σ' H', Step K H S H' S' → EnvOk K H' env σ' → κ.ct env S' → D.ct σ' H'
  rt : ∀ p S' v H', Step K H S H' S' → RepV K H' p v → κ.rt p S' → D.rt v H'
  ex : ∀ ex env S' cls d σ' H', Step K H S H' S' → EnvOk K H' env σ' → RepX K mg H' ex cls d → κ.ex ex env S' → W cls d σ' H'
theorem PostK.step {K : PySem.W.Frag} {mg : Str → Option Value} {H H1 : Hp} {S S1 : Store} {W : WX} {D : Ends} {κ : SK} (h : PostK K mg H S W D κ) (st : Step K H S H1 S1) : PostK K mg H1 S1 W D κ :=
  ⟨fun e S' σ' H' s => h.nx e S' σ' H' (st.trans s), fun e S' σ' H' s => h.bk e S' σ' H' (st.trans s), fun e S' σ' H' s => h.ct e S' σ' H' (st.trans s),
    fun p S' v H' s => h.rt p S' v H' (st.trans s), fun ex e S' cls d σ' H' s => h.ex ex e S' cls d σ' H' (st.trans s)⟩
theorem PostK.px {K : PySem.W.Frag} {mg : Str → Option Value} {H : Hp} {S : Store} {W : WX} {D : Ends} {κ : SK} {env : PEnv} {σ : L2.St} (h : PostK K mg H S W D κ) (eo : EnvOk K H env σ) (so : StOk K H S) : PostX K mg H S W σ (fun ex S' => κ.ex ex env S') :=
  fun ex S' cls d H' s r q => h.ex ex env S' cls d σ H' s (eo.keep (s.keeps so)) r q
abbrev MS := PEnv → Store → SK → Prop
def rS (K : PySem.W.Frag) (mg : Str → Option Value) (W : WX) (m : MS) : TS := fun D σ H => ∃ env S κ, EnvOk K H env σ ∧ StOk K H S ∧ m env S κ ∧ PostK K mg H S W D κ
def QS (X : Cx) (W : WX) (s : Stmt) (m : MS) : Prop := PS X s (rS X.K X.mg W m)
def QSs (X : Cx) (W : WX) (s : List Stmt) (m : MS) : Prop := PSs X s (rS X.K X.mg W m)
section
variable {F : Inf} {T : Tab} {d : Nat} {c : Ctx} {X : Cx} {W : WX} {a b e e' : Expr} {es : List Expr} {pos : Pos} {ma mb mc : ME} {ms : MA} {mt : MT} {m1 m2 : MS}
theorem qs_pas : QS X W (.Pass pos) (fun env S κ => κ.nx env S) := ps_mono ps_pass fun D σ H ⟨env, S, κ, eo, so, h, pk⟩ => pk.nx _ _ _ _ (Step.refl so) eo h
theorem qs_brk : QS X W (.Break pos) (fun env S κ => κ.bk env S) := ps_mono ps_break fun D σ H ⟨env, S, κ, eo, so, h, pk⟩ => pk.bk _ _ _ _ (Step.refl so) eo h
theorem qs_cnt : QS X W (.Continue pos) (fun env S κ => κ.ct env S) := ps_mono ps_continue fun D σ H ⟨env, S, κ, eo, so, h, pk⟩ => pk.ct _ _ _ _ (Step.refl so) eo h
theorem qs_retn : QS X W (.Return none pos) (fun env S κ => κ.rt .non S) := ps_mono ps_retN fun D σ H ⟨env, S, κ, eo, so, h, pk⟩ => pk.rt _ _ _ _ (Step.refl so) .non h
theorem qs_ret (ha : QE X W a ma) : QS X W (.Return (some a) pos) (fun env S κ => ma env S (fun p S1 => κ.rt p S1) (fun ex S' => κ.ex ex env S')) :=
  ps_mono (ps_ret ha) fun D σ H ⟨env, S, κ, eo, so, h, pk⟩ => one_rd eo so (pk.px eo so) h fun p S1 v H1 st kp rp q => pk.rt _ _ _ _ st rp q
theorem qs_exp (hn : ncomp a = true) (ha : QE X W a ma) : QS X W (.Expr a pos) (fun env S κ => ma env S (fun _ S1 => κ.nx env S1) (fun ex S' => κ.ex ex env S')) :=
  ps_mono (ps_expr ha (swaps_no hn)) fun D σ H ⟨env, S, κ, eo, so, h, pk⟩ => one_rd eo so (pk.px eo so) h fun p S1 v H1 st kp rp q => pk.nx _ _ _ _ st (eo.keep kp) q
theorem asg_rd {tg : Tg} {D : Ends} {σ : L2.St} {H : Hp} (h : rS X.K X.mg W (fun env S κ => ma env S (fun p S1 => sTg tg p env fun env2 => κ.nx env2 S1) (fun ex S' => κ.ex ex env S')) D σ H) : tAsg (rE X.K X.mg W ma) (rG X.K tg) D σ H := by
  obtain ⟨env, S, κ, eo, so, h, pk⟩ := h
  refine one_rd eo so (pk.px eo so) h fun p S1 v H1 st kp rp q => ?_
  unfold sTg at q
  cases et : tgE tg p env with
  | none => rw [et] at q; exact q.elim
  | some env2 =>
    rw [et] at q
    exact ⟨p, env, env2, rp, eo.keep kp, et, fun σ' eo' _ => pk.nx _ _ _ _ st eo' q⟩
theorem asg_rdn {j : Nat} {D : Ends} {σ : L2.St} {H : Hp} (h : rS X.K X.mg W (fun env S κ => ma env S (fun p S1 => sTg (.nam j) p env fun env2 => κ.nx env2 S1) (fun ex S' => κ.ex ex env S')) D σ H) : tAsg (rE X.K X.mg W ma) (gName j) D σ H := by
  obtain ⟨env, S, κ, eo, so, h, pk⟩ := h
  exact one_rd eo so (pk.px eo so) h fun p S1 v H1 st kp rp q => pk.nx _ _ _ _ st ((eo.keep kp).set j rp) q
theorem qs_asg {t : Expr} {tg : Tg} (ha : QE X W a ma) (hg : PG X t (rG X.K tg)) (hn : nst t = true) (hs : swapsWithSole [t] a pos.line X.env = pure false) (hw : swappedStores [t] a X.env = pure none) :
    QS X W (.Assign [t] a pos) (fun env S κ => ma env S (fun p S1 => sTg tg p env fun env2 => κ.nx env2 S1) (fun ex S' => κ.ex ex env S')) :=
  ps_mono (ps_asg ha hg hs hw (by rw [assign_cons hn]; rfl)) fun D σ H h => asg_rd h
theorem qs_par {i j : Nat} {x y : Str} {px py tp : Pos} {kt k2 pt2} (ok : XOk F T d c X W) (hi : c.N[i]? = some x) (hj : c.N[j]? = some y) (hij : i ≠ j) (hxy : x ≠ y) (hl : px.line = py.line) (hx : c.sc.names.lookup x = some .local) (hy : c.sc.names.lookup y = some .local)
    (hf : (foldedForSure 8 a && foldedForSure 8 b) = false) (hc : (constantsAlone 8 a && constantsAlone 8 b) = false) (hst : [a, b].all nst = true) (ha : QA X W [a, b] ms) :
    QS X W (.Assign [.Tuple [.Name x px, .Name y py] kt tp] (.Tuple [a, b] k2 pt2) pos) (fun env S κ => ms env S (fun ps S1 => ∃ p q, ps = [p, q] ∧ κ.nx (setE (setE env i (some p)) j (some q)) S1) (fun ex S' => κ.ex ex env S')) := by
  refine ⟨fun pins s σ H D I h => ?_⟩
  have hb : X.env.blockKind = .function := by unfold Env.blockKind; rw [I.ok.kind]; rfl
  have hk : (X.env.blockKind == .function) = true := by rw [hb]; rfl
  have hxk : (X.env.kindOf x == some NameKind.local) = true := by
    show (X.env.scope.names.lookup x == _) = true
    rw [ok.sc, hx]; rfl
  have hyk : (X.env.kindOf y == some NameKind.local) = true := by
    show (X.env.scope.names.lookup y == _) = true
    rw [ok.sc, hy]; rfl
  have hw : swappedStores [.Tuple [.Name x px, .Name y py] kt tp] (.Tuple [a, b] k2 pt2) X.env = pure (some [x, y]) := by
    simp only [List.all_cons, List.all_nil, Bool.and_true, Bool.and_eq_true] at hst
    have s2 : [x, y].eraseDups = [x, y] := by
      have hne : (y == x) = false := beq_eq_false_iff_ne.mpr (Ne.symm hxy)
      simp [List.eraseDups_cons, hne]
    unfold swappedStores
    have e1 : ((X.env.blockKind != .function) : Bool) = false := by rw [bne, hk]; rfl
    refine (if_neg ?_).trans ((if_neg ?_).trans ?_)
    · rw [e1]; exact Bool.false_ne_true
    · intro z
      simp only [List.any_cons, List.any_nil, Bool.or_false, Bool.or_eq_true] at z
      rcases z with z | z
      · cases a <;> first | exact Bool.noConfusion z | (simp [nst] at hst; done)
      · cases b <;> first | exact Bool.noConfusion z | (simp [nst] at hst; done)
    · simp only [List.head?_cons, Option.map_some, Option.getD_some, List.filterMap_cons, List.filterMap_nil, hxk, hyk, Bool.true_and]
      rw [show Expr.pos (.Name x px) = px from rfl, hl]
      simp only [beq_self_eq_true, if_true, List.length_cons, List.length_nil, s2, List.all_cons, List.all_nil, Bool.and_true, hf, hc]
      rfl
  refine (ps_par ok.calm (by rw [ok.N]; exact ok.nd) (by rw [ok.N]; exact hi) (by rw [ok.N]; exact hj) hij (by rw [ok.sc]; exact hx) (by rw [ok.sc]; exact hy) ha hw).run pins s σ H D I ?_
  obtain ⟨env, S, κ, eo, so, h, pk⟩ := h
  refine arg_rd eo so (pk.px eo so) h fun ps S1 vs H1 st kp r hl q => ?_
  obtain ⟨p, q', rfl, q⟩ := q
  obtain ⟨v, v', rfl, rp, rq⟩ := two_inv r
  exact ⟨v, v', rfl, pk.nx _ _ _ _ st (((eo.keep kp).set i rp).set j rq) q⟩
theorem qs_seti {o i h : Expr} {tp : Pos} {mo mi mh : ME} (hu : X.A.units + 1 < cLine) (hs : nsl i = true) (hn : ncomp h = true) (ho : QE X W o mo) (hi : QE X W i mi) (hh : QE X W h mh) :
    QS X W (.Assign [.Subscript o i tp] h pos) (fun env S κ => mh env S (fun v S1 => mo env S1 (fun p S2 => mi env S2 (fun q S3 => setS p q v S3 fun S4 => κ.nx env S4) (fun ex S' => κ.ex ex env S')) (fun ex S' => κ.ex ex env S')) (fun ex S' => κ.ex ex env S')) := by
  refine ps_mono (ps_asg hh (pg_sub ho hi (set_ok hu) (fun v => by cases i <;> first | rfl | (simp [nsl] at hs; done))) (swaps_sole hn) (by cases h <;> rfl)) fun D σ H ⟨env, S, κ, eo, so, h, pk⟩ => ?_
  refine one_rd eo so (pk.px eo so) h fun p S1 v H1 st kp rp q => ?_
  refine one_rd (eo.keep kp) st.ok ((pk.px eo so).step st) q fun p2 S2 v2 H2 st2 kp2 rp2 q2 => ?_
  have st3 := st.trans st2
  refine one_rd (eo.keep (st3.keeps so)) st3.ok ((pk.px eo so).step st3) q2 fun p3 S3 v3 H3 st4 kp3 rp3 q3 => ?_
  have st5 := st3.trans st4
  exact ⟨p2, p3, p, S3, _, rp2.keep kp3, rp3, (rp.keep kp2).keep kp3, st5.ok, q3, fun S' H' st6 q6 => pk.nx _ _ _ _ (st5.trans st6) (eo.keep ((st5.trans st6).keeps so)) q6⟩
def tIpS (K : PySem.W.Frag) (o : BO) : TIp := lift2 K (augS o)
theorem aug_ok (o : BO) : PIp X (boOp o) (lift2 X.K (augS o)) := by
  intro pins s σ H x y v u Q I rx ry ⟨p, q, S, k, hp, hq, so, hr, po⟩
  cases o <;> cases hp <;> cases hq <;> first | exact (show False from hr).elim | skip
  · exact iop_add pins s σ H _ _ v u Q I rx ry ⟨_, _, rfl, rfl, po.here so (.int _) hr⟩
  · exact iop_sub pins s σ H _ _ v u Q I rx ry ⟨_, _, rfl, rfl, po.here so (.int _) hr⟩
  · obtain ⟨h | ⟨h1, h2⟩, hk⟩ := hr
    · exact iop_mul pins s σ H _ _ v u Q I rx ry ⟨_, _, rfl, rfl, h, po.here so (.int _) hk⟩
    · obtain ⟨t, rfl⟩ := rx
      obtain ⟨t', rfl⟩ := ry
      exact imul_int ⟨.int _, H, I.tok _, ⟨_, rfl⟩, po.here so (.int _) hk⟩ (wide_mul h1 h2 (by decide) (by decide) (by decide)).ok
theorem qs_aug {i : Nat} {x : Str} {xp : Pos} {o : BO} (ok : XOk F T d c X W) (hi : c.N[i]? = some x) (hx : locB c.sc x = true) (hr : locB c.raw x = true) (ha : QE X W a ma) :
    QS X W (.AugAssign (.Name x xp) (boOp o) a pos) (fun env S κ => match getE env i with
      | some p => ma env S (fun q S1 => augS o p q S1 fun r S2 => κ.nx (setE env i (some r)) S2) (fun ex S' => κ.ex ex env S')
      | none => False) := by
  refine ps_mono (ps_aug (i := i) (by rw [ok.N]; exact ok.nd) (by rw [ok.N]; exact hi) (by rw [ok.sc]; exact loc_of hx) ha (aug_ok o) (ok.fn x hr)) fun D σ H ⟨env, S, κ, eo, so, h, pk⟩ => ?_
  cases g : getE env i with
  | none => simp only [g] at h
  | some p =>
    simp only [g] at h
    obtain ⟨v, e1, rv⟩ := eo.at_ i p g
    refine ⟨v, e1, one_rd eo so (pk.px eo so) h fun q S1 w H1 st kp rq h2 => ?_⟩
    exact ⟨p, q, S1, _, rv.keep kp, rq, st.ok, h2, fun r S' z H' st2 rr q2 => pk.nx _ _ _ _ (st.trans st2) ((eo.keep ((st.trans st2).keeps so)).set i rr) q2⟩
theorem get_ok (hu : X.A.units + 1 < cLine) : PGet X (fun o i H Q => ∃ ad q S k, RepV X.K H (.loc ad) o ∧ RepV X.K H q i ∧ StOk X.K H S ∧ ixS (.loc ad) q S k ∧ Post X.K H S k Q) := by
  intro pins s σ H o i ov iv Q I ro ri ⟨ad, q, S, k, hp, hq, so, h, po⟩
  cases hp
  rcases h with ⟨ps, n, w, e, rfl, hw, hk⟩ | ⟨kvs, kk, w, e, ek, hw, hk⟩
  · obtain ⟨xs, hx, r1⟩ := so.lst e
    obtain ⟨z, hz, rz⟩ := r1.atI hw
    cases hq
    cases ro
    obtain ⟨t, rfl⟩ := ri
    obtain ⟨its, r, pl, hzz⟩ := I.list (SqL.of hx)
    obtain ⟨j, h1, h2, h3, h4, h5⟩ := atI_get hz
    obtain ⟨w, ew, rw'⟩ := r.get h2
    have hl := r.length
    have hn := line63
    have fin : EP X pins σ Q w s := ⟨z, H, I, rw', po.here so rz hk⟩
    by_cases h0 : 0 ≤ n
    · have hj : n.toNat = j := by
        rw [seqIndex_of h0 h5] at h1
        exact Option.some.inj h1
      exact wpAny_getItem_list pl.isList h0 (by omega) (by rw [hj]; simpa using ew) fin
    · have hj : (n + (its.toArray.size : Int)).toNat = j := by
        rw [seqIndex_neg (by omega) h4] at h1
        rw [List.size_toArray, ← hl]
        exact Option.some.inj h1
      exact wpAny_getItem_list_neg pl.isList (by omega) (by rw [List.size_toArray] <;> omega) (by omega) (by rw [hj]; simpa using ew) fin
  · obtain ⟨ys, hy, e3, r3⟩ := so.dic e
    have ek := key_rep hq ek
    subst ek
    cases ro
    rcases look_of (kk := kk) e3 r3 with ⟨h1, h2⟩ | ⟨p', v', h1, h2, h3⟩
    · rw [hw] at h1; cases h1
    · rw [hw] at h1; cases h1
      exact d_getItem hu I (by have := DGet.k (k := kk) hy; rw [h2] at this; exact this) ri fun w' s' I' rw' => ⟨v', H, I', rw', po.here so h3 hk⟩
theorem qs_augi {o i h : Expr} {tp : Pos} {op : BO} {mo mi mh : ME} (hu : X.A.units + 1 < cLine) (hs : nsl i = true) (ho : QE X W o mo) (hi : QE X W i mi) (hh : QE X W h mh) :
    QS X W (.AugAssign (.Subscript o i tp) (boOp op) h pos) (fun env S κ => mo env S (fun p S1 => (∃ ad, p = .loc ad) ∧ mi env S1 (fun q S2 => ixS p q S2 fun v S3 => mh env S3 (fun w S4 => augS op v w S4 fun z S5 => setS p q z S5 fun S6 => κ.nx env S6)
      (fun ex S' => κ.ex ex env S')) (fun ex S' => κ.ex ex env S')) (fun ex S' => κ.ex ex env S')) := by
  refine ps_mono (ps_augS ho hi (get_ok hu) hh (aug_ok op) (set_ok hu) (fun ov iv new => by cases i <;> first | rfl | (simp [nsl] at hs; done))) fun D σ H ⟨env, S, κ, eo, so, h, pk⟩ => ?_
  refine one_rd eo so (pk.px eo so) h fun p S1 v H1 st kp rp q => ?_
  obtain ⟨⟨ad, rfl⟩, q⟩ := q
  refine one_rd (eo.keep kp) st.ok ((pk.px eo so).step st) q fun p2 S2 v2 H2 st2 kp2 rp2 q2 => ?_
  have sA := st.trans st2
  refine ⟨ad, p2, S2, _, rp.keep kp2, rp2, sA.ok, q2, fun p3 S3 v3 H3 st3 rp3 q3 => ?_⟩
  have sB := sA.trans st3
  have k3 := st3.keeps sA.ok
  refine one_rd (eo.keep (sB.keeps so)) sB.ok ((pk.px eo so).step sB) q3 fun p4 S4 v4 H4 st4 kp4 rp4 q4 => ?_
  have sC := sB.trans st4
  refine ⟨p3, p4, S4, _, rp3.keep kp4, rp4, sC.ok, q4, fun p5 S5 v5 H5 st5 rp5 q5 => ?_⟩
  have sD := sC.trans st5
  have k5 := st5.keeps sC.ok
  exact ⟨.loc ad, p2, p5, S5, _, (((rp.keep kp2).keep k3).keep kp4).keep k5, ((rp2.keep k3).keep kp4).keep k5, rp5, sD.ok, q5, fun S' H' st6 q6 => pk.nx _ _ _ _ (sD.trans st6) (eo.keep ((sD.trans st6).keeps so)) q6⟩
theorem qs_ife {l r : List Stmt} (hc : QT X W a mt) (h1 : QSs X W l m1) (h2 : QSs X W r m2) : QS X W (.If a l r pos) (fun env S κ => mt env S (fun t S1 => if t = true then m1 env S1 κ else m2 env S1 κ) (fun ex S' => κ.ex ex env S')) :=
  ps_mono (ps_if hc h1 h2) fun D σ H ⟨env, S, κ, eo, so, h, pk⟩ => tst_rd eo so (pk.px eo so) h fun t S1 H1 st kp q => by
    cases t with
    | true => rw [if_pos rfl] at q ⊢; exact ⟨env, S1, κ, eo.keep kp, st.ok, q, pk.step st⟩
    | false => rw [if_neg Bool.false_ne_true] at q ⊢; exact ⟨env, S1, κ, eo.keep kp, st.ok, q, pk.step st⟩
theorem qs_whl {l : List Stmt} (ok : XOk F T d c X W) (hc : QT X W a mt) (h1 : QSs X W l m1) : QS X W (.While a l [] pos) (fun env S κ => ∃ I : Nat → PEnv → Store → Prop, (∃ m, I m env S) ∧ ∀ m env S, I m env S →
      mt env S (fun t S1 => if t = true then m1 env S1 { κ with nx := fun env' S' => ∃ m', m' < m ∧ I m' env' S', ct := fun env' S' => ∃ m', m' < m ∧ I m' env' S', bk := κ.nx } else κ.nx env S1) (fun ex S' => κ.ex ex env S')) := by
  refine ps_mono (ps_while ok.po hc h1) fun D σ H ⟨env0, S0, κ, eo, so, ⟨I, ⟨m0, h0⟩, turn⟩, pk⟩ => ?_
  refine ⟨fun m σ1 H1 => ∃ env S1, EnvOk X.K H1 env σ1 ∧ Step X.K H S0 H1 S1 ∧ I m env S1, ⟨m0, env0, S0, eo, Step.refl so, h0⟩, fun m σ1 H1 ⟨env, S1, eo1, st1, hI⟩ => ?_⟩
  have pk1 := pk.step st1
  refine tst_rd eo1 st1.ok (pk1.px eo1 st1.ok) (turn m env S1 hI) fun t S2 H2 st kp q => ?_
  cases t with
  | true =>
    rw [if_pos rfl] at q ⊢
    refine ⟨fun σ' H' => ∃ m', m' < m ∧ ∃ env S1, EnvOk X.K H' env σ' ∧ Step X.K H S0 H' S1 ∧ I m' env S1, fun σ' H' ⟨m', hm, h⟩ => ⟨m', hm, h⟩, ?_⟩
    have again : ∀ env S' σ' H', Step X.K H2 S2 H' S' → EnvOk X.K H' env σ' → (∃ m', m' < m ∧ I m' env S') → ∃ m', m' < m ∧ ∃ env S1, EnvOk X.K H' env σ' ∧ Step X.K H S0 H' S1 ∧ I m' env S1 :=
      fun env S' σ' H' st' eo' ⟨m', hm, h⟩ => ⟨m', hm, env, S', eo', (st1.trans st).trans st', h⟩
    exact ⟨env, S2, _, eo1.keep kp, st.ok, q, again, fun e S' σ' H' st' eo' h => (pk1.step st).nx _ _ _ _ st' eo' h, again, (pk1.step st).rt, (pk1.step st).ex⟩
  | false =>
    rw [if_neg Bool.false_ne_true] at q ⊢
    exact (pk1.nx) _ _ _ _ st (eo1.keep kp) q
theorem qs_for {tgE : Expr} {tg : Tg} {l : List Stmt} {mi : MI'} (ok : XOk F T d c X W) (hn : nset e = true) (hi : QI X W tgE e mi) (hg : PG X tgE (rG X.K tg)) (h1 : QSs X W l m1) :
    QS X W (.For tgE e l [] pos) (fun env S κ => mi env S (fun items stay S1 => runFor stay (fun p env1 S2 nxt => sTg tg p env1 fun env2 => m1 env2 S2 { κ with nx := nxt, ct := nxt, bk := κ.nx }) κ.nx items env S1) (fun ex S' => κ.ex ex env S')) := by
  refine ps_mono (ps_for ok.po ok.calm hi hg h1 (folded_no hn)) fun D σ H ⟨env0, S0, κ, eo, so, h, pk⟩ => ?_
  refine ⟨env0, S0, _, _, eo, so, h, pk.px eo so, fun items stay S1 J H1 st w hr => ?_⟩
  have pk1 := pk.step st
  refine ⟨fun i m σ' H' => m = items.length - i ∧ i ≤ items.length ∧ ∃ env S', EnvOk X.K H' env σ' ∧ Step X.K H1 S1 H' S' ∧ runFor stay (fun p env1 S2 nxt => sTg tg p env1 fun env2 => m1 env2 S2 { κ with nx := nxt, ct := nxt, bk := κ.nx }) κ.nx (items.drop i) env S',
    ⟨items.length, by simp, Nat.zero_le _, env0, S1, eo.keep (st.keeps so), Step.refl st.ok, by simpa using hr⟩, ?_⟩
  rintro i m σ2 H2 ⟨rfl, hle, env, S2, eo2, st2, hl⟩
  have kp := st2.keeps st.ok
  by_cases hlt : i < items.length
  · have hd : items.drop i = items[i] :: items.drop (i + 1) := (List.drop_eq_getElem_cons hlt)
    rw [hd] at hl
    obtain ⟨hst, hstep⟩ := hl
    refine .inr ⟨w.go i H2 S2 kp st2.ok hst hlt, fun σ' H' => i + 1 ≤ items.length ∧ ∃ env S', EnvOk X.K H' env σ' ∧ Step X.K H1 S1 H' S' ∧ runFor stay (fun p env1 S2 nxt => sTg tg p env1 fun env2 => m1 env2 S2 { κ with nx := nxt, ct := nxt, bk := κ.nx }) κ.nx (items.drop (i + 1)) env S',
      fun σ' H' hN => ⟨items.length - (i + 1), by omega, rfl, hlt, hN.2⟩, fun x H3 y => ?_⟩
    obtain ⟨st3, p, hp, rp⟩ := w.yld i H2 S2 x H3 kp st2.ok hst hlt y
    have ep : items[i] = p := by
      have : items[i]? = some items[i] := by simp [hlt]
      rw [this] at hp
      exact Option.some.inj hp
    rw [ep] at hstep
    unfold sTg at hstep
    cases et : PL.tgE tg p env with
    | none => rw [et] at hstep; exact hstep.elim
    | some env2 =>
      rw [et] at hstep
      have sA := st2.trans st3
      refine ⟨p, env, env2, rp, eo2.keep (st3.keeps st2.ok), et, fun σ3 eo3 _ => ?_⟩
      have pk3 := pk1.step sA
      have again : ∀ env S' σ' H', Step X.K H3 S2 H' S' → EnvOk X.K H' env σ' → runFor stay (fun p env1 S2 nxt => sTg tg p env1 fun env2 => m1 env2 S2 { κ with nx := nxt, ct := nxt, bk := κ.nx }) κ.nx (items.drop (i + 1)) env S' →
          i + 1 ≤ items.length ∧ ∃ env S', EnvOk X.K H' env σ' ∧ Step X.K H1 S1 H' S' ∧ runFor stay (fun p env1 S2 nxt => sTg tg p env1 fun env2 => m1 env2 S2 { κ with nx := nxt, ct := nxt, bk := κ.nx }) κ.nx (items.drop (i + 1)) env S' :=
        fun env S' σ' H' st' eo' h => ⟨hlt, env, S', eo', sA.trans st', h⟩
      exact ⟨env2, S2, _, eo3, st3.ok, hstep, again, fun e S' σ' H' st' eo' h => pk3.nx _ _ _ _ st' eo' h, again, pk3.rt, pk3.ex⟩
  · have hi' : i = items.length := by omega
    subst hi'
    rw [List.drop_length] at hl
    exact .inl ⟨w.stop H2 S2 kp st2.ok hl.1, pk1.nx _ _ _ _ st2 eo2 hl.2⟩
theorem swap_none {c : Ctx} {tg : Tg} {t f : Expr} {env : Env} (hg : chkTg c tg t = true) (h : asgB tg f = true) : swappedStores [t] f env = pure none := by
  cases tg with
  | nam i =>
    cases t <;> first | (simp [chkTg] at hg; done) | skip
    cases f <;> rfl
  | tup ts =>
    simp only [asgB, Bool.and_eq_true] at h
    cases t <;> first | (simp [chkTg] at hg; done) | skip
    cases f <;> first | rfl | (simp [ntup] at h; done)
theorem qss_nil : QSs X W [] (fun env S κ => κ.nx env S) := pss_mono pss_nil fun D σ H ⟨env, S, κ, eo, so, h, pk⟩ => pk.nx _ _ _ _ (Step.refl so) eo h
theorem qss_cons {s : Stmt} {r : List Stmt} (h1 : QS X W s m1) (h2 : QSs X W r m2) : QSs X W (s :: r) (fun env S κ => m1 env S { κ with nx := fun env' S' => m2 env' S' κ }) :=
  pss_mono (pss_cons h1 h2) fun D σ H ⟨env, S, κ, eo, so, h, pk⟩ => ⟨env, S, _, eo, so, h, fun e S' σ' H' st eo' q => ⟨e, S', κ, eo', st.ok, q, pk.step st⟩, pk.bk, pk.ct, pk.rt, pk.ex⟩
end
section
variable {F : Inf} {T : Tab} {d : Nat}
theorem lc_parts {elt : Ex} {tg : Tg} {it : It} {ifs : Exs} {own : List (Str × Nat)} {c : Ctx} {el t i : Expr} {fs : List Expr} {scope : Scope} {X : Cx} {W : WX} (ok : XOk F T d c X W) (h4 : fs.length ≤ 1) (h5 : fs.all nif = true) (h8 : chkEs F ⟨c.N, relS scope c.sc, scope⟩ ifs fs = true) :
    ∃ tt : TT, TstOk X.K (sEs T ifs) tt ∧ ∀ (s : Shared) (H : Hp) (C : Addr) (cl : List (Str × Addr)) (fp : List Addr), PTs (X.blk s H scope (compEnvC scope cl C X.env) fp) fs tt := by
  have bl := fun s H C cl fp => ok.blk scope s H C cl fp
  match fs, ifs, h4, h5, h8 with
  | [], .nil, _, _, _ => exact ⟨tYes, fun σ H env S A B Q eo so hm hA hB => hA S H (Step.refl so) hm, fun s H C cl fp => pts_nil⟩
  | [], .cons _ _, _, _, h8 => simp [chkEs] at h8
  | _ :: _ :: _, _, h4, _, _ => simp at h4
  | [f], .nil, _, _, h8 => simp [chkEs] at h8
  | [f], .cons _ (.cons _ _), _, _, h8 => simp [chkEs] at h8
  | [f], .cons a .nil, _, h5, h8 =>
    simp only [chkEs, Bool.and_eq_true, Bool.and_true] at h8
    have hf : nif f = true := by simpa using h5
    refine ⟨rT X.K X.mg W0 (sT T a), fun σ H env S A B Q eo so hm hA hB => ?_, fun s H C cl fp => pts_one ((sndE a _ f _ W0 (bl s H C cl fp) h8.2).2 hf)⟩
    refine ⟨env, S, fun b S1 => if b = true then A S1 else B S1, X0, eo, so, hm, fun b S1 H1 st q => ?_, px0⟩
    cases b with
    | true => exact hA S1 H1 st q
    | false => exact hB S1 H1 st q
theorem chk_nst2 {q : Exs} {c : Ctx} {a b : Expr} (h : chkEs F c q [a, b] = true) : [a, b].all nst = true := chk_nst h
theorem sndS_asg (tg : Tg) (e : Ex) (c : Ctx) (s : Stmt) (X : Cx) (W : WX) (ok : XOk F T d c X W) (h : chkS F c (.asg tg e) s = true) : QS X W s (sS T (.asg tg e)) := by
  cases s <;> first | (simp [chkS] at h; done) | skip
  rename_i ts f pos
  match ts, h with
  | [], h => simp [chkS] at h
  | _ :: _ :: _, h => simp [chkS] at h
  | [t], h =>
    simp only [chkS, Bool.and_eq_true] at h
    obtain ⟨⟨⟨⟨h0, h1⟩, h2⟩, h3⟩, h4⟩ := h
    have g := soundTg ok tg t h2
    have r := (sndE e c f X W ok h3).1
    have sw := swap_none (env := X.env) h2 h4
    have plain : ncomp f = true → QS X W (.Assign [t] f pos) (sS T (.asg tg e)) := fun hn => qs_asg r g h0 (swaps_sole hn) sw
    cases tg with
    | tup ts =>
      simp only [asgB, Bool.and_eq_true] at h4
      exact plain h4.1
    | nam j =>
      cases t <;> first | (simp [chkTg] at h2; done) | skip
      rename_i x px
      cases f <;> first | exact plain rfl | (simp [onName, ncomp] at h1; done) | skip
      rename_i el gs scope lp
      simp only [onName, Bool.and_eq_true] at h1
      obtain ⟨hloc, h1⟩ := h1
      by_cases hc : swB x px lp scope = true
      · rw [hc, Bool.not_true, Bool.false_or, decide_eq_true_eq] at h1
        match e, gs, r, h3 with
        | .lc elt tg it ifs own, [⟨t, i, fs, as⟩], r, h3 =>
          simp only [chkE, Bool.and_eq_true, decide_eq_true_eq] at h3
          obtain ⟨⟨⟨⟨⟨⟨⟨⟨⟨rfl, g1⟩, g2⟩, g3⟩, g4⟩, g5⟩, g6⟩, g7⟩, g8⟩, g9⟩ := h3
          have hs : ∀ j ∈ tgIx tg, j ∈ own.map (·.2) := fun j hj => by
            have := List.all_eq_true.mp g2 j hj
            simpa using this
          have bl := fun s H C cl fp => ok.blk scope s H C cl fp
          obtain ⟨tt, htt, hts⟩ := lc_parts (elt := elt) (tg := tg) (it := it) (own := own) (el := el) (t := t) (i := i) ok g4 g5 g8
          simp only [chkTg, Bool.and_eq_true, decide_eq_true_eq] at h2
          refine ⟨fun pins s σ H D I hh => ?_⟩
          have hb : X.env.blockKind = .function := by unfold Env.blockKind; rw [I.ok.kind]; rfl
          have hsw : swapsWith (.ListComp el [⟨t, i, fs, 0⟩] scope lp) (some (.Name x px)) pos.line X.env = pure true := by
            have hk : (X.env.kindOf x == some NameKind.local) = true := by
              show (X.env.scope.names.lookup x == _) = true
              rw [ok.sc, h1]; rfl
            show pure (X.env.blockKind == .function && X.env.kindOf x == some .local && px.line == lp.line && !(scope.names.any fun (n, k) => n == x && (k == .local || k == .cell))) = pure true
            rw [hb, hk, Bool.and_assoc]
            show pure (_ && swB x px lp scope) = _
            rw [hc]; rfl
          exact (qs_lc ok g1 hs g3 (sndI it c t i X W ok g7) h2.1.1 h1 hsw (fun s H C cl fp => soundTg (bl s H C cl fp) tg t g6) hts htt (fun s H C cl fp => (sndE elt _ el _ W0 (bl s H C cl fp) g9).1)).run pins s σ H D I (asg_rdn hh)
        | .lc _ _ _ _ _, [], _, h3 => simp [chkE] at h3
        | .lc _ _ _ _ _, _ :: _ :: _, _, h3 => simp [chkE] at h3
        | .nam _, _, _, h3 | .glo _, _, _, h3 | .int _, _, _, h3 | .str _, _, _, h3 | .bl _, _, _, h3 | .non, _, _, h3 | .tup _, _, _, h3 | .lst _, _, _, h3 | .dic _ _, _, _, h3 | .bin _ _ _, _, _, h3 | .neg _, _, _, h3 | .cmp _ _ _, _, _, h3 | .isn _ _, _, _, h3 | .chn _ _ _ _ _, _, _, h3
        | .bop _ _, _, _, h3 | .not _, _, _, h3 | .ife _ _ _, _, _, h3 | .idx _ _, _, _, h3 | .slc _ _ _, _, _, h3 | .call _ _, _, _, h3 | .callk _ _ _ _ _, _, _, h3 | .bi _ _, _, _, h3 | .isi _ _, _, _, h3 | .mth _ _ _, _, _, h3 => simp [chkE] at h3
      · simp only [chkTg, Bool.and_eq_true, decide_eq_true_eq] at h2
        have hsw : swapsWith (.ListComp el gs scope lp) (some (.Name x px)) pos.line X.env = pure false := by
          show pure (X.env.blockKind == .function && X.env.kindOf x == some .local && px.line == lp.line && !(scope.names.any fun (n, k) => n == x && (k == .local || k == .cell))) = pure false
          rw [Bool.and_assoc]
          show pure (_ && swB x px lp scope) = _
          rw [Bool.eq_false_iff.mpr hc, Bool.and_false]
        exact ps_mono (ps_set (by rw [ok.N]; exact ok.nd) (by rw [ok.N]; exact h2.1.1) (by rw [ok.sc]; exact loc_of h2.1.2) r hsw (ok.fn x h2.2)) fun D σ H hh => asg_rdn hh
theorem sndS_par (i j : Nat) (es : Exs) (c : Ctx) (s : Stmt) (X : Cx) (W : WX) (ok : XOk F T d c X W) (h : chkS F c (.par i j es) s = true) : QS X W s (sS T (.par i j es)) := by
  cases s <;> first | (simp [chkS] at h; done) | skip
  rename_i ts f pos
  match ts, f, h with
  | [.Tuple [.Name x px, .Name y py] kt tp], .Tuple [a, b] k2 pt2, h =>
    simp only [chkS, Bool.and_eq_true, decide_eq_true_eq, Bool.not_eq_true'] at h
    obtain ⟨⟨⟨⟨⟨⟨⟨⟨⟨h1, h2⟩, h3⟩, h4⟩, h5⟩, h6⟩, h7⟩, h8⟩, h9⟩, h10⟩ := h
    exact qs_par ok h1 h2 h3 h4 h5 h6 h7 h8 h9 (chk_nst h10) (sndEs es c [a, b] X W ok h10).1
theorem sndS_seti (o i e : Ex) (c : Ctx) (s : Stmt) (X : Cx) (W : WX) (ok : XOk F T d c X W) (hh : chkS F c (.seti o i e) s = true) : QS X W s (sS T (.seti o i e)) := by
  cases s <;> first | (simp [chkS] at hh; done) | skip
  rename_i ts f pos
  cases ts with
  | nil => simp [chkS] at hh
  | cons t ts =>
    cases ts with
    | nil =>
      cases t <;> first | (simp [chkS] at hh; done) | skip
      simp only [chkS, Bool.and_eq_true] at hh
      obtain ⟨⟨⟨⟨h1, h2⟩, h3⟩, h4⟩, h5⟩ := hh
      exact qs_seti ok.hu h1 h2 (sndE o c _ X W ok h3).1 (sndE i c _ X W ok h4).1 (sndE e c _ X W ok h5).1
    | cons t2 ts =>
      exfalso
      unfold chkS at hh
      cases t <;> exact Bool.noConfusion hh
theorem sndS_aug (i : Nat) (o : BO) (e : Ex) (c : Ctx) (s : Stmt) (X : Cx) (W : WX) (ok : XOk F T d c X W) (h : chkS F c (.aug i o e) s = true) : QS X W s (sS T (.aug i o e)) := by
  cases s <;> first | (simp [chkS] at h; done) | skip
  rename_i t op f pos
  cases t <;> first | (simp [chkS] at h; done) | skip
  simp only [chkS, Bool.and_eq_true, decide_eq_true_eq] at h
  obtain ⟨⟨⟨⟨h1, h2⟩, h3⟩, rfl⟩, h5⟩ := h
  exact qs_aug ok h1 h2 h3 (sndE e c _ X W ok h5).1
theorem sndS_augi (o : BO) (a i e : Ex) (c : Ctx) (s : Stmt) (X : Cx) (W : WX) (ok : XOk F T d c X W) (h : chkS F c (.augi o a i e) s = true) : QS X W s (sS T (.augi o a i e)) := by
  cases s <;> first | (simp [chkS] at h; done) | skip
  rename_i t op f pos
  cases t <;> first | (simp [chkS] at h; done) | skip
  simp only [chkS, Bool.and_eq_true, decide_eq_true_eq] at h
  obtain ⟨⟨⟨⟨h1, rfl⟩, h3⟩, h4⟩, h5⟩ := h
  exact qs_augi ok.hu h1 (sndE a c _ X W ok h3).1 (sndE i c _ X W ok h4).1 (sndE e c _ X W ok h5).1
theorem sndS_exp (e : Ex) (c : Ctx) (s : Stmt) (X : Cx) (W : WX) (ok : XOk F T d c X W) (h : chkS F c (.exp e) s = true) : QS X W s (sS T (.exp e)) := by
  cases s <;> first | (simp [chkS] at h; done) | skip
  simp only [chkS, Bool.and_eq_true] at h
  exact qs_exp h.1 (sndE e c _ X W ok h.2).1
theorem sndS_ret (e : Ex) (c : Ctx) (s : Stmt) (X : Cx) (W : WX) (ok : XOk F T d c X W) (h : chkS F c (.ret e) s = true) : QS X W s (sS T (.ret e)) := by
  cases s <;> first | (simp [chkS] at h; done) | skip
  rename_i f pos
  cases f with
  | none => simp [chkS] at h
  | some f =>
    simp only [chkS] at h
    exact qs_ret (sndE e c f X W ok h).1
theorem sndS_retn  (c : Ctx) (s : Stmt) (X : Cx) (W : WX) (ok : XOk F T d c X W) (h : chkS F c (.retn) s = true) : QS X W s (sS T (.retn)) := by
  cases s <;> first | (simp [chkS] at h; done) | skip
  rename_i f pos
  cases f with
  | some f => simp [chkS] at h
  | none => exact qs_retn
theorem sndS_pas  (c : Ctx) (s : Stmt) (X : Cx) (W : WX) (ok : XOk F T d c X W) (h : chkS F c (.pas) s = true) : QS X W s (sS T (.pas)) := by
  cases s <;> first | (simp [chkS] at h; done) | skip
  exact qs_pas
theorem sndS_brk  (c : Ctx) (s : Stmt) (X : Cx) (W : WX) (ok : XOk F T d c X W) (h : chkS F c (.brk) s = true) : QS X W s (sS T (.brk)) := by
  cases s <;> first | (simp [chkS] at h; done) | skip
  exact qs_brk
theorem sndS_cnt  (c : Ctx) (s : Stmt) (X : Cx) (W : WX) (ok : XOk F T d c X W) (h : chkS F c (.cnt) s = true) : QS X W s (sS T (.cnt)) := by
  cases s <;> first | (simp [chkS] at h; done) | skip
  exact qs_cnt
mutual
theorem sndS : ∀ (q : Sn) (c : Ctx) (s : Stmt) (X : Cx) (W : WX), XOk F T d c X W → chkS F c q s = true → QS X W s (sS T q)
  | .asg tg e, c, s, X, W, ok, h => sndS_asg tg e c s X W ok h
  | .par i j es, c, s, X, W, ok, h => sndS_par i j es c s X W ok h
  | .seti o i e, c, s, X, W, ok, h => sndS_seti o i e c s X W ok h
  | .aug i o e, c, s, X, W, ok, h => sndS_aug i o e c s X W ok h
  | .augi o a i e, c, s, X, W, ok, h => sndS_augi o a i e c s X W ok h
  | .exp e, c, s, X, W, ok, h => sndS_exp e c s X W ok h
  | .ret e, c, s, X, W, ok, h => sndS_ret e c s X W ok h
  | .retn, c, s, X, W, ok, h => sndS_retn  c s X W ok h
  | .ife t a b, c, s, X, W, ok, h => by
    cases s <;> first | (simp [chkS] at h; done) | skip
    simp only [chkS, Bool.and_eq_true] at h
    obtain ⟨⟨⟨h1, h2⟩, h3⟩, h4⟩ := h
    exact qs_ife ((sndE t c _ X W ok h2).2 h1) (sndSs a c _ X W ok h3) (sndSs b c _ X W ok h4)
  | .whl t a, c, s, X, W, ok, h => by
    cases s <;> first | (simp [chkS] at h; done) | skip
    rename_i f l orl pos
    cases orl with
    | cons _ _ => simp [chkS] at h
    | nil =>
      simp only [chkS, Bool.and_eq_true] at h
      obtain ⟨⟨h1, h2⟩, h3⟩ := h
      exact qs_whl ok ((sndE t c _ X W ok h2).2 h1) (sndSs a c _ X W ok h3)
  | .for_ tg it a, c, s, X, W, ok, h => by
    cases s <;> first | (simp [chkS] at h; done) | skip
    rename_i t i l orl pos
    cases orl with
    | cons _ _ => simp [chkS] at h
    | nil =>
      simp only [chkS, Bool.and_eq_true] at h
      obtain ⟨⟨⟨h1, h2⟩, h3⟩, h4⟩ := h
      exact qs_for ok h1 (sndI it c t i X W ok h3) (soundTg ok tg t h2) (sndSs a c _ X W ok h4)
  | .pas, c, s, X, W, ok, h => sndS_pas  c s X W ok h
  | .brk, c, s, X, W, ok, h => sndS_brk  c s X W ok h
  | .cnt, c, s, X, W, ok, h => sndS_cnt  c s X W ok h
theorem sndSs : ∀ (q : Sns) (c : Ctx) (s : List Stmt) (X : Cx) (W : WX), XOk F T d c X W → chkSs F c q s = true → QSs X W s (sSs T q)
  | .nil, c, s, X, W, ok, h => by
    cases s with
    | cons _ _ => simp [chkSs] at h
    | nil => exact qss_nil
  | .cons a r, c, s, X, W, ok, h => by
    cases s with
    | nil => simp [chkSs] at h
    | cons t ts =>
      simp only [chkSs, Bool.and_eq_true] at h
      exact qss_cons (m1 := sS T a) (m2 := sSs T r) (sndS a c t X W ok h.1) (sndSs r c ts X W ok h.2)
end
end
end PL
namespace PL
open PySem PySem.Spec PyProof.Rows L2

/-! ### defs -/
section
variable {F : Inf} {P : Program} {w : World} {K : PySem.W.Frag} {mg : Str → Option Value} {base : Heap} {T : Tab} {d : Nat}
theorem fun_snd (gl : GloOk F P w K mg base T d) {x : Str} {st : Stmt} {f : Addr} {fd : FuncData} (D : Fd) (Fn : Fun K x x st f fd) (S : FnScope D.N D.ps (defScope st)) (chk : chkSs F ⟨D.N, defScope st, defScope st⟩ D.body (defBody st) = true) :
    FnOk P w K mg base (L2.CX P w) (d + 1) f fd D.ps (spOf K mg (fnS T D) D.ps.length) := by
  refine Fn.okX S (fun vs H Q E h => ?_) (fun cdv A outer s H vs Q E hr h => ?_)
  · obtain ⟨_, _, _, _, _, hl, _⟩ := h
    exact hl
  · obtain ⟨ps, S0, k, x', rp, hl, so, hm, po, px⟩ := h
    have ok : XOk F T d ⟨D.N, defScope st, defScope st⟩ (cxOf (L2.CX P w) P w K mg base D.N x (defScope st) f cdv A outer s H E) (fun cls d _ H => E cls d H) :=
      ⟨rfl, rfl, S.nd, rfl, takes_of rfl rfl rfl rfl, passes_of rfl, hr, fun _ _ => .inl rfl, gl⟩
    refine ⟨_, sndSs D.body _ _ _ _ ok chk, startE D.N.length ps, S0, _, EnvOk.start rp, so, hm.2, ⟨?_, ?_, ?_, ?_, ?_⟩⟩
    · intro env S' σ' H' st' eo ⟨S2, sub, kq⟩
      exact po _ _ _ _ (st'.less sub) .non kq
    · intro env S' σ' H' st' eo h
      exact h.elim
    · intro env S' σ' H' st' eo h
      exact h.elim
    · intro p S' v H' st' rv ⟨S2, sub, kq⟩
      exact po _ _ _ _ (st'.less sub) rv kq
    · intro ex env S' cls d' σ' H' st' eo rx q
      exact px ex S' cls d' H' st' rx q
/-- one def of the text, found -/
structure DefOk (F : Inf) (K : PySem.W.Frag) (mg : Str → Option Value) (i : Nat) (D : Fd) (st : Stmt) : Prop where
  ex : ∃ f fd, mg D.name = some (.ref f) ∧ Fun K D.name D.name st f fd ∧ Binds K fd D.ps [] ∧ ∀ ks pm, (i, ks, pm) ∈ F.kws → KwB K fd D.ps ks pm
  sc : FnScope D.N D.ps (defScope st)
  chk : chkSs F ⟨D.N, defScope st, defScope st⟩ D.body (defBody st) = true
theorem gl_all {Ds : List Fd} {con : Str → Option PV} (hf : F.fns = Ds.map fun D => (D.name, D.ps)) (hb : ∀ x ∈ F.bis, mg x = none) (hc : ∀ x p, con x = some p → ∃ u v, mg x = some u ∧ RelV v u ∧ ∀ H, RepV K H p v)
    (hd : ∀ i D, Ds[i]? = some D → ∃ st, DefOk F K mg i D st) : ∀ d, GloOk F P w K mg base (Tb Ds con d) d
  | 0 => by
    refine ⟨fun i nm ps h => ?_, hb, tmono_Tb _ _ _, fun i nm ps args S k x h z => z.elim, hc⟩
    rw [hf, List.getElem?_map] at h
    cases e : Ds[i]? with
    | none => rw [e] at h; cases h
    | some D =>
      rw [e] at h
      cases h
      obtain ⟨st, dk⟩ := hd i D e
      obtain ⟨f, fd, h1, h2, h3, h4⟩ := dk.ex
      refine ⟨f, fd, h1, h2.kp, h3, h4, ⟨fun vs H Q E h => ?_, fun A outer s H args us vs Q E hr he hb hv h => ?_⟩⟩
      · obtain ⟨_, _, _, _, _, hl, _⟩ := h
        exact hl
      · obtain ⟨_, _, _, _, _, _, _, z, _⟩ := h
        exact z.elim
  | d + 1 => by
    have ih := gl_all hf hb hc hd d
    refine ⟨fun i nm ps h => ?_, hb, tmono_Tb _ _ _, fun i nm ps args S k x h z => ?_, hc⟩
    · rw [hf, List.getElem?_map] at h
      cases e : Ds[i]? with
      | none => rw [e] at h; cases h
      | some D =>
        rw [e] at h
        cases h
        obtain ⟨st, dk⟩ := hd i D e
        obtain ⟨f, fd, h1, h2, h3, h4⟩ := dk.ex
        refine ⟨f, fd, h1, h2.kp, h3, h4, ?_⟩
        have e2 : (Tb Ds con (d + 1)).fn i = fnS (Tb Ds con d) D := by
          funext a b c x
          simp only [Tb, e]
        rw [e2]
        exact fun_snd ih D h2 dk.sc dk.chk
    · rw [hf, List.getElem?_map] at h
      simp only [Tb] at z
      cases e : Ds[i]? with
      | none => rw [e] at z; exact z.elim
      | some D =>
        rw [e] at z h
        cases h
        exact z.1
end
/-! ### the law's own promise -/
def Law (T : Tab) (i : Nat) (n : Nat) : Prop := ∀ ns : List Int, ns.length ≤ n → T.fn i [.frl (ns.map .int)] (fun _ => none) (fun p _ => p = .bl true) (fun _ _ => False)
theorem ints_rep {K : PySem.W.Frag} {H : Hp} : ∀ ns : List Int, RepVs K H (ns.map PV.int) (ns.map V.int)
  | [] => .nil
  | n :: ns => .cons (.int n) (ints_rep ns)
theorem law_sp {K : PySem.W.Frag} {mg : Str → Option Value} {T : Tab} {i n : Nat} (h : Law T i n) {H : Hp} {a : Addr} {ns : List Int} (hl : ns.length ≤ n) (ho : Only H) (hs : SqL K H a (ns.map V.int)) :
    spOf K mg (T.fn i) 1 [.ref a] H (fun v _ => v = .bl true) fun _ _ _ => False := by
  have fz : FzL K H a (ns.map V.int) := by
    rcases hs with (hs | hs) | hs
    · exfalso
      rcases ho a with z | ⟨o, xs, z⟩ <;> rw [hs] at z <;> cases z
    · exact .inl hs
    · exact .inr hs
  exact ⟨_, fun _ => none, _, _, .one (.frl fz (ints_rep ns)), rfl, (fun a o h => by cases h), h ns hl, fun p S' v H' st rp q => by subst q; cases rp; rfl, fun ex S' cls d H' st rx q => q.elim⟩
theorem cx_no {P : Program} {w : World} (H : Hp) (s : Shared) (e : Value) (s' : Shared) (h : L2.CX P w [] H s (fun _ _ _ => False) e s') : False := by
  obtain ⟨_, _, _, _, _, _, _, _, _, _, _, _, z⟩ := h
  exact z.elim
end PL
namespace PL
open PySem PySem.Spec PyProof.Rows L2

/-! ### what the top has left -/
def DefIn (K : PySem.W.Frag) (x : Str) (st : Stmt) : Prop := ∃ (f : Addr) (oc : Value) (od an : Option Addr) (sl : Array (Option Value)) (kV dc pm cd ct : Value), PySem.W.nsIn K mainGlobals x = some (some (.ref f)) ∧
  K.lookup f = some ⟨oc, od, .func (PySem.W.fnOf x x (defArgs st) (defBody st) (defScope st) .none kV dc pm an cd ct), sl⟩ ∧ PySem.W.codeIn K cd x = true ∧ PySem.W.keepIn K (.ref f) = true
theorem def_in {K : PySem.W.Frag} {x : Str} {st : Stmt} {f : Addr} {oc : Value} {od an : Option Addr} {sl : Array (Option Value)} {kV dc pm cd ct : Value} (a : PySem.W.nsIn K mainGlobals x = some (some (.ref f)))
    (l : K.lookup f = some ⟨oc, od, .func (PySem.W.fnOf x x (defArgs st) (defBody st) (defScope st) .none kV dc pm an cd ct), sl⟩) (c : PySem.W.codeIn K cd x = true) (k : PySem.W.keepIn K (.ref f) = true) : DefIn K x st :=
  ⟨f, oc, od, an, sl, kV, dc, pm, cd, ct, a, l, c, k⟩
def KwEq (D : Fd) (st : Stmt) (ks : List Str) (pm' : List Nat) : Prop := ∀ (kV dc pm : Value) (an : Option Addr) (cd ct : Value) (us ws : List Value), us.length = pm'.length - ks.length → ws.length = ks.length →
  bindArgs (PySem.W.fnOf D.name D.name (defArgs st) (defBody st) (defScope st) .none kV dc pm an cd ct) ⟨us, ks.zip ws⟩ = pure (D.ps.zip (perm pm' (us ++ ws)))
theorem DefIn.ok {F : Inf} {K : PySem.W.Frag} {mg : Str → Option Value} {h : Heap} (X : K.In h) (G : h.Ns mainGlobals mg) {i : Nat} {D : Fd} {st : Stmt} (d : DefIn K D.name st) (sc : FnScope D.N D.ps (defScope st))
    (chk : chkSs F ⟨D.N, defScope st, defScope st⟩ D.body (defBody st) = true)
    (bnd : ∀ (kV dc pm : Value) (an : Option Addr) (cd ct : Value) (us : List Value), us.length = D.ps.length → bindArgs (PySem.W.fnOf D.name D.name (defArgs st) (defBody st) (defScope st) .none kV dc pm an cd ct) ⟨us, []⟩ = pure (D.ps.zip us))
    (kw : ∀ e ∈ F.kws, e.1 = i → KwEq D st e.2.1 e.2.2) : DefOk F K mg i D st := by
  obtain ⟨f, oc, od, an, sl, kV, dc, pm, cd, ct, a, l, c, k⟩ := d
  have Fn := fun_mk l c k
  refine ⟨⟨f, _, PySem.W.mg_of X G a, Fn, Fn.binds bnd, fun ks pm' hm s us ws _ h1 h2 => ?_⟩, sc, chk⟩
  exact .of_eq (kw _ hm rfl kV dc pm an cd ct us ws (by show us.length = pm'.length - ks.length; omega) h2)
theorem con_mk {K : PySem.W.Frag} {mg : Str → Option Value} {L : List (Str × PV)} (h : ∀ e ∈ L, ∃ u v, mg e.1 = some u ∧ RelV v u ∧ ∀ H, RepV K H e.2 v) (x : Str) (p : PV) (e : L.lookup x = some p) : ∃ u v, mg x = some u ∧ RelV v u ∧ ∀ H, RepV K H p v :=
  h (x, p) (PySem.mem_of_lookup e)
def IntIn (K : PySem.W.Frag) (x : Str) (i : Int) : Prop := ∃ t, PySem.W.nsIn K mainGlobals x = some (some (.int i t))
theorem int_in {K : PySem.W.Frag} {x : Str} {i : Int} {t : Tok} (a : PySem.W.nsIn K mainGlobals x = some (some (.int i t))) : IntIn K x i := ⟨t, a⟩
theorem IntIn.con {K : PySem.W.Frag} {mg : Str → Option Value} {h : Heap} (X : K.In h) (G : h.Ns mainGlobals mg) {x : Str} {i : Int} (d : IntIn K x i) : ∃ u v, mg x = some u ∧ RelV v u ∧ ∀ H, RepV K H (.int i) v := by
  obtain ⟨t, a⟩ := d
  exact ⟨_, .int i, PySem.W.mg_of X G a, ⟨t, rfl⟩, fun H => .int i⟩
def lawSp (K : PySem.W.Frag) (g : List PV → Store → Kt → Xt → Prop) (n : Nat) : Sp := fun vs H Q E => ∀ mg, spOf K mg g n vs H Q E
def LawG (g : List PV → Store → Kt → Xt → Prop) (n : Nat) : Prop := ∀ ns : List Int, ns.length ≤ n → g [.frl (ns.map .int)] (fun _ => none) (fun p _ => p = .bl true) (fun _ _ => False)
theorem law_spG {K : PySem.W.Frag} {g : List PV → Store → Kt → Xt → Prop} {n : Nat} (h : LawG g n) {H : Hp} {a : Addr} {ns : List Int} (hl : ns.length ≤ n) (ho : Only H) (hs : SqL K H a (ns.map V.int)) :
    lawSp K g 1 [.ref a] H (fun v _ => v = .bl true) fun _ _ _ => False := fun mg => law_sp (T := ⟨fun _ => g, fun _ => none⟩) (i := 0) h hl ho hs
end PL
namespace PL
open PySem PySem.Spec PyProof.Rows L2

/-! ### reading the trees -/
theorem runFor_inv {stay : Store → Prop} {step : PV → PEnv → Store → (PEnv → Store → Prop) → Prop} {done : PEnv → Store → Prop} (I : Nat → PEnv → Store → Prop) : ∀ (items : List PV) (j : Nat) (env : PEnv) (S : Store), I j env S →
    (∀ i p env S, items[i]? = some p → I (j + i) env S → stay S ∧ ∀ nxt : PEnv → Store → Prop, (∀ e S', I (j + i + 1) e S' → nxt e S') → step p env S nxt) → (∀ env S, I (j + items.length) env S → stay S ∧ done env S) → runFor stay step done items env S
  | [], j, env, S, h, _, hd => hd env S h
  | p :: ps, j, env, S, h, hs, hd => by
    obtain ⟨h1, h2⟩ := hs 0 p env S rfl h
    refine ⟨h1, h2 _ fun e S' h' => runFor_inv I ps (j + 1) e S' h' (fun i q env S hq hI => ?_) (fun env S hI => hd env S ?_)⟩
    · have := hs (i + 1) q env S (by simpa using hq) (by rw [show j + (i + 1) = j + 1 + i by omega]; exact hI)
      rw [show j + (i + 1) + 1 = j + 1 + i + 1 by omega] at this
      exact this
    · rw [show j + (p :: ps).length = j + 1 + ps.length by simp; omega]
      exact hI
theorem runFor_inv0 {stay : Store → Prop} {step : PV → PEnv → Store → (PEnv → Store → Prop) → Prop} {done : PEnv → Store → Prop} (I : Nat → PEnv → Store → Prop) {items : List PV} {env : PEnv} {S : Store} (h0 : I 0 env S)
    (hs : ∀ i p env S, items[i]? = some p → I i env S → stay S ∧ ∀ nxt : PEnv → Store → Prop, (∀ e S', I (i + 1) e S' → nxt e S') → step p env S nxt) (hd : ∀ env S, I items.length env S → stay S ∧ done env S) : runFor stay step done items env S :=
  runFor_inv I items 0 env S h0 (fun i p env S hp hI => by have := hs i p env S hp (by simpa using hI); simpa using this) (fun env S hI => hd env S (by simpa using hI))
theorem rngL_get {lo : Int} {n i : Nat} {p : PV} (h : (rngL lo n)[i]? = some p) : i < n ∧ p = .int (lo + i) := by
  unfold rngL at h
  rw [List.getElem?_map] at h
  by_cases hi : i < n
  · rw [List.getElem?_range hi] at h
    exact ⟨hi, (Option.some.inj h).symm⟩
  · rw [List.getElem?_eq_none (by simpa using hi)] at h
    cases h
theorem rngL_len (lo : Int) (n : Nat) : (rngL lo n).length = n := by simp [rngL]
theorem loopC_inv {stay : Store → Prop} {step : PV → Store → (Option PV → Store → Prop) → Prop} {done : List PV → Store → Prop} (I : Nat → List PV → Store → Prop) : ∀ (items : List PV) (j : Nat) (acc : List PV) (S : Store), I j acc S →
    (∀ i p acc S, items[i]? = some p → I (j + i) acc S → stay S ∧ ∀ nxt : Option PV → Store → Prop, (∀ r S', I (j + i + 1) (match r with | some y => acc ++ [y] | none => acc) S' → nxt r S') → step p S nxt) → (∀ acc S, I (j + items.length) acc S → stay S ∧ done acc S) → loopC stay step done items acc S
  | [], j, acc, S, h, _, hd => hd acc S h
  | p :: ps, j, acc, S, h, hs, hd => by
    obtain ⟨h1, h2⟩ := hs 0 p acc S rfl h
    refine ⟨h1, h2 _ fun r S' h' => loopC_inv I ps (j + 1) _ S' h' (fun i q acc S hq hI => ?_) (fun acc S hI => hd acc S ?_)⟩
    · have := hs (i + 1) q acc S (by simpa using hq) (by rw [show j + (i + 1) = j + 1 + i by omega]; exact hI)
      rw [show j + (i + 1) + 1 = j + 1 + i + 1 by omega] at this
      exact this
    · rw [show j + (p :: ps).length = j + 1 + ps.length by simp; omega]
      exact hI
theorem loopC_inv0 {stay : Store → Prop} {step : PV → Store → (Option PV → Store → Prop) → Prop} {done : List PV → Store → Prop} (I : Nat → List PV → Store → Prop) {items : List PV} {S : Store} (h0 : I 0 [] S)
    (hs : ∀ i p acc S, items[i]? = some p → I i acc S → stay S ∧ ∀ nxt : Option PV → Store → Prop, (∀ r S', I (i + 1) (match r with | some y => acc ++ [y] | none => acc) S' → nxt r S') → step p S nxt) (hd : ∀ acc S, I items.length acc S → stay S ∧ done acc S) : loopC stay step done items [] S :=
  loopC_inv I items 0 [] S h0 (fun i p acc S hp hI => by have := hs i p acc S hp (by simpa using hI); simpa using this) (fun acc S hI => hd acc S (by simpa using hI))
theorem sub_sup {S : Store} {q : Addr} {o : MO} (h : S q = none) : Sub S (sup S q o) := fun a o' e => by
  rw [sup_ne (fun z => by rw [z, h] at e; cases e)]
  exact e
theorem sub_refl (S : Store) : Sub S S := fun _ _ h => h

/-! ### rewriting -/
section
variable {T : Tab} {env : PEnv} {S : Store} {k : Kt} {x : Xt} {κ : SK} {a b : Addr} {p q v : PV} {xs : List PV}
theorem w_asg (tg : Tg) (e : Ex) : sS T (.asg tg e) env S κ = sE T e env S (fun p S1 => sTg tg p env fun env2 => κ.nx env2 S1) (fun ex S' => κ.ex ex env S') := rfl
theorem w_par (i j : Nat) (a b : Ex) : sS T (.par i j (.cons a (.cons b .nil))) env S κ = sE T a env S (fun p S1 => sE T b env S1 (fun q S2 => κ.nx (setE (setE env i (some p)) j (some q)) S2) (fun ex S' => κ.ex ex env S')) (fun ex S' => κ.ex ex env S') := by
  show sE T a env S (fun p S1 => sE T b env S1 (fun q S2 => ∃ p' q', [p, q] = [p', q'] ∧ κ.nx (setE (setE env i (some p')) j (some q')) S2) _) _ = _
  have e : ∀ p q S2, (∃ p' q', [p, q] = [p', q'] ∧ κ.nx (setE (setE env i (some p')) j (some q')) S2) = κ.nx (setE (setE env i (some p)) j (some q)) S2 := fun p q S2 => propext ⟨fun ⟨p', q', h1, h2⟩ => by cases h1; exact h2, fun h => ⟨p, q, rfl, h⟩⟩
  simp only [e]
theorem w_seti (o i e : Ex) : sS T (.seti o i e) env S κ = sE T e env S (fun v S1 => sE T o env S1 (fun p S2 => sE T i env S2 (fun q S3 => setS p q v S3 fun S4 => κ.nx env S4) (fun ex S' => κ.ex ex env S')) (fun ex S' => κ.ex ex env S')) (fun ex S' => κ.ex ex env S') := rfl
theorem w_aug (i : Nat) (o : BO) (e : Ex) : sS T (.aug i o e) env S κ = (match getE env i with
    | some p => sE T e env S (fun q S1 => augS o p q S1 fun r S2 => κ.nx (setE env i (some r)) S2) (fun ex S' => κ.ex ex env S')
    | none => False) := rfl
theorem w_exp (e : Ex) : sS T (.exp e) env S κ = sE T e env S (fun _ S1 => κ.nx env S1) (fun ex S' => κ.ex ex env S') := rfl
theorem w_ret (e : Ex) : sS T (.ret e) env S κ = sE T e env S (fun p S1 => κ.rt p S1) (fun ex S' => κ.ex ex env S') := rfl
theorem w_retn : sS T .retn env S κ = κ.rt .non S := rfl
theorem w_ife (c : Ex) (l r : Sns) : sS T (.ife c l r) env S κ = sE T c env S (fun p S1 => truS p S1 fun t => if t = true then sSs T l env S1 κ else sSs T r env S1 κ) (fun ex S' => κ.ex ex env S') := rfl
theorem w_pas : sS T .pas env S κ = κ.nx env S := rfl
theorem w_brk : sS T .brk env S κ = κ.bk env S := rfl
theorem w_cnt : sS T .cnt env S κ = κ.ct env S := rfl
theorem w_for (tg : Tg) (it : It) (l : Sns) : sS T (.for_ tg it l) env S κ = sI T it env S (fun items stay S1 => runFor stay (fun p env1 S2 nxt => sTg tg p env1 fun env2 => sSs T l env2 S2 { κ with nx := nxt, ct := nxt, bk := κ.nx }) κ.nx items env S1) (fun ex S' => κ.ex ex env S') := rfl
theorem w_whl (c : Ex) (l : Sns) : sS T (.whl c l) env S κ = ∃ I : Nat → PEnv → Store → Prop, (∃ m, I m env S) ∧ ∀ m env S, I m env S →
      sE T c env S (fun p S1 => truS p S1 fun t => if t = true then sSs T l env S1 { κ with nx := fun env' S' => ∃ m', m' < m ∧ I m' env' S', ct := fun env' S' => ∃ m', m' < m ∧ I m' env' S', bk := κ.nx } else κ.nx env S1) (fun ex S' => κ.ex ex env S') := rfl
theorem w_nil : sSs T .nil env S κ = κ.nx env S := rfl
theorem w_cons (s : Sn) (r : Sns) : sSs T (.cons s r) env S κ = sS T s env S { κ with nx := fun env' S' => sSs T r env' S' κ } := rfl
theorem w_len_loc : biS .len [.loc a] S k = (match S a with | some (.lst xs) => k (.int xs.length) S | some (.dic kvs) => k (.int kvs.length) S | none => False) := by
  cases e : S a with
  | none => simp [biS, lenS, e]
  | some o => cases o <;> simp [biS, lenS, e]
theorem w_len_tup : biS .len [.tup xs] S k = k (.int xs.length) S := rfl
theorem w_len_frl : biS .len [.frl xs] S k = k (.int xs.length) S := rfl
theorem w_abs (i : Int) : biS .abs [.int i] S k = k (.int (if i < 0 then -i else i)) S := rfl
theorem w_max (i j : Int) : biS .max [.int i, .int j] S k = k (.int (if j > i then j else i)) S := rfl
theorem w_min (i j : Int) : biS .min [.int i, .int j] S k = k (.int (if j < i then j else i)) S := rfl
theorem w_int (i : Int) : biS .int [.int i] S k = k (.int i) S := rfl
theorem w_str (i : Int) : biS .str [.int i] S k = (i.natAbs.log2 < 1920 ∧ k (.str (toString i)) S) := rfl
theorem w_tup_tup : biS .tup [.tup xs] S k = k (.tup xs) S := propext ⟨fun ⟨ys, h1, h2⟩ => by rcases h1 with h | h | ⟨a, h, _⟩ <;> cases h; exact h2, fun h => ⟨xs, .inl rfl, h⟩⟩
theorem w_tup_frl : biS .tup [.frl xs] S k = k (.tup xs) S := propext ⟨fun ⟨ys, h1, h2⟩ => by rcases h1 with h | h | ⟨a, h, _⟩ <;> cases h; exact h2, fun h => ⟨xs, .inr (.inl rfl), h⟩⟩
theorem w_tup_loc : biS .tup [.loc a] S k = (match S a with | some (.lst xs) => k (.tup xs) S | _ => False) := by
  cases e : S a with
  | none => simp [biS, tupS, itemsOf, e]
  | some o => cases o <;> simp [biS, tupS, itemsOf, e]
theorem w_lst_tup : biS .lst [.tup xs] S k = ∀ q, S q = none → k (.loc q) (sup S q (.lst xs)) := propext ⟨fun ⟨ys, h1, h2⟩ => by rcases h1 with h | h | ⟨a, h, _⟩ <;> cases h; exact h2, fun h => ⟨xs, .inl rfl, h⟩⟩
theorem w_lst_frl : biS .lst [.frl xs] S k = ∀ q, S q = none → k (.loc q) (sup S q (.lst xs)) := propext ⟨fun ⟨ys, h1, h2⟩ => by rcases h1 with h | h | ⟨a, h, _⟩ <;> cases h; exact h2, fun h => ⟨xs, .inr (.inl rfl), h⟩⟩
theorem w_lst_loc : biS .lst [.loc a] S k = (match S a with | some (.lst xs) => ∀ q, S q = none → k (.loc q) (sup S q (.lst xs)) | _ => False) := by
  cases e : S a with
  | none => simp [biS, lstS, itemsOf, e]
  | some o => cases o <;> simp [biS, lstS, itemsOf, e]
theorem w_add (i j : Int) : binS .add (.int i) (.int j) S k = k (.int (i + j)) S := rfl
theorem w_addT (i j : List PV) : binS .add (.tup i) (.tup j) S k = (i.length + j.length ≤ sizeLine ∧ k (.tup (i ++ j)) S) := rfl
theorem w_addS (i j : Str) : binS .add (.str i) (.str j) S k = (i.length + j.length ≤ sizeLine ∧ k (.str (i ++ j)) S) := rfl
theorem w_addL : binS .add (.loc a) (.loc b) S k = (match S a, S b with | some (.lst i), some (.lst j) => i.length + j.length ≤ sizeLine ∧ ∀ p, S p = none → k (.loc p) (sup S p (.lst (i ++ j))) | _, _ => False) := by
  show addS (.loc a) (.loc b) S k = _
  cases e : S a with
  | none => simp [addS, e]
  | some o =>
    cases e2 : S b with
    | none => cases o <;> simp [addS, e, e2]
    | some o2 => cases o <;> cases o2 <;> simp [addS, e, e2]
theorem w_sub (i j : Int) : binS .sub (.int i) (.int j) S k = k (.int (i - j)) S := rfl
theorem w_mul (i j : Int) : binS .mul (.int i) (.int j) S k = (mulOk i j ∧ k (.int (i * j)) S) := rfl
theorem w_mulT (j : Int) : binS .mul (.tup xs) (.int j) S k = (repOk xs.length j ∧ k (.tup (List.replicate j.toNat xs).flatten) S) := rfl
theorem w_mulL (j : Int) : binS .mul (.loc a) (.int j) S k = (match S a with | some (.lst xs) => (-(2 ^ 63) ≤ j ∧ j < 2 ^ 63 ∧ xs.length * j.toNat ≤ sizeLine) ∧ ∀ p, S p = none → k (.loc p) (sup S p (.lst (List.replicate j.toNat xs).flatten)) | _ => False) := by
  show mulS (.loc a) (.int j) S k = _
  cases e : S a with
  | none => simp [mulS, e]
  | some o => cases o <;> simp [mulS, e, and_assoc]
theorem w_div (i j : Int) : binS .fdiv (.int i) (.int j) S k = ((0 < j ∧ j < 2 ^ 9000) ∧ k (.int (i / j)) S) := rfl
theorem w_mod (i j : Int) : binS .mod (.int i) (.int j) S k = (0 < j ∧ k (.int (i % j)) S) := rfl
theorem w_pow (i j : Int) : binS .pow (.int i) (.int j) S k = (CPow i j ∧ k (.int (i ^ j.toNat)) S) := rfl
theorem w_shl (i j : Int) : binS .shl (.int i) (.int j) S k = (CPow i j ∧ k (.int (i * 2 ^ j.toNat)) S) := rfl
theorem w_shr (i j : Int) : binS .shr (.int i) (.int j) S k = (0 ≤ j ∧ k (.int (i / 2 ^ j.toNat)) S) := rfl
theorem w_aadd (i j : Int) : augS .add (.int i) (.int j) S k = k (.int (i + j)) S := rfl
theorem w_asub (i j : Int) : augS .sub (.int i) (.int j) S k = k (.int (i - j)) S := rfl
theorem w_amul (i j : Int) : augS .mul (.int i) (.int j) S k = (mulOk i j ∧ k (.int (i * j)) S) := rfl
theorem w_lt (i j : Int) : cmpS .lt (.int i) (.int j) S k = k (.bl (decide (i < j))) S := rfl
theorem w_le (i j : Int) : cmpS .le (.int i) (.int j) S k = k (.bl (decide (i ≤ j))) S := rfl
theorem w_gt (i j : Int) : cmpS .gt (.int i) (.int j) S k = k (.bl (decide (j < i))) S := rfl
theorem w_ge (i j : Int) : cmpS .ge (.int i) (.int j) S k = k (.bl (decide (j ≤ i))) S := rfl
theorem eq_scal {p q : PV} (h : scalP p q = true) (hd : eqP p q = eqScal p q) : cmpS .eq p q S k = k (.bl (eqScal p q)) S := propext ⟨fun z => by
  rcases z with ⟨_, z⟩ | ⟨_, _, z⟩
  · exact z
  · rw [hd] at z; exact z, fun z => .inl ⟨h, z⟩⟩
theorem ne_scal {p q : PV} (h : scalP p q = true) (hd : eqP p q = eqScal p q) : cmpS .ne p q S k = k (.bl (!eqScal p q)) S := propext ⟨fun z => by
  rcases z with ⟨_, z⟩ | ⟨_, _, z⟩
  · exact z
  · rw [hd] at z; exact z, fun z => .inl ⟨h, z⟩⟩
theorem w_eq (i j : Int) : cmpS .eq (.int i) (.int j) S k = k (.bl (decide (i = j))) S := eq_scal rfl (by simp only [eqP, pyD, eqScal, PyData.eqv]; by_cases h : i = j <;> simp [h])
theorem w_ne (i j : Int) : cmpS .ne (.int i) (.int j) S k = k (.bl (!decide (i = j))) S := ne_scal rfl (by simp only [eqP, pyD, eqScal, PyData.eqv]; by_cases h : i = j <;> simp [h])
theorem w_eqB (i j : Bool) : cmpS .eq (.bl i) (.bl j) S k = k (.bl (decide (i = j))) S := eq_scal rfl (by cases i <;> cases j <;> rfl)
theorem w_neB (i j : Bool) : cmpS .ne (.bl i) (.bl j) S k = k (.bl (!decide (i = j))) S := ne_scal rfl (by cases i <;> cases j <;> rfl)
theorem w_neg (i : Int) : negS (.int i) S k = k (.int (-i)) S := rfl
theorem w_truB {kb : Bool → Prop} (b : Bool) : truS (.bl b) S kb = kb b := rfl
theorem w_truI {kb : Bool → Prop} (i : Int) : truS (.int i) S kb = kb (i != 0) := rfl
theorem w_truN {kb : Bool → Prop} : truS .non S kb = kb false := rfl
theorem w_truT {kb : Bool → Prop} : truS (.tup xs) S kb = kb (!xs.isEmpty) := rfl
theorem w_truF {kb : Bool → Prop} : truS (.frl xs) S kb = kb (!xs.isEmpty) := rfl
theorem w_truL {kb : Bool → Prop} : truS (.loc a) S kb = (match S a with | some (.lst xs) => kb (!xs.isEmpty) | some (.dic kvs) => kb (!kvs.isEmpty) | none => False) := by
  cases e : S a with
  | none => simp [truS, e]
  | some o => cases o <;> simp [truS, e]
theorem w_chn {A B : Prop} (b : Bool) : chnS (.bl b) S A B = if b = true then A else B := by cases b <;> simp [chnS]
theorem w_ixT (i : Int) : ixS (.tup xs) (.int i) S k = (match atI xs i with | some v => k v S | none => False) := by
  show (∃ v, atI xs i = some v ∧ k v S) = _
  cases atI xs i <;> simp
theorem w_ixF (i : Int) : ixS (.frl xs) (.int i) S k = (match atI xs i with | some v => k v S | none => False) := by
  show (∃ v, atI xs i = some v ∧ k v S) = _
  cases atI xs i <;> simp
theorem w_ixI (i : Int) : ixS (.loc a) (.int i) S k = (match S a with | some (.lst xs) => (match atI xs i with | some v => k v S | none => False) | some (.dic kvs) => (match lookK kvs (.inl i) with | some v => k v S | none => False) | none => False) := by
  cases e : S a with
  | none => simp [ixS, e]
  | some o =>
    cases o with
    | lst ys => cases e2 : atI ys i <;> simp [ixS, e, e2]
    | dic kvs => cases e2 : lookK kvs (.inl i) <;> simp [ixS, e, e2, keyOf]
theorem w_ixS (y : Str) : ixS (.loc a) (.str y) S k = (match S a with | some (.dic kvs) => (match lookK kvs (.inr y) with | some v => k v S | none => False) | _ => False) := by
  cases e : S a with
  | none => simp [ixS, e]
  | some o =>
    cases o with
    | lst ys => simp [ixS, e]
    | dic kvs => cases e2 : lookK kvs (.inr y) <;> simp [ixS, e, e2, keyOf]
theorem w_setS {kS : Store → Prop} (y : Str) : setS (.loc a) (.str y) v S kS = (match S a with | some (.dic kvs) => kvs.length < sizeLine ∧ kS (sup S a (.dic (putKP kvs (.inr y) v))) | _ => False) := by
  cases e : S a with
  | none => simp [setS, e]
  | some o =>
    cases o with
    | lst ys => simp [setS, e]
    | dic kvs => simp [setS, e, keyOf]
theorem w_setI {kS : Store → Prop} (i : Int) : setS (.loc a) (.int i) v S kS = (match S a with
    | some (.lst xs) => (match ixN xs.length i with
      | some j => kS (sup S a (.lst (xs.set j v)))
      | none => False)
    | some (.dic kvs) => kvs.length < sizeLine ∧ kS (sup S a (.dic (putKP kvs (.inl i) v)))
    | none => False) := by
  cases e : S a with
  | none => simp [setS, e]
  | some o =>
    cases o with
    | lst ys => cases e2 : ixN ys.length i <;> simp [setS, e, e2]
    | dic kvs => simp [setS, e, keyOf]
theorem w_app : mtS .app (.loc a) [v] S k = (match S a with | some (.lst xs) => xs.length < sizeLine ∧ k .non (sup S a (.lst (xs ++ [v]))) | _ => False) := by
  show appS (.loc a) [v] S k = _
  cases e : S a with
  | none => simp [appS, e]
  | some o => cases o <;> simp [appS, e]
theorem w_pop : mtS .pop (.loc a) [] S k = (match S a with | some (.lst xs) => (match xs[xs.length - 1]? with | some y => k y (sup S a (.lst xs.dropLast)) | none => False) | _ => False) := by
  show popS (.loc a) [] S k = _
  cases e : S a with
  | none => simp [popS, e]
  | some o =>
    cases o with
    | lst ys => cases e2 : ys[ys.length - 1]? <;> simp [popS, e, e2]
    | dic kvs => simp [popS, e]
theorem w_ext : mtS .ext (.loc a) [.loc b] S k = (match S a, S b with | some (.lst xs), some (.lst ys) => xs.length + ys.length ≤ sizeLine ∧ k .non (sup S a (.lst (xs ++ ys))) | _, _ => False) := by
  show extS (.loc a) [.loc b] S k = _
  cases e : S a with
  | none => simp [extS, e]
  | some o =>
    cases e2 : S b with
    | none => cases o <;> simp [extS, e, e2]
    | some o2 => cases o <;> cases o2 <;> simp [extS, e, e2]
theorem w_mtTy (m : MI) : mtTy m (.loc a) S = (match S a with | some (.lst _) => True | _ => False) := by
  cases e : S a with
  | none => simp [mtTy, e]
  | some o => cases o <;> simp [mtTy, e]
theorem w_isiB (t : TyI) (b : Bool) : isiS t (.bl b) S k = k (.bl (subT .bl t)) S := rfl
theorem w_isiI (t : TyI) (b : Int) : isiS t (.int b) S k = k (.bl (subT .int t)) S := rfl
theorem w_isiN (t : TyI) : isiS t .non S k = k (.bl (subT .non t)) S := rfl
theorem w_isiS (t : TyI) (b : Str) : isiS t (.str b) S k = k (.bl (subT .str t)) S := rfl
theorem w_isiT (t : TyI) : isiS t (.tup xs) S k = k (.bl (subT .tup t)) S := rfl
theorem w_isiF (t : TyI) : isiS t (.frl xs) S k = k (.bl (subT .lst t)) S := rfl
theorem w_isiL (t : TyI) : isiS t (.loc a) S k = (match S a with | some (.lst _) => k (.bl (subT .lst t)) S | some (.dic _) => k (.bl (subT .dic t)) S | none => False) := by
  show (match tyP _ _ with | some a => _ | none => _) = _
  simp only [tyP]
  cases e : S a with
  | none => rfl
  | some o => cases o <;> rfl
theorem w_sub_int_int : subT .int .int = true := rfl
theorem w_sub_bl_int : subT .bl .int = true := rfl
theorem w_sub_bl_bl : subT .bl .bl = true := rfl
theorem w_sub_int_bl : subT .int .bl = false := rfl
theorem w_sub_tup_int : subT .tup .int = false := rfl
theorem w_sub_tup_tup : subT .tup .tup = true := rfl
theorem w_sub_int_tup : subT .int .tup = false := rfl
theorem w_sub_bl_tup : subT .bl .tup = false := rfl
theorem w_sub_lst_lst : subT .lst .lst = true := rfl
theorem w_itT {ki : Ki} : itS (.tup xs) S ki = ki xs (fun _ => True) S := rfl
theorem w_itF {ki : Ki} : itS (.frl xs) S ki = ki xs (fun _ => True) S := rfl
theorem w_itL {ki : Ki} : itS (.loc a) S ki = (match S a with | some (.lst xs) => ki xs (fun S' => S' a = some (.lst xs)) S | _ => False) := by
  cases e : S a with
  | none => simp [itS, e]
  | some o => cases o <;> simp [itS, e]
theorem w_rng1 {kr : List PV → Prop} (j : Int) : rngS [.int j] kr = ((-(2 ^ 62) ≤ j ∧ j < 2 ^ 62) ∧ kr (rngL 0 j.toNat)) := rfl
theorem w_rng2 {kr : List PV → Prop} (i j : Int) : rngS [.int i, .int j] kr = ((-(2 ^ 62) ≤ i ∧ i < 2 ^ 62 ∧ -(2 ^ 62) ≤ j ∧ j < 2 ^ 62) ∧ kr (rngL i (j - i).toNat)) := rfl
theorem w_tgN {kp : PEnv → Prop} (i : Nat) : sTg (.nam i) p env kp = kp (setE env i (some p)) := rfl
theorem w_tg2 {kp : PEnv → Prop} (i j : Nat) (q : PV) : sTg (.tup (.cons (.nam i) (.cons (.nam j) .nil))) (.tup [p, q]) env kp = kp (setE (setE env i (some p)) j (some q)) := rfl
theorem w_tg3 {kp : PEnv → Prop} (i j l : Nat) (q r : PV) : sTg (.tup (.cons (.nam i) (.cons (.nam j) (.cons (.nam l) .nil)))) (.tup [p, q, r]) env kp = kp (setE (setE (setE env i (some p)) j (some q)) l (some r)) := rfl
theorem w_ifS0 {A B : Prop} : ifS [] S A B = A := rfl
theorem w_ifS1 {A B : Prop} : ifS [p] S A B = truS p S fun b => if b = true then A else B := rfl
theorem atI_0 {u : PV} {r : List PV} : atI (u :: r) 0 = some u := atI_nat (j := 0) rfl
theorem atI_1 {u u1 : PV} {r : List PV} : atI (u :: u1 :: r) 1 = some u1 := atI_nat (j := 1) rfl
theorem atI_2 {u u1 u2 : PV} {r : List PV} : atI (u :: u1 :: u2 :: r) 2 = some u2 := atI_nat (j := 2) rfl
theorem atI_3 {u u1 u2 u3 : PV} {r : List PV} : atI (u :: u1 :: u2 :: u3 :: r) 3 = some u3 := atI_nat (j := 3) rfl
theorem atI_4 {u u1 u2 u3 u4 : PV} {r : List PV} : atI (u :: u1 :: u2 :: u3 :: u4 :: r) 4 = some u4 := atI_nat (j := 4) rfl
end

theorem ints_last (ns : List Int) (y : Int) : (List.map PV.int (ns ++ [y]))[(List.map PV.int (ns ++ [y])).length - 1]? = some (.int y) := by simp
theorem ints_init (ns : List Int) (y : Int) : (List.map PV.int (ns ++ [y])).dropLast = List.map PV.int ns := by simp
theorem ints_snoc (ns : List Int) (y : Int) : List.map PV.int ns ++ [PV.int y] = List.map PV.int (ns ++ [y]) := by simp
theorem two_pow_le {a b : Nat} (h : a ≤ b) : (2 : Int) ^ a ≤ 2 ^ b := by
  have := Nat.pow_le_pow_right (n := 2) (by decide) h
  exact_mod_cast this
theorem lt9000 {j : Int} (h : j < 2 ^ 64) : j < 2 ^ 9000 := Int.lt_of_lt_of_le h (two_pow_le (by decide))
theorem mulOk_r {i j : Int} (h1 : -(2 ^ 64) < j) (h2 : j < 2 ^ 64) : mulOk i j := .inl (.inr ⟨h1, h2⟩)
theorem mulOk_l {i j : Int} (h1 : -(2 ^ 64) < i) (h2 : i < 2 ^ 64) : mulOk i j := .inl (.inl ⟨h1, h2⟩)
theorem cpow_ok {i j : Int} (h : 0 ≤ j) (h1 : j ≤ 1000000) (h2 : i.natAbs < 2 ^ 64) : CPow i j := ⟨h, h1, h2⟩

theorem snoc_cases {α : Type} (xs : List α) : xs = [] ∨ ∃ ys y, xs = ys ++ [y] := by
  rcases List.eq_nil_or_concat xs with h | ⟨ys, y, h⟩
  · exact .inl h
  · exact .inr ⟨ys, y, by simpa using h⟩
theorem len3 {α : Type} {a b c : α} : [a, b, c].length < sizeLine := by show 3 < sizeLine; decide
theorem len2 {α : Type} {a b : α} : [a, b].length < sizeLine := by show 2 < sizeLine; decide
theorem len4 {α : Type} {a b c d : α} : [a, b, c, d].length < sizeLine := by show 4 < sizeLine; decide

theorem two_pow_one (n : Nat) : (1 : Int) ≤ 2 ^ n := by
  have := Nat.one_le_two_pow (n := n)
  exact_mod_cast this
theorem pow_cast (n : Nat) : ((2 ^ n : Nat) : Int) = (2 : Int) ^ n := by norm_cast
end PL
namespace K01
open PySem PySem.Spec PyProof.Rows L2 PL

abbrev topS (i : Nat) : Stmt := PySem.Challenge.pw_nevermoved_k01_blocks.main.body.getD i (.Pass ⟨0, 0, 0, 0⟩)
def D_is_whole : Fd := ⟨"is_whole", ["thing"], ["thing"],
  (.cons (.ret (.bop true (.cons (.isi (.nam 0) .int) (.cons (.not (.isi (.nam 0) .bl)) .nil)))) .nil)⟩
def D_is_number : Fd := ⟨"is_number", ["thing"], ["thing"],
  (.cons (.ret (.bop true (.cons (.call 0 (.cons (.nam 0) .nil)) (.cons (.cmp .ge (.nam 0) (.int 0)) .nil)))) .nil)⟩
def D_is_below : Fd := ⟨"is_below", ["thing", "above"], ["thing", "above"],
  (.cons (.ret (.bop true (.cons (.call 1 (.cons (.nam 0) .nil)) (.cons (.cmp .lt (.nam 0) (.nam 1)) .nil)))) .nil)⟩
def D_level_of : Fd := ⟨"level_of", ["size"], ["size", "level"],
  (.cons (.asg (.nam 1) (.int 0)) (.cons (.whl (.cmp .lt (.bin .shl (.int 1) (.nam 1)) (.nam 0)) (.cons (.aug 1 .add (.int 1)) .nil)) (.cons (.ret (.nam 1)) .nil)))⟩
def D_block_span : Fd := ⟨"block_span", ["address", "level"], ["address", "level"],
  (.cons (.ret (.tup (.cons (.nam 0) (.cons (.bin .add (.nam 0) (.bin .shl (.int 1) (.nam 1))) .nil)))) .nil)⟩
def D_is_block : Fd := ⟨"is_block", ["thing"], ["thing"],
  (.cons (.ife (.bop false (.cons (.not (.isi (.nam 0) .tup)) (.cons (.cmp .ne (.bi .len (.cons (.nam 0) .nil)) (.int 2)) .nil))) (.cons (.ret (.bl false)) .nil) .nil) (.cons (.ife (.bop false (.cons (.not (.call 1 (.cons (.idx (.nam 0) (.int 0)) .nil))) (.cons (.not (.call 2 (.cons (.idx (.nam 0) (.int 1)) (.cons (.glo "LEVELS") .nil)))) .nil))) (.cons (.ret (.bl false)) .nil) .nil) (.cons (.ret (.bop true (.cons (.cmp .eq (.bin .mod (.idx (.nam 0) (.int 0)) (.bin .shl (.int 1) (.idx (.nam 0) (.int 1)))) (.int 0)) (.cons (.cmp .le (.bin .add (.idx (.nam 0) (.int 0)) (.bin .shl (.int 1) (.idx (.nam 0) (.int 1)))) (.glo "WORLD")) .nil)))) .nil)))⟩
def D_blocks_meet : Fd := ⟨"blocks_meet", ["one", "other"], ["one", "other"],
  (.cons (.ret (.bop true (.cons (.cmp .lt (.idx (.nam 0) (.int 0)) (.bin .add (.idx (.nam 1) (.int 0)) (.bin .shl (.int 1) (.idx (.nam 1) (.int 1))))) (.cons (.cmp .lt (.idx (.nam 1) (.int 0)) (.bin .add (.idx (.nam 0) (.int 0)) (.bin .shl (.int 1) (.idx (.nam 0) (.int 1))))) .nil)))) .nil)⟩
def D_halves : Fd := ⟨"halves", ["block"], ["block", "address", "level"],
  (.cons (.asg (.tup (.cons (.nam 1) (.cons (.nam 2) .nil))) (.nam 0)) (.cons (.ret (.tup (.cons (.tup (.cons (.nam 1) (.cons (.bin .sub (.nam 2) (.int 1)) .nil))) (.cons (.tup (.cons (.bin .add (.nam 1) (.bin .shl (.int 1) (.bin .sub (.nam 2) (.int 1)))) (.cons (.bin .sub (.nam 2) (.int 1)) .nil))) .nil)))) .nil))⟩
def D_holder_of : Fd := ⟨"holder_of", ["block", "level"], ["block", "level"],
  (.cons (.ret (.tup (.cons (.bin .mul (.bin .fdiv (.idx (.nam 0) (.int 0)) (.bin .shl (.int 1) (.nam 1))) (.bin .shl (.int 1) (.nam 1))) (.cons (.nam 1) .nil)))) .nil)⟩
def D__law_tile : Fd := ⟨"_law_tile", ["script"], ["script", "tile", "at", "clay"],
  (.cons (.asg (.nam 1) (.dic [.inr "kiln", .inr "glaze", .inr "fires"] (.cons (.lst .nil) (.cons (.int 6421) (.cons (.int 0) .nil))))) (.cons (.for_ (.nam 2) (.rng (.cons (.bi .min (.cons (.int 60) (.cons (.bi .len (.cons (.nam 0) .nil)) .nil))) .nil)) (.cons (.asg (.nam 3) (.bi .abs (.cons (.bi .int (.cons (.idx (.nam 0) (.nam 2)) .nil)) .nil))) (.cons (.seti (.nam 1) (.str "glaze") (.bin .mod (.bi .int (.cons (.bin .add (.bin .add (.bin .add (.bin .mul (.idx (.nam 1) (.str "glaze")) (.int 8467)) (.bin .mod (.nam 3) (.int 1000749))) (.bin .mul (.int 37) (.nam 2))) (.int 2)) .nil)) (.int 1000001437))) (.cons (.ife (.cmp .ge (.nam 3) (.bin .pow (.int 10) (.int 18))) (.cons (.exp (.mth .app (.idx (.nam 1) (.str "kiln")) (.cons (.bin .mod (.nam 3) (.bin .shl (.int 1) (.int 640))) .nil))) .nil) .nil) .nil)))) (.cons (.ret (.nam 1)) .nil)))⟩
def D__law_glow : Fd := ⟨"_law_glow", ["tile", "many"], ["tile", "many", "clay"],
  (.cons (.ife (.cmp .gt (.bi .len (.cons (.idx (.nam 0) (.str "kiln")) .nil)) (.int 0)) (.cons (.asg (.nam 2) (.mth .pop (.idx (.nam 0) (.str "kiln")) .nil)) (.cons (.ife (.cmp .ge (.nam 2) (.nam 1)) (.cons (.exp (.mth .app (.idx (.nam 0) (.str "kiln")) (.cons (.bin .fdiv (.nam 2) (.nam 1)) .nil))) .nil) .nil) (.cons (.ret (.bin .mod (.bi .int (.cons (.nam 2) .nil)) (.nam 1))) .nil))) .nil) (.cons (.seti (.nam 0) (.str "fires") (.bin .add (.idx (.nam 0) (.str "fires")) (.int 1))) (.cons (.seti (.nam 0) (.str "glaze") (.bin .mod (.bi .int (.cons (.bin .add (.bin .add (.bin .mul (.idx (.nam 0) (.str "glaze")) (.int 30323)) (.bin .mul (.idx (.nam 0) (.str "fires")) (.int 1409))) (.int 53)) .nil)) (.int 1000001437))) (.cons (.ret (.bin .mod (.bi .int (.cons (.bin .fdiv (.idx (.nam 0) (.str "glaze")) (.int 367)) .nil)) (.nam 1))) .nil))))⟩
def D__law_of : Fd := ⟨"_law_of", ["tile", "things"], ["tile", "things"],
  (.cons (.ret (.idx (.nam 1) (.call 10 (.cons (.nam 0) (.cons (.bi .len (.cons (.nam 1) .nil)) .nil))))) .nil)⟩
def D__law_power : Fd := ⟨"_law_power", ["level"], ["level", "told", "step"],
  (.cons (.asg (.nam 1) (.int 1)) (.cons (.for_ (.nam 2) (.rng (.cons (.nam 0) .nil)) (.cons (.asg (.nam 1) (.bin .mul (.nam 1) (.int 2))) .nil)) (.cons (.ret (.nam 1)) .nil)))⟩
def D__law_block : Fd := ⟨"_law_block", ["tile"], ["tile", "level", "many", "number"],
  (.cons (.asg (.nam 1) (.call 11 (.cons (.nam 0) (.cons (.tup (.cons (.int 0) (.cons (.int 1) (.cons (.int 2) (.cons (.int 3) (.cons (.int 39) (.cons (.int 40) (.cons (.call 10 (.cons (.nam 0) (.cons (.int 41) .nil))) .nil)))))))) .nil)))) (.cons (.asg (.nam 2) (.call 12 (.cons (.bin .sub (.int 40) (.nam 1)) .nil))) (.cons (.asg (.nam 3) (.call 11 (.cons (.nam 0) (.cons (.tup (.cons (.int 0) (.cons (.bin .sub (.nam 2) (.int 1)) (.cons (.call 10 (.cons (.nam 0) (.cons (.nam 2) .nil))) (.cons (.call 10 (.cons (.nam 0) (.cons (.bi .min (.cons (.nam 2) (.cons (.int 50) .nil))) .nil))) .nil))))) .nil)))) (.cons (.ret (.tup (.cons (.bin .mul (.nam 3) (.call 12 (.cons (.nam 1) .nil))) (.cons (.nam 1) .nil)))) .nil))))⟩
def D__law_beside : Fd := ⟨"_law_beside", ["tile", "block"], ["tile", "block", "address", "level", "kind", "lower", "higher"],
  (.cons (.asg (.tup (.cons (.nam 2) (.cons (.nam 3) .nil))) (.nam 1)) (.cons (.asg (.nam 4) (.call 10 (.cons (.nam 0) (.cons (.int 5) .nil)))) (.cons (.ife (.cmp .eq (.nam 4) (.int 0)) (.cons (.asg (.nam 5) (.call 10 (.cons (.nam 0) (.cons (.bin .add (.nam 3) (.int 1)) .nil)))) (.cons (.ret (.tup (.cons (.bin .add (.nam 2) (.bin .mul (.call 10 (.cons (.nam 0) (.cons (.call 12 (.cons (.bin .sub (.nam 3) (.nam 5)) .nil)) .nil))) (.call 12 (.cons (.nam 5) .nil)))) (.cons (.nam 5) .nil)))) .nil)) .nil) (.cons (.ife (.cmp .eq (.nam 4) (.int 1)) (.cons (.asg (.nam 6) (.bin .add (.nam 3) (.call 10 (.cons (.nam 0) (.cons (.bin .sub (.int 41) (.nam 3)) .nil))))) (.cons (.ret (.tup (.cons (.bin .mul (.bin .fdiv (.nam 2) (.call 12 (.cons (.nam 6) .nil))) (.call 12 (.cons (.nam 6) .nil))) (.cons (.nam 6) .nil)))) .nil)) .nil) (.cons (.ife (.bop true (.cons (.cmp .eq (.nam 4) (.int 2)) (.cons (.cmp .le (.bin .add (.nam 2) (.bin .mul (.int 2) (.call 12 (.cons (.nam 3) .nil)))) (.call 12 (.cons (.int 40) .nil))) .nil))) (.cons (.ret (.tup (.cons (.bin .add (.nam 2) (.call 12 (.cons (.nam 3) .nil))) (.cons (.nam 3) .nil)))) .nil) .nil) (.cons (.ife (.bop true (.cons (.cmp .eq (.nam 4) (.int 3)) (.cons (.cmp .gt (.nam 2) (.int 0)) .nil))) (.cons (.asg (.nam 5) (.call 10 (.cons (.nam 0) (.cons (.bin .add (.nam 3) (.int 1)) .nil)))) (.cons (.ret (.tup (.cons (.bin .sub (.nam 2) (.call 12 (.cons (.nam 5) .nil))) (.cons (.nam 5) .nil)))) .nil)) .nil) (.cons (.ret (.call 13 (.cons (.nam 0) .nil))) .nil)))))))⟩
def D__law_integer : Fd := ⟨"_law_integer", ["thing"], ["thing"],
  (.cons (.ret (.bop true (.cons (.isi (.nam 0) .int) (.cons (.not (.isi (.nam 0) .bl)) .nil)))) .nil)⟩
def D__law_is_block : Fd := ⟨"_law_is_block", ["thing"], ["thing", "size"],
  (.cons (.ife (.bop false (.cons (.not (.isi (.nam 0) .tup)) (.cons (.cmp .ne (.bi .len (.cons (.nam 0) .nil)) (.int 2)) (.cons (.not (.call 15 (.cons (.idx (.nam 0) (.int 0)) .nil))) (.cons (.not (.call 15 (.cons (.idx (.nam 0) (.int 1)) .nil))) .nil))))) (.cons (.ret (.bl false)) .nil) .nil) (.cons (.ife (.bop false (.cons (.not (.chn .le .le (.int 0) (.idx (.nam 0) (.int 1)) (.int 40))) (.cons (.cmp .lt (.idx (.nam 0) (.int 0)) (.int 0)) .nil))) (.cons (.ret (.bl false)) .nil) .nil) (.cons (.asg (.nam 1) (.call 12 (.cons (.idx (.nam 0) (.int 1)) .nil))) (.cons (.ret (.bop true (.cons (.cmp .eq (.bin .mod (.bi .int (.cons (.idx (.nam 0) (.int 0)) .nil)) (.nam 1)) (.int 0)) (.cons (.cmp .le (.bin .add (.idx (.nam 0) (.int 0)) (.nam 1)) (.call 12 (.cons (.int 40) .nil))) .nil)))) .nil))))⟩
def D__law_bent : Fd := ⟨"_law_bent", ["tile", "block"], ["tile", "block", "address", "level", "size"],
  (.cons (.asg (.tup (.cons (.nam 2) (.cons (.nam 3) .nil))) (.nam 1)) (.cons (.asg (.nam 4) (.call 12 (.cons (.nam 3) .nil))) (.cons (.ret (.call 11 (.cons (.nam 0) (.cons (.tup (.cons (.tup (.cons (.bin .add (.nam 2) (.int 1)) (.cons (.nam 3) .nil))) (.cons (.tup (.cons (.bin .add (.nam 2) (.nam 4)) (.cons (.nam 3) .nil))) (.cons (.tup (.cons (.nam 2) (.cons (.int 41) .nil))) (.cons (.tup (.cons (.nam 2) (.cons (.neg (.int 1)) .nil))) (.cons (.tup (.cons (.neg (.nam 4)) (.cons (.nam 3) .nil))) (.cons (.tup (.cons (.bin .sub (.nam 2) (.nam 4)) (.cons (.nam 3) .nil))) (.cons (.lst (.cons (.nam 2) (.cons (.nam 3) .nil))) (.cons (.tup (.cons (.nam 2) .nil)) (.cons (.tup (.cons (.nam 2) (.cons (.nam 3) (.cons (.int 0) .nil)))) (.cons (.tup (.cons (.cmp .eq (.nam 2) (.int 1)) (.cons (.nam 3) .nil))) (.cons (.tup (.cons (.nam 2) (.cons (.bl true) .nil))) (.cons (.tup (.cons (.bl false) (.cons (.nam 3) .nil))) (.cons .non (.cons (.tup (.cons (.bi .str (.cons (.nam 3) .nil)) (.cons (.nam 3) .nil))) (.cons (.tup (.cons (.tup (.cons (.nam 2) (.cons (.nam 3) .nil))) (.cons (.nam 3) .nil))) (.cons (.tup (.cons (.call 12 (.cons (.int 40) .nil)) (.cons (.nam 3) .nil))) (.cons (.tup (.cons (.bin .add (.nam 2) (.bin .fdiv (.nam 4) (.int 2))) (.cons (.nam 3) .nil))) (.cons (.tup (.cons (.bin .mul (.int 2) (.nam 2)) (.cons (.nam 3) .nil))) (.cons (.tup (.cons (.nam 2) (.cons (.bin .sub (.nam 3) (.int 1)) .nil))) (.cons (.tup (.cons (.nam 2) (.cons (.bin .add (.nam 3) (.int 1)) .nil))) (.cons (.bin .pow (.int 10) (.int 59)) (.cons (.str "block") (.cons (.tup .nil) (.cons (.tup (.cons (.bin .pow (.int 10) (.int 59)) (.cons (.nam 3) .nil))) (.cons (.tup (.cons (.int 0) (.cons (.bin .pow (.int 10) (.int 59)) .nil))) .nil)))))))))))))))))))))))))) .nil)))) .nil)))⟩
def D__law_same : Fd := ⟨"_law_same", ["told", "due"], ["told", "due", "at"],
  (.cons (.ife (.isi (.nam 1) .tup) (.cons (.ret (.bop true (.cons (.isi (.nam 0) .tup) (.cons (.cmp .eq (.bi .len (.cons (.nam 0) .nil)) (.bi .len (.cons (.nam 1) .nil))) (.cons (.cmp .eq (.bi .len (.cons (.lc (.nam 2) (.nam 2) (.rng (.cons (.bi .len (.cons (.nam 1) .nil)) .nil)) (.cons (.not (.call 18 (.cons (.idx (.nam 0) (.nam 2)) (.cons (.idx (.nam 1) (.nam 2)) .nil)))) .nil) [("at", 2)]) .nil)) (.int 0)) .nil))))) .nil) .nil) (.cons (.ret (.bop true (.cons (.isi (.nam 0) .int) (.cons (.cmp .eq (.isi (.nam 0) .bl) (.isi (.nam 1) .bl)) (.cons (.cmp .eq (.nam 0) (.nam 1)) .nil))))) .nil))⟩
def D__law_span : Fd := ⟨"_law_span", ["block"], ["block"],
  (.cons (.ret (.tup (.cons (.idx (.nam 0) (.int 0)) (.cons (.bin .add (.idx (.nam 0) (.int 0)) (.call 12 (.cons (.idx (.nam 0) (.int 1)) .nil))) .nil)))) .nil)⟩
def D__law_meet : Fd := ⟨"_law_meet", ["one", "other"], ["one", "other"],
  (.cons (.ret (.bop true (.cons (.cmp .lt (.idx (.call 19 (.cons (.nam 0) .nil)) (.int 0)) (.idx (.call 19 (.cons (.nam 1) .nil)) (.int 1))) (.cons (.cmp .lt (.idx (.call 19 (.cons (.nam 1) .nil)) (.int 0)) (.idx (.call 19 (.cons (.nam 0) .nil)) (.int 1))) .nil)))) .nil)⟩
def D__law_sizes : Fd := ⟨"_law_sizes", ["tile"], ["tile", "level", "power", "size", "due"],
  (.cons (.asg (.nam 1) (.call 10 (.cons (.nam 0) (.cons (.int 41) .nil)))) (.cons (.asg (.nam 2) (.call 12 (.cons (.nam 1) .nil))) (.cons (.for_ (.nam 3) (.val (.tup (.cons (.int 1) (.cons (.int 2) (.cons (.nam 2) (.cons (.bi .min (.cons (.bin .add (.nam 2) (.int 1)) (.cons (.call 12 (.cons (.int 40) .nil)) .nil))) (.cons (.bi .max (.cons (.int 1) (.cons (.bin .sub (.nam 2) (.int 1)) .nil))) (.cons (.bin .add (.int 1) (.call 10 (.cons (.nam 0) (.cons (.nam 2) .nil)))) (.cons (.call 12 (.cons (.int 40) .nil)) .nil))))))))) (.cons (.asg (.nam 4) (.int 0)) (.cons (.whl (.cmp .lt (.call 12 (.cons (.nam 4) .nil)) (.nam 3)) (.cons (.asg (.nam 4) (.bin .add (.nam 4) (.int 1))) .nil)) (.cons (.ife (.not (.call 18 (.cons (.tup (.cons (.call 3 (.cons (.nam 3) .nil)) (.cons (.callk 3 .nil ["size"] (.cons (.nam 3) .nil) [0]) .nil))) (.cons (.tup (.cons (.nam 4) (.cons (.nam 4) .nil))) .nil)))) (.cons (.ret (.bl false)) .nil) .nil) .nil)))) (.cons (.ret (.bl true)) .nil))))⟩
def D__law_held : Fd := ⟨"_law_held", ["tile", "block"], ["tile", "block", "address", "level", "half", "told", "higher", "due"],
  (.cons (.asg (.tup (.cons (.nam 2) (.cons (.nam 3) .nil))) (.nam 1)) (.cons (.ife (.not (.call 18 (.cons (.tup (.cons (.call 4 (.cons (.nam 2) (.cons (.nam 3) .nil))) (.cons (.callk 4 .nil ["level", "address"] (.cons (.nam 3) (.cons (.nam 2) .nil)) [1, 0]) .nil))) (.cons (.tup (.cons (.call 19 (.cons (.nam 1) .nil)) (.cons (.call 19 (.cons (.nam 1) .nil)) .nil))) .nil)))) (.cons (.ret (.bl false)) .nil) .nil) (.cons (.ife (.cmp .gt (.nam 3) (.int 0)) (.cons (.asg (.nam 4) (.call 12 (.cons (.bin .sub (.nam 3) (.int 1)) .nil))) (.cons (.asg (.nam 5) (.call 7 (.cons (.nam 1) .nil))) (.cons (.ife (.not (.call 18 (.cons (.tup (.cons (.nam 5) (.cons (.callk 7 .nil ["block"] (.cons (.nam 1) .nil) [0]) .nil))) (.cons (.bin .mul (.tup (.cons (.tup (.cons (.tup (.cons (.nam 2) (.cons (.bin .sub (.nam 3) (.int 1)) .nil))) (.cons (.tup (.cons (.bin .add (.nam 2) (.nam 4)) (.cons (.bin .sub (.nam 3) (.int 1)) .nil))) .nil))) .nil)) (.int 2)) .nil)))) (.cons (.ret (.bl false)) .nil) .nil) (.cons (.ife (.not (.call 18 (.cons (.tup (.cons (.call 8 (.cons (.idx (.nam 5) (.int 0)) (.cons (.nam 3) .nil))) (.cons (.call 8 (.cons (.idx (.nam 5) (.int 1)) (.cons (.nam 3) .nil))) (.cons (.call 6 (.cons (.idx (.nam 5) (.int 0)) (.cons (.idx (.nam 5) (.int 1)) .nil))) .nil)))) (.cons (.tup (.cons (.nam 1) (.cons (.nam 1) (.cons (.bl false) .nil)))) .nil)))) (.cons (.ret (.bl false)) .nil) .nil) .nil)))) .nil) (.cons (.for_ (.nam 6) (.val (.tup (.cons (.nam 3) (.cons (.int 40) (.cons (.bin .add (.nam 3) (.call 10 (.cons (.nam 0) (.cons (.bin .sub (.int 41) (.nam 3)) .nil)))) .nil))))) (.cons (.asg (.nam 7) (.tup (.cons (.bin .mul (.bin .fdiv (.nam 2) (.call 12 (.cons (.nam 6) .nil))) (.call 12 (.cons (.nam 6) .nil))) (.cons (.nam 6) .nil)))) (.cons (.ife (.not (.call 18 (.cons (.tup (.cons (.call 8 (.cons (.nam 1) (.cons (.nam 6) .nil))) (.cons (.callk 8 .nil ["level", "block"] (.cons (.nam 6) (.cons (.nam 1) .nil)) [1, 0]) .nil))) (.cons (.tup (.cons (.nam 7) (.cons (.nam 7) .nil))) .nil)))) (.cons (.ret (.bl false)) .nil) .nil) (.cons (.ife (.not (.call 18 (.cons (.tup (.cons (.call 6 (.cons (.nam 7) (.cons (.nam 1) .nil))) (.cons (.call 8 (.cons (.nam 7) (.cons (.int 40) .nil))) (.cons (.call 5 (.cons (.nam 7) .nil)) .nil)))) (.cons (.tup (.cons (.bl true) (.cons (.tup (.cons (.int 0) (.cons (.int 40) .nil))) (.cons (.bl true) .nil)))) .nil)))) (.cons (.ret (.bl false)) .nil) .nil) .nil)))) (.cons (.ret (.bl true)) .nil)))))⟩
def D_law : Fd := ⟨"law", ["script"], ["script", "tile", "turn", "one", "other", "due", "lap", "thing"],
  (.cons (.asg (.nam 1) (.call 9 (.cons (.nam 0) .nil))) (.cons (.ife (.not (.call 21 (.cons (.nam 1) .nil))) (.cons (.ret (.bl false)) .nil) .nil) (.cons (.for_ (.nam 2) (.rng (.cons (.int 6) .nil)) (.cons (.asg (.nam 3) (.call 13 (.cons (.nam 1) .nil))) (.cons (.asg (.nam 4) (.call 14 (.cons (.nam 1) (.cons (.nam 3) .nil)))) (.cons (.asg (.nam 5) (.call 20 (.cons (.nam 3) (.cons (.nam 4) .nil)))) (.cons (.ife (.not (.call 18 (.cons (.tup (.cons (.call 6 (.cons (.nam 3) (.cons (.nam 4) .nil))) (.cons (.callk 6 .nil ["one", "other"] (.cons (.nam 4) (.cons (.nam 3) .nil)) [0, 1]) (.cons (.call 6 (.cons (.nam 3) (.cons (.nam 3) .nil))) .nil)))) (.cons (.tup (.cons (.nam 5) (.cons (.nam 5) (.cons (.bl true) .nil)))) .nil)))) (.cons (.ret (.bl false)) .nil) .nil) (.cons (.ife (.bop false (.cons (.not (.call 18 (.cons (.tup (.cons (.call 5 (.cons (.nam 3) .nil)) (.cons (.callk 5 .nil ["thing"] (.cons (.nam 4) .nil) [0]) .nil))) (.cons (.tup (.cons (.bl true) (.cons (.bl true) .nil))) .nil)))) (.cons (.not (.call 22 (.cons (.nam 1) (.cons (.nam 3) .nil)))) (.cons (.not (.call 22 (.cons (.nam 1) (.cons (.nam 4) .nil)))) .nil)))) (.cons (.ret (.bl false)) .nil) .nil) (.cons (.for_ (.nam 6) (.rng (.cons (.int 3) .nil)) (.cons (.asg (.nam 7) (.call 17 (.cons (.nam 1) (.cons (.nam 3) .nil)))) (.cons (.ife (.not (.call 18 (.cons (.call 5 (.cons (.nam 7) .nil)) (.cons (.call 16 (.cons (.nam 7) .nil)) .nil)))) (.cons (.ret (.bl false)) .nil) .nil) .nil))) .nil))))))) (.cons (.ret (.bl true)) .nil))))⟩
def Ds : List Fd := [D_is_whole, D_is_number, D_is_below, D_level_of, D_block_span, D_is_block, D_blocks_meet, D_halves, D_holder_of, D__law_tile, D__law_glow, D__law_of, D__law_power, D__law_block, D__law_beside, D__law_integer, D__law_is_block, D__law_bent, D__law_same, D__law_span, D__law_meet, D__law_sizes, D__law_held, D_law]
def conL : List (Str × PV) := [("WORLD", .int 1099511627776), ("LEVELS", .int 41)]
def con (x : Str) : Option PV := conL.lookup x
def F : Inf := ⟨[("is_whole", ["thing"]), ("is_number", ["thing"]), ("is_below", ["thing", "above"]), ("level_of", ["size"]), ("block_span", ["address", "level"]), ("is_block", ["thing"]), ("blocks_meet", ["one", "other"]), ("halves", ["block"]), ("holder_of", ["block", "level"]), ("_law_tile", ["script"]), ("_law_glow", ["tile", "many"]), ("_law_of", ["tile", "things"]), ("_law_power", ["level"]), ("_law_block", ["tile"]), ("_law_beside", ["tile", "block"]), ("_law_integer", ["thing"]), ("_law_is_block", ["thing"]), ("_law_bent", ["tile", "block"]), ("_law_same", ["told", "due"]), ("_law_span", ["block"]), ("_law_meet", ["one", "other"]), ("_law_sizes", ["tile"]), ("_law_held", ["tile", "block"]), ("law", ["script"])], ["isinstance", "bool", "int", "len", "tuple", "range", "min", "abs", "str", "max"],
  [(3, ["size"], [0]), (8, ["level", "block"], [1, 0]), (7, ["block"], [0]), (4, ["level", "address"], [1, 0]), (5, ["thing"], [0]), (6, ["one", "other"], [0, 1])]⟩
def scB (D : Fd) (st : Stmt) : Bool := decide ((defScope st).kind = .function) && !(defScope st).isCoroutine && !(defScope st).isGenerator && decide D.N.Nodup && decide (D.N.take D.ps.length = D.ps) &&
  D.ps.all (fun x => decide ((defScope st).names.lookup x = some .local ∨ (defScope st).names.lookup x = some .cell)) && (defScope st).names.all (fun y => decide (y.2 ≠ .free))
theorem sc_of {D : Fd} {st : Stmt} (h : scB D st = true) : FnScope D.N D.ps (defScope st) := by
  simp only [scB, Bool.and_eq_true, decide_eq_true_eq, List.all_eq_true, Bool.not_eq_true'] at h
  obtain ⟨⟨⟨⟨⟨⟨h1, h2⟩, h3⟩, h4⟩, h5⟩, h6⟩, h7⟩ := h
  exact ⟨h1, h2, h3, h4, h5, h6, h7⟩
def chkD (D : Fd) (st : Stmt) : Bool := scB D st && chkSs F ⟨D.N, defScope st, defScope st⟩ D.body (defBody st)
theorem chkD_of {D : Fd} {st : Stmt} (h : chkD D st = true) : FnScope D.N D.ps (defScope st) ∧ chkSs F ⟨D.N, defScope st, defScope st⟩ D.body (defBody st) = true := by
  simp only [chkD, Bool.and_eq_true] at h
  exact ⟨sc_of h.1, h.2⟩
theorem chk_is_whole : chkD D_is_whole (topS 1) = true := by decide +kernel
theorem chk_is_number : chkD D_is_number (topS 2) = true := by decide +kernel
theorem chk_is_below : chkD D_is_below (topS 3) = true := by decide +kernel
theorem chk_level_of : chkD D_level_of (topS 8) = true := by decide +kernel
theorem chk_block_span : chkD D_block_span (topS 9) = true := by decide +kernel
theorem chk_is_block : chkD D_is_block (topS 10) = true := by decide +kernel
theorem chk_blocks_meet : chkD D_blocks_meet (topS 11) = true := by decide +kernel
theorem chk_halves : chkD D_halves (topS 12) = true := by decide +kernel
theorem chk_holder_of : chkD D_holder_of (topS 13) = true := by decide +kernel
theorem chk__law_tile : chkD D__law_tile (topS 15) = true := by decide +kernel
theorem chk__law_glow : chkD D__law_glow (topS 16) = true := by decide +kernel
theorem chk__law_of : chkD D__law_of (topS 17) = true := by decide +kernel
theorem chk__law_power : chkD D__law_power (topS 18) = true := by decide +kernel
theorem chk__law_block : chkD D__law_block (topS 19) = true := by decide +kernel
theorem chk__law_beside : chkD D__law_beside (topS 20) = true := by decide +kernel
theorem chk__law_integer : chkD D__law_integer (topS 21) = true := by decide +kernel
theorem chk__law_is_block : chkD D__law_is_block (topS 22) = true := by decide +kernel
theorem chk__law_bent : chkD D__law_bent (topS 23) = true := by decide +kernel
theorem chk__law_same : chkD D__law_same (topS 24) = true := by decide +kernel
theorem chk__law_span : chkD D__law_span (topS 25) = true := by decide +kernel
theorem chk__law_meet : chkD D__law_meet (topS 26) = true := by decide +kernel
theorem chk__law_sizes : chkD D__law_sizes (topS 27) = true := by decide +kernel
theorem chk__law_held : chkD D__law_held (topS 28) = true := by decide +kernel
theorem chk_law : chkD D_law (topS 29) = true := by decide +kernel
theorem kw_0 : KwEq D_level_of (topS 8) ["size"] [0] := fun kV dc pm an cd ct us ws h1 h2 =>
  match us, ws, h1, h2 with | [], [w0], _, _ => rfl
theorem kw_1 : KwEq D_holder_of (topS 13) ["level", "block"] [1, 0] := fun kV dc pm an cd ct us ws h1 h2 =>
  match us, ws, h1, h2 with | [], [w0, w1], _, _ => rfl
theorem kw_2 : KwEq D_halves (topS 12) ["block"] [0] := fun kV dc pm an cd ct us ws h1 h2 =>
  match us, ws, h1, h2 with | [], [w0], _, _ => rfl
theorem kw_3 : KwEq D_block_span (topS 9) ["level", "address"] [1, 0] := fun kV dc pm an cd ct us ws h1 h2 =>
  match us, ws, h1, h2 with | [], [w0, w1], _, _ => rfl
theorem kw_4 : KwEq D_is_block (topS 10) ["thing"] [0] := fun kV dc pm an cd ct us ws h1 h2 =>
  match us, ws, h1, h2 with | [], [w0], _, _ => rfl
theorem kw_5 : KwEq D_blocks_meet (topS 11) ["one", "other"] [0, 1] := fun kV dc pm an cd ct us ws h1 h2 =>
  match us, ws, h1, h2 with | [], [w0, w1], _, _ => rfl
theorem kw_mem {i : Nat} {e : Nat × List Str × List Nat} (he : e ∈ F.kws) (hi : e.1 = i) : e ∈ F.kws.filter fun e => e.1 == i := List.mem_filter.mpr ⟨he, beq_iff_eq.mpr hi⟩
theorem ok_is_whole {K : PySem.W.Frag} {mg : Str → Option Value} {h : Heap} (X : K.In h) (G : h.Ns mainGlobals mg) (d : DefIn K "is_whole" (topS 1)) : DefOk F K mg 0 D_is_whole (topS 1) := by
  obtain ⟨sc, chk⟩ := chkD_of chk_is_whole
  refine DefIn.ok X G (D := D_is_whole) d sc chk (fun _ _ _ _ _ _ us hl => match us, hl with | [_], _ => rfl) (fun e he hi => ?_)
  · have h2 := kw_mem he hi
    rw [show (F.kws.filter fun e => e.1 == 0) = [] from by decide +kernel] at h2
    cases h2
theorem ok_is_number {K : PySem.W.Frag} {mg : Str → Option Value} {h : Heap} (X : K.In h) (G : h.Ns mainGlobals mg) (d : DefIn K "is_number" (topS 2)) : DefOk F K mg 1 D_is_number (topS 2) := by
  obtain ⟨sc, chk⟩ := chkD_of chk_is_number
  refine DefIn.ok X G (D := D_is_number) d sc chk (fun _ _ _ _ _ _ us hl => match us, hl with | [_], _ => rfl) (fun e he hi => ?_)
  · have h2 := kw_mem he hi
    rw [show (F.kws.filter fun e => e.1 == 1) = [] from by decide +kernel] at h2
    cases h2
theorem ok_is_below {K : PySem.W.Frag} {mg : Str → Option Value} {h : Heap} (X : K.In h) (G : h.Ns mainGlobals mg) (d : DefIn K "is_below" (topS 3)) : DefOk F K mg 2 D_is_below (topS 3) := by
  obtain ⟨sc, chk⟩ := chkD_of chk_is_below
  refine DefIn.ok X G (D := D_is_below) d sc chk (fun _ _ _ _ _ _ us hl => match us, hl with | [_, _], _ => rfl) (fun e he hi => ?_)
  · have h2 := kw_mem he hi
    rw [show (F.kws.filter fun e => e.1 == 2) = [] from by decide +kernel] at h2
    cases h2
theorem ok_level_of {K : PySem.W.Frag} {mg : Str → Option Value} {h : Heap} (X : K.In h) (G : h.Ns mainGlobals mg) (d : DefIn K "level_of" (topS 8)) : DefOk F K mg 3 D_level_of (topS 8) := by
  obtain ⟨sc, chk⟩ := chkD_of chk_level_of
  refine DefIn.ok X G (D := D_level_of) d sc chk (fun _ _ _ _ _ _ us hl => match us, hl with | [_], _ => rfl) (fun e he hi => ?_)
  · have h2 := kw_mem he hi
    rw [show (F.kws.filter fun e => e.1 == 3) = ([(3, ["size"], [0])] : List (Nat × List Str × List Nat)) from by decide +kernel] at h2
    simp only [List.mem_cons, List.not_mem_nil, or_false] at h2
    rcases h2 with rfl
    · exact kw_0
theorem ok_block_span {K : PySem.W.Frag} {mg : Str → Option Value} {h : Heap} (X : K.In h) (G : h.Ns mainGlobals mg) (d : DefIn K "block_span" (topS 9)) : DefOk F K mg 4 D_block_span (topS 9) := by
  obtain ⟨sc, chk⟩ := chkD_of chk_block_span
  refine DefIn.ok X G (D := D_block_span) d sc chk (fun _ _ _ _ _ _ us hl => match us, hl with | [_, _], _ => rfl) (fun e he hi => ?_)
  · have h2 := kw_mem he hi
    rw [show (F.kws.filter fun e => e.1 == 4) = ([(4, ["level", "address"], [1, 0])] : List (Nat × List Str × List Nat)) from by decide +kernel] at h2
    simp only [List.mem_cons, List.not_mem_nil, or_false] at h2
    rcases h2 with rfl
    · exact kw_3
theorem ok_is_block {K : PySem.W.Frag} {mg : Str → Option Value} {h : Heap} (X : K.In h) (G : h.Ns mainGlobals mg) (d : DefIn K "is_block" (topS 10)) : DefOk F K mg 5 D_is_block (topS 10) := by
  obtain ⟨sc, chk⟩ := chkD_of chk_is_block
  refine DefIn.ok X G (D := D_is_block) d sc chk (fun _ _ _ _ _ _ us hl => match us, hl with | [_], _ => rfl) (fun e he hi => ?_)
  · have h2 := kw_mem he hi
    rw [show (F.kws.filter fun e => e.1 == 5) = ([(5, ["thing"], [0])] : List (Nat × List Str × List Nat)) from by decide +kernel] at h2
    simp only [List.mem_cons, List.not_mem_nil, or_false] at h2
    rcases h2 with rfl
    · exact kw_4
theorem ok_blocks_meet {K : PySem.W.Frag} {mg : Str → Option Value} {h : Heap} (X : K.In h) (G : h.Ns mainGlobals mg) (d : DefIn K "blocks_meet" (topS 11)) : DefOk F K mg 6 D_blocks_meet (topS 11) := by
  obtain ⟨sc, chk⟩ := chkD_of chk_blocks_meet
  refine DefIn.ok X G (D := D_blocks_meet) d sc chk (fun _ _ _ _ _ _ us hl => match us, hl with | [_, _], _ => rfl) (fun e he hi => ?_)
  · have h2 := kw_mem he hi
    rw [show (F.kws.filter fun e => e.1 == 6) = ([(6, ["one", "other"], [0, 1])] : List (Nat × List Str × List Nat)) from by decide +kernel] at h2
    simp only [List.mem_cons, List.not_mem_nil, or_false] at h2
    rcases h2 with rfl
    · exact kw_5
theorem ok_halves {K : PySem.W.Frag} {mg : Str → Option Value} {h : Heap} (X : K.In h) (G : h.Ns mainGlobals mg) (d : DefIn K "halves" (topS 12)) : DefOk F K mg 7 D_halves (topS 12) := by
  obtain ⟨sc, chk⟩ := chkD_of chk_halves
  refine DefIn.ok X G (D := D_halves) d sc chk (fun _ _ _ _ _ _ us hl => match us, hl with | [_], _ => rfl) (fun e he hi => ?_)
  · have h2 := kw_mem he hi
    rw [show (F.kws.filter fun e => e.1 == 7) = ([(7, ["block"], [0])] : List (Nat × List Str × List Nat)) from by decide +kernel] at h2
    simp only [List.mem_cons, List.not_mem_nil, or_false] at h2
    rcases h2 with rfl
    · exact kw_2
theorem ok_holder_of {K : PySem.W.Frag} {mg : Str → Option Value} {h : Heap} (X : K.In h) (G : h.Ns mainGlobals mg) (d : DefIn K "holder_of" (topS 13)) : DefOk F K mg 8 D_holder_of (topS 13) := by
  obtain ⟨sc, chk⟩ := chkD_of chk_holder_of
  refine DefIn.ok X G (D := D_holder_of) d sc chk (fun _ _ _ _ _ _ us hl => match us, hl with | [_, _], _ => rfl) (fun e he hi => ?_)
  · have h2 := kw_mem he hi
    rw [show (F.kws.filter fun e => e.1 == 8) = ([(8, ["level", "block"], [1, 0])] : List (Nat × List Str × List Nat)) from by decide +kernel] at h2
    simp only [List.mem_cons, List.not_mem_nil, or_false] at h2
    rcases h2 with rfl
    · exact kw_1
theorem ok__law_tile {K : PySem.W.Frag} {mg : Str → Option Value} {h : Heap} (X : K.In h) (G : h.Ns mainGlobals mg) (d : DefIn K "_law_tile" (topS 15)) : DefOk F K mg 9 D__law_tile (topS 15) := by
  obtain ⟨sc, chk⟩ := chkD_of chk__law_tile
  refine DefIn.ok X G (D := D__law_tile) d sc chk (fun _ _ _ _ _ _ us hl => match us, hl with | [_], _ => rfl) (fun e he hi => ?_)
  · have h2 := kw_mem he hi
    rw [show (F.kws.filter fun e => e.1 == 9) = [] from by decide +kernel] at h2
    cases h2
theorem ok__law_glow {K : PySem.W.Frag} {mg : Str → Option Value} {h : Heap} (X : K.In h) (G : h.Ns mainGlobals mg) (d : DefIn K "_law_glow" (topS 16)) : DefOk F K mg 10 D__law_glow (topS 16) := by
  obtain ⟨sc, chk⟩ := chkD_of chk__law_glow
  refine DefIn.ok X G (D := D__law_glow) d sc chk (fun _ _ _ _ _ _ us hl => match us, hl with | [_, _], _ => rfl) (fun e he hi => ?_)
  · have h2 := kw_mem he hi
    rw [show (F.kws.filter fun e => e.1 == 10) = [] from by decide +kernel] at h2
    cases h2
theorem ok__law_of {K : PySem.W.Frag} {mg : Str → Option Value} {h : Heap} (X : K.In h) (G : h.Ns mainGlobals mg) (d : DefIn K "_law_of" (topS 17)) : DefOk F K mg 11 D__law_of (topS 17) := by
  obtain ⟨sc, chk⟩ := chkD_of chk__law_of
  refine DefIn.ok X G (D := D__law_of) d sc chk (fun _ _ _ _ _ _ us hl => match us, hl with | [_, _], _ => rfl) (fun e he hi => ?_)
  · have h2 := kw_mem he hi
    rw [show (F.kws.filter fun e => e.1 == 11) = [] from by decide +kernel] at h2
    cases h2
theorem ok__law_power {K : PySem.W.Frag} {mg : Str → Option Value} {h : Heap} (X : K.In h) (G : h.Ns mainGlobals mg) (d : DefIn K "_law_power" (topS 18)) : DefOk F K mg 12 D__law_power (topS 18) := by
  obtain ⟨sc, chk⟩ := chkD_of chk__law_power
  refine DefIn.ok X G (D := D__law_power) d sc chk (fun _ _ _ _ _ _ us hl => match us, hl with | [_], _ => rfl) (fun e he hi => ?_)
  · have h2 := kw_mem he hi
    rw [show (F.kws.filter fun e => e.1 == 12) = [] from by decide +kernel] at h2
    cases h2
theorem ok__law_block {K : PySem.W.Frag} {mg : Str → Option Value} {h : Heap} (X : K.In h) (G : h.Ns mainGlobals mg) (d : DefIn K "_law_block" (topS 19)) : DefOk F K mg 13 D__law_block (topS 19) := by
  obtain ⟨sc, chk⟩ := chkD_of chk__law_block
  refine DefIn.ok X G (D := D__law_block) d sc chk (fun _ _ _ _ _ _ us hl => match us, hl with | [_], _ => rfl) (fun e he hi => ?_)
  · have h2 := kw_mem he hi
    rw [show (F.kws.filter fun e => e.1 == 13) = [] from by decide +kernel] at h2
    cases h2
theorem ok__law_beside {K : PySem.W.Frag} {mg : Str → Option Value} {h : Heap} (X : K.In h) (G : h.Ns mainGlobals mg) (d : DefIn K "_law_beside" (topS 20)) : DefOk F K mg 14 D__law_beside (topS 20) := by
  obtain ⟨sc, chk⟩ := chkD_of chk__law_beside
  refine DefIn.ok X G (D := D__law_beside) d sc chk (fun _ _ _ _ _ _ us hl => match us, hl with | [_, _], _ => rfl) (fun e he hi => ?_)
  · have h2 := kw_mem he hi
    rw [show (F.kws.filter fun e => e.1 == 14) = [] from by decide +kernel] at h2
    cases h2
theorem ok__law_integer {K : PySem.W.Frag} {mg : Str → Option Value} {h : Heap} (X : K.In h) (G : h.Ns mainGlobals mg) (d : DefIn K "_law_integer" (topS 21)) : DefOk F K mg 15 D__law_integer (topS 21) := by
  obtain ⟨sc, chk⟩ := chkD_of chk__law_integer
  refine DefIn.ok X G (D := D__law_integer) d sc chk (fun _ _ _ _ _ _ us hl => match us, hl with | [_], _ => rfl) (fun e he hi => ?_)
  · have h2 := kw_mem he hi
    rw [show (F.kws.filter fun e => e.1 == 15) = [] from by decide +kernel] at h2
    cases h2
theorem ok__law_is_block {K : PySem.W.Frag} {mg : Str → Option Value} {h : Heap} (X : K.In h) (G : h.Ns mainGlobals mg) (d : DefIn K "_law_is_block" (topS 22)) : DefOk F K mg 16 D__law_is_block (topS 22) := by
  obtain ⟨sc, chk⟩ := chkD_of chk__law_is_block
  refine DefIn.ok X G (D := D__law_is_block) d sc chk (fun _ _ _ _ _ _ us hl => match us, hl with | [_], _ => rfl) (fun e he hi => ?_)
  · have h2 := kw_mem he hi
    rw [show (F.kws.filter fun e => e.1 == 16) = [] from by decide +kernel] at h2
    cases h2
theorem ok__law_bent {K : PySem.W.Frag} {mg : Str → Option Value} {h : Heap} (X : K.In h) (G : h.Ns mainGlobals mg) (d : DefIn K "_law_bent" (topS 23)) : DefOk F K mg 17 D__law_bent (topS 23) := by
  obtain ⟨sc, chk⟩ := chkD_of chk__law_bent
  refine DefIn.ok X G (D := D__law_bent) d sc chk (fun _ _ _ _ _ _ us hl => match us, hl with | [_, _], _ => rfl) (fun e he hi => ?_)
  · have h2 := kw_mem he hi
    rw [show (F.kws.filter fun e => e.1 == 17) = [] from by decide +kernel] at h2
    cases h2
theorem ok__law_same {K : PySem.W.Frag} {mg : Str → Option Value} {h : Heap} (X : K.In h) (G : h.Ns mainGlobals mg) (d : DefIn K "_law_same" (topS 24)) : DefOk F K mg 18 D__law_same (topS 24) := by
  obtain ⟨sc, chk⟩ := chkD_of chk__law_same
  refine DefIn.ok X G (D := D__law_same) d sc chk (fun _ _ _ _ _ _ us hl => match us, hl with | [_, _], _ => rfl) (fun e he hi => ?_)
  · have h2 := kw_mem he hi
    rw [show (F.kws.filter fun e => e.1 == 18) = [] from by decide +kernel] at h2
    cases h2
theorem ok__law_span {K : PySem.W.Frag} {mg : Str → Option Value} {h : Heap} (X : K.In h) (G : h.Ns mainGlobals mg) (d : DefIn K "_law_span" (topS 25)) : DefOk F K mg 19 D__law_span (topS 25) := by
  obtain ⟨sc, chk⟩ := chkD_of chk__law_span
  refine DefIn.ok X G (D := D__law_span) d sc chk (fun _ _ _ _ _ _ us hl => match us, hl with | [_], _ => rfl) (fun e he hi => ?_)
  · have h2 := kw_mem he hi
    rw [show (F.kws.filter fun e => e.1 == 19) = [] from by decide +kernel] at h2
    cases h2
theorem ok__law_meet {K : PySem.W.Frag} {mg : Str → Option Value} {h : Heap} (X : K.In h) (G : h.Ns mainGlobals mg) (d : DefIn K "_law_meet" (topS 26)) : DefOk F K mg 20 D__law_meet (topS 26) := by
  obtain ⟨sc, chk⟩ := chkD_of chk__law_meet
  refine DefIn.ok X G (D := D__law_meet) d sc chk (fun _ _ _ _ _ _ us hl => match us, hl with | [_, _], _ => rfl) (fun e he hi => ?_)
  · have h2 := kw_mem he hi
    rw [show (F.kws.filter fun e => e.1 == 20) = [] from by decide +kernel] at h2
    cases h2
theorem ok__law_sizes {K : PySem.W.Frag} {mg : Str → Option Value} {h : Heap} (X : K.In h) (G : h.Ns mainGlobals mg) (d : DefIn K "_law_sizes" (topS 27)) : DefOk F K mg 21 D__law_sizes (topS 27) := by
  obtain ⟨sc, chk⟩ := chkD_of chk__law_sizes
  refine DefIn.ok X G (D := D__law_sizes) d sc chk (fun _ _ _ _ _ _ us hl => match us, hl with | [_], _ => rfl) (fun e he hi => ?_)
  · have h2 := kw_mem he hi
    rw [show (F.kws.filter fun e => e.1 == 21) = [] from by decide +kernel] at h2
    cases h2
theorem ok__law_held {K : PySem.W.Frag} {mg : Str → Option Value} {h : Heap} (X : K.In h) (G : h.Ns mainGlobals mg) (d : DefIn K "_law_held" (topS 28)) : DefOk F K mg 22 D__law_held (topS 28) := by
  obtain ⟨sc, chk⟩ := chkD_of chk__law_held
  refine DefIn.ok X G (D := D__law_held) d sc chk (fun _ _ _ _ _ _ us hl => match us, hl with | [_, _], _ => rfl) (fun e he hi => ?_)
  · have h2 := kw_mem he hi
    rw [show (F.kws.filter fun e => e.1 == 22) = [] from by decide +kernel] at h2
    cases h2
theorem ok_law {K : PySem.W.Frag} {mg : Str → Option Value} {h : Heap} (X : K.In h) (G : h.Ns mainGlobals mg) (d : DefIn K "law" (topS 29)) : DefOk F K mg 23 D_law (topS 29) := by
  obtain ⟨sc, chk⟩ := chkD_of chk_law
  refine DefIn.ok X G (D := D_law) d sc chk (fun _ _ _ _ _ _ us hl => match us, hl with | [_], _ => rfl) (fun e he hi => ?_)
  · have h2 := kw_mem he hi
    rw [show (F.kws.filter fun e => e.1 == 23) = [] from by decide +kernel] at h2
    cases h2
theorem all_mk {w : World} {K : PySem.W.Frag} {mg : Str → Option Value} {h : Heap} {fa : Addr} (X : K.In h) (G : h.Ns mainGlobals mg) (hfa : mg "law" = some (.ref fa)) (depth : Nat)
  (d_is_whole : DefIn K "is_whole" (topS 1))
  (d_is_number : DefIn K "is_number" (topS 2))
  (d_is_below : DefIn K "is_below" (topS 3))
  (d_level_of : DefIn K "level_of" (topS 8))
  (d_block_span : DefIn K "block_span" (topS 9))
  (d_is_block : DefIn K "is_block" (topS 10))
  (d_blocks_meet : DefIn K "blocks_meet" (topS 11))
  (d_halves : DefIn K "halves" (topS 12))
  (d_holder_of : DefIn K "holder_of" (topS 13))
  (d__law_tile : DefIn K "_law_tile" (topS 15))
  (d__law_glow : DefIn K "_law_glow" (topS 16))
  (d__law_of : DefIn K "_law_of" (topS 17))
  (d__law_power : DefIn K "_law_power" (topS 18))
  (d__law_block : DefIn K "_law_block" (topS 19))
  (d__law_beside : DefIn K "_law_beside" (topS 20))
  (d__law_integer : DefIn K "_law_integer" (topS 21))
  (d__law_is_block : DefIn K "_law_is_block" (topS 22))
  (d__law_bent : DefIn K "_law_bent" (topS 23))
  (d__law_same : DefIn K "_law_same" (topS 24))
  (d__law_span : DefIn K "_law_span" (topS 25))
  (d__law_meet : DefIn K "_law_meet" (topS 26))
  (d__law_sizes : DefIn K "_law_sizes" (topS 27))
  (d__law_held : DefIn K "_law_held" (topS 28))
  (d_law : DefIn K "law" (topS 29))
  (z_isinstance : PySem.W.nsIn K mainGlobals "isinstance" = some none) (z_bool : PySem.W.nsIn K mainGlobals "bool" = some none) (z_int : PySem.W.nsIn K mainGlobals "int" = some none) (z_len : PySem.W.nsIn K mainGlobals "len" = some none) (z_tuple : PySem.W.nsIn K mainGlobals "tuple" = some none) (z_range : PySem.W.nsIn K mainGlobals "range" = some none) (z_min : PySem.W.nsIn K mainGlobals "min" = some none) (z_abs : PySem.W.nsIn K mainGlobals "abs" = some none) (z_str : PySem.W.nsIn K mainGlobals "str" = some none) (z_max : PySem.W.nsIn K mainGlobals "max" = some none)
  (c_WORLD : IntIn K "WORLD" 1099511627776) (c_LEVELS : IntIn K "LEVELS" 41) :
  ∃ fd : FuncData, (∀ (s : Shared) (v : Value), BindsTo s fd ⟨[v], []⟩ [("script", v)]) ∧ ∀ base : Heap, K.In base → base.Ns mainGlobals mg → FnOk PySem.Challenge.pw_nevermoved_k01_blocks w K mg base (L2.CX PySem.Challenge.pw_nevermoved_k01_blocks w) (depth + 1) fa fd ["script"] (lawSp K (fnS (Tb Ds con depth) D_law) 1) := by
  have hb : ∀ x ∈ F.bis, mg x = none := by
    intro x hx
    simp only [F, List.mem_cons, List.not_mem_nil, or_false] at hx
    rcases hx with rfl | rfl | rfl | rfl | rfl | rfl | rfl | rfl | rfl | rfl
    · exact PySem.W.mg_none_of X G z_isinstance
    · exact PySem.W.mg_none_of X G z_bool
    · exact PySem.W.mg_none_of X G z_int
    · exact PySem.W.mg_none_of X G z_len
    · exact PySem.W.mg_none_of X G z_tuple
    · exact PySem.W.mg_none_of X G z_range
    · exact PySem.W.mg_none_of X G z_min
    · exact PySem.W.mg_none_of X G z_abs
    · exact PySem.W.mg_none_of X G z_str
    · exact PySem.W.mg_none_of X G z_max
  have hc : ∀ x p, con x = some p → ∃ u v, mg x = some u ∧ RelV v u ∧ ∀ H, RepV K H p v := con_mk fun e he => by
    simp only [conL, List.mem_cons, List.not_mem_nil, or_false] at he
    rcases he with rfl | rfl
    · exact IntIn.con X G c_WORLD
    · exact IntIn.con X G c_LEVELS
  have hd : ∀ i D, Ds[i]? = some D → ∃ st, DefOk F K mg i D st := by
    intro i D e
    match i, e with
    | 0, e => cases e; exact ⟨_, ok_is_whole X G d_is_whole⟩
    | 1, e => cases e; exact ⟨_, ok_is_number X G d_is_number⟩
    | 2, e => cases e; exact ⟨_, ok_is_below X G d_is_below⟩
    | 3, e => cases e; exact ⟨_, ok_level_of X G d_level_of⟩
    | 4, e => cases e; exact ⟨_, ok_block_span X G d_block_span⟩
    | 5, e => cases e; exact ⟨_, ok_is_block X G d_is_block⟩
    | 6, e => cases e; exact ⟨_, ok_blocks_meet X G d_blocks_meet⟩
    | 7, e => cases e; exact ⟨_, ok_halves X G d_halves⟩
    | 8, e => cases e; exact ⟨_, ok_holder_of X G d_holder_of⟩
    | 9, e => cases e; exact ⟨_, ok__law_tile X G d__law_tile⟩
    | 10, e => cases e; exact ⟨_, ok__law_glow X G d__law_glow⟩
    | 11, e => cases e; exact ⟨_, ok__law_of X G d__law_of⟩
    | 12, e => cases e; exact ⟨_, ok__law_power X G d__law_power⟩
    | 13, e => cases e; exact ⟨_, ok__law_block X G d__law_block⟩
    | 14, e => cases e; exact ⟨_, ok__law_beside X G d__law_beside⟩
    | 15, e => cases e; exact ⟨_, ok__law_integer X G d__law_integer⟩
    | 16, e => cases e; exact ⟨_, ok__law_is_block X G d__law_is_block⟩
    | 17, e => cases e; exact ⟨_, ok__law_bent X G d__law_bent⟩
    | 18, e => cases e; exact ⟨_, ok__law_same X G d__law_same⟩
    | 19, e => cases e; exact ⟨_, ok__law_span X G d__law_span⟩
    | 20, e => cases e; exact ⟨_, ok__law_meet X G d__law_meet⟩
    | 21, e => cases e; exact ⟨_, ok__law_sizes X G d__law_sizes⟩
    | 22, e => cases e; exact ⟨_, ok__law_held X G d__law_held⟩
    | 23, e => cases e; exact ⟨_, ok_law X G d_law⟩
    | n + 24, e => exact absurd e (by simp [Ds])
  obtain ⟨f, fd, g1, g2, g3, g4⟩ := (ok_law X G d_law).ex
  have e := hfa.symm.trans g1
  cases e
  refine ⟨fd, fun s v => ?_, fun base _ _ => ?_⟩
  · obtain ⟨oc, od, kV, doc, pm, an, cdv, ct, osl, rfl, lk, hcd⟩ := g2.ex
    exact .of_eq rfl
  · exact FnOk.imp (fun_snd (gl_all (F := F) (Ds := Ds) (con := con) rfl hb hc hd depth) D_law g2 (ok_law X G d_law).sc (ok_law X G d_law).chk) fun vs H Q E h => h mg

end K01
namespace K01
open PySem PySem.Spec PyProof.Rows L2 PL
abbrev dicT (b : Addr) (g f : Int) : MO := .dic [(.inr "kiln", .loc b), (.inr "glaze", .int g), (.inr "fires", .int f)]
section
variable {b : Addr} {g f g' : Int}
theorem k_kiln : lookK [(.inr "kiln", .loc b), (.inr "glaze", .int g), (.inr "fires", .int f)] (.inr "kiln") = some (.loc b) := rfl
theorem k_glaze : lookK [(.inr "kiln", .loc b), (.inr "glaze", .int g), (.inr "fires", .int f)] (.inr "glaze") = some (.int g) := rfl
theorem k_fires : lookK [(.inr "kiln", .loc b), (.inr "glaze", .int g), (.inr "fires", .int f)] (.inr "fires") = some (.int f) := rfl
theorem p_glaze : putKP [(.inr "kiln", .loc b), (.inr "glaze", .int g), (.inr "fires", .int f)] (.inr "glaze") (.int g') = [(.inr "kiln", .loc b), (.inr "glaze", .int g'), (.inr "fires", .int f)] := rfl
theorem p_fires : putKP [(.inr "kiln", .loc b), (.inr "glaze", .int g), (.inr "fires", .int f)] (.inr "fires") (.int g') = [(.inr "kiln", .loc b), (.inr "glaze", .int g), (.inr "fires", .int g')] := rfl
end
structure TileAt (S : Store) (a b : Addr) : Prop where
  ne : a ≠ b
  d : ∃ g f, S a = some (dicT b g f)
  l : ∃ ns : List Int, S b = some (.lst (ns.map .int)) ∧ (∀ n ∈ ns, 0 ≤ n) ∧ ns.length ≤ 60
theorem s_glow (d : Nat) {S : Store} {a b : Addr} {m : Int} {k : Kt} {x : Xt} (t : TileAt S a b) (h0 : 0 < m) (h1 : m < 2 ^ 9000) (hk : ∀ n S', TileAt S' a b → (∀ c, c ≠ a → c ≠ b → S' c = S c) → 0 ≤ n → n < m → k (.int n) S') :
    (Tb Ds con (d + 1)).fn 10 [.loc a, .int m] S k x := by
  obtain ⟨ne, ⟨g, f, hd⟩, ns, hl, hn, hz⟩ := t
  show fnS (Tb Ds con d) D__law_glow _ _ _ _
  refine ⟨rfl, ?_⟩
  show sSs _ _ [some (.loc a), some (.int m), none] _ _
  simp only [D__law_glow, w_asg, w_par, w_seti, w_aug, w_exp, w_ret, w_retn, w_ife, w_pas, w_brk, w_cnt, w_nil, w_cons, w_len_loc, w_len_tup, w_len_frl, w_abs, w_max, w_min, w_int, w_str, w_tup_tup, w_tup_frl, w_tup_loc, w_lst_tup, w_lst_frl, w_lst_loc, w_add, w_addT, w_addS, w_addL, w_sub, w_mul, w_mulT, w_mulL, w_div, w_mod, w_pow, w_shl, w_shr, w_aadd, w_asub, w_amul, w_lt, w_le, w_gt, w_ge, w_eq, w_ne, w_eqB, w_neB, w_neg, w_truB, w_truI, w_truN, w_truT, w_truF, w_truL, w_chn, w_ixT, w_ixF, w_ixI, w_ixS, w_setS, w_setI, w_app, w_pop, w_ext, w_mtTy, w_isiB, w_isiI, w_isiN, w_isiS, w_isiT, w_isiF, w_isiL, w_sub_int_int, w_sub_bl_int, w_sub_bl_bl, w_sub_int_bl, w_sub_tup_int, w_sub_tup_tup, w_sub_int_tup, w_sub_bl_tup, w_sub_lst_lst, w_itT, w_itF, w_itL, w_rng1, w_rng2, w_tgN, w_tg2, w_tg3, w_ifS0, w_ifS1, atI_0, atI_1, atI_2, atI_3, atI_4, sE, sEs, sB, sI, getE, setE, hd, hl, k_kiln, k_glaze, k_fires, p_glaze, p_fires, sup_same, decide_eq_true_eq]
  split
  · rename_i hp
    refine ⟨trivial, ?_⟩
    rcases snoc_cases ns with rfl | ⟨ns', y, rfl⟩
    · exact absurd hp (by decide)
    · have hy : 0 ≤ y := hn y (by simp)
      have hn' : ∀ n ∈ ns', 0 ≤ n := fun n h => hn n (by simp [h])
      have hz' : ns'.length < 60 := by simp at hz; omega
      simp only [ints_last, ints_init, w_asg, w_par, w_seti, w_aug, w_exp, w_ret, w_retn, w_ife, w_pas, w_brk, w_cnt, w_nil, w_cons, w_len_loc, w_len_tup, w_len_frl, w_abs, w_max, w_min, w_int, w_str, w_tup_tup, w_tup_frl, w_tup_loc, w_lst_tup, w_lst_frl, w_lst_loc, w_add, w_addT, w_addS, w_addL, w_sub, w_mul, w_mulT, w_mulL, w_div, w_mod, w_pow, w_shl, w_shr, w_aadd, w_asub, w_amul, w_lt, w_le, w_gt, w_ge, w_eq, w_ne, w_eqB, w_neB, w_neg, w_truB, w_truI, w_truN, w_truT, w_truF, w_truL, w_chn, w_ixT, w_ixF, w_ixI, w_ixS, w_setS, w_setI, w_app, w_pop, w_ext, w_mtTy, w_isiB, w_isiI, w_isiN, w_isiS, w_isiT, w_isiF, w_isiL, w_sub_int_int, w_sub_bl_int, w_sub_bl_bl, w_sub_int_bl, w_sub_tup_int, w_sub_tup_tup, w_sub_int_tup, w_sub_bl_tup, w_sub_lst_lst, w_itT, w_itF, w_itL, w_rng1, w_rng2, w_tgN, w_tg2, w_tg3, w_ifS0, w_ifS1, atI_0, atI_1, atI_2, atI_3, atI_4, sE, sEs, sB, sI, getE, setE, sup_same, sup_ne ne, hd, k_kiln, decide_eq_true_eq]
      have hm : (0 : Int) ≤ y % m ∧ y % m < m := ⟨Int.emod_nonneg _ (by omega), Int.emod_lt_of_pos _ h0⟩
      split
      · refine ⟨trivial, ⟨h0, h1⟩, by rw [List.length_map]; exact Nat.lt_trans hz' (by decide), h0, _, sub_refl _, hk _ _ ⟨ne, ⟨g, f, by rw [sup_ne ne, sup_ne ne, hd]⟩, ns' ++ [y / m], by rw [sup_same, PL.ints_snoc], ?_, by simp; omega⟩ (fun c h1 h2 => by rw [sup_ne h2, sup_ne h2]) hm.1 hm.2⟩
        intro n h
        rcases List.mem_append.mp h with h | h
        · exact hn' n h
        · rw [List.mem_singleton.mp h]; exact Int.ediv_nonneg hy (by omega)
      · exact ⟨h0, _, sub_refl _, hk _ _ ⟨ne, ⟨g, f, by rw [sup_ne ne, hd]⟩, ns', sup_same, hn', by omega⟩ (fun c h1 h2 => by rw [sup_ne h2]) hm.1 hm.2⟩
  · exact ⟨len3, mulOk_r (by decide) (by decide), mulOk_r (by decide) (by decide), by decide, len3, ⟨by decide, lt9000 (by decide)⟩, h0, _, sub_refl _,
      hk _ _ ⟨ne, ⟨_, _, sup_same⟩, ns, by rw [sup_ne ne.symm, sup_ne ne.symm, hl], hn, hz⟩ (fun c h1 h2 => by rw [sup_ne h1, sup_ne h1]) (Int.emod_nonneg _ (by omega)) (Int.emod_lt_of_pos _ h0)⟩
end K01
namespace K01
open PySem PySem.Spec PyProof.Rows L2 PL
theorem s_power (d : Nat) {S : Store} {n : Nat} {k : Kt} {x : Xt} (hn : n < 1000) (hk : k (.int (2 ^ n)) S) : (Tb Ds con (d + 1)).fn 12 [.int n] S k x := by
  show fnS (Tb Ds con d) D__law_power _ _ _ _
  refine ⟨rfl, ?_⟩
  show sSs _ _ [some (.int n), none, none] _ _
  simp only [D__law_power, w_for, w_asg, w_par, w_seti, w_aug, w_exp, w_ret, w_retn, w_ife, w_pas, w_brk, w_cnt, w_nil, w_cons, w_len_loc, w_len_tup, w_len_frl, w_abs, w_max, w_min, w_int, w_str, w_tup_tup, w_tup_frl, w_tup_loc, w_lst_tup, w_lst_frl, w_lst_loc, w_add, w_addT, w_addS, w_addL, w_sub, w_mul, w_mulT, w_mulL, w_div, w_mod, w_pow, w_shl, w_shr, w_aadd, w_asub, w_amul, w_lt, w_le, w_gt, w_ge, w_eq, w_ne, w_eqB, w_neB, w_neg, w_truB, w_truI, w_truN, w_truT, w_truF, w_truL, w_chn, w_ixT, w_ixF, w_ixI, w_ixS, w_setS, w_setI, w_app, w_pop, w_ext, w_mtTy, w_isiB, w_isiI, w_isiN, w_isiS, w_isiT, w_isiF, w_isiL, w_sub_int_int, w_sub_bl_int, w_sub_bl_bl, w_sub_int_bl, w_sub_tup_int, w_sub_tup_tup, w_sub_int_tup, w_sub_bl_tup, w_sub_lst_lst, w_itT, w_itF, w_itL, w_rng1, w_rng2, w_tgN, w_tg2, w_tg3, w_ifS0, w_ifS1, atI_0, atI_1, atI_2, atI_3, atI_4, sE, sEs, sB, sI, getE, setE]
  refine ⟨⟨by omega, by omega⟩, ?_⟩
  refine runFor_inv0 (fun i env S' => S' = S ∧ ∃ o, env = [some (.int n), some (.int (2 ^ i)), o]) ⟨rfl, none, rfl⟩ ?_ ?_
  · rintro i p env S' hp ⟨rfl, o, rfl⟩
    obtain ⟨hi, rfl⟩ := rngL_get hp
    refine ⟨trivial, fun nxt hn => ?_⟩
    try simp only [w_asg, w_par, w_seti, w_aug, w_exp, w_ret, w_retn, w_ife, w_pas, w_brk, w_cnt, w_nil, w_cons, w_len_loc, w_len_tup, w_len_frl, w_abs, w_max, w_min, w_int, w_str, w_tup_tup, w_tup_frl, w_tup_loc, w_lst_tup, w_lst_frl, w_lst_loc, w_add, w_addT, w_addS, w_addL, w_sub, w_mul, w_mulT, w_mulL, w_div, w_mod, w_pow, w_shl, w_shr, w_aadd, w_asub, w_amul, w_lt, w_le, w_gt, w_ge, w_eq, w_ne, w_eqB, w_neB, w_neg, w_truB, w_truI, w_truN, w_truT, w_truF, w_truL, w_chn, w_ixT, w_ixF, w_ixI, w_ixS, w_setS, w_setI, w_app, w_pop, w_ext, w_mtTy, w_isiB, w_isiI, w_isiN, w_isiS, w_isiT, w_isiF, w_isiL, w_sub_int_int, w_sub_bl_int, w_sub_bl_bl, w_sub_int_bl, w_sub_tup_int, w_sub_tup_tup, w_sub_int_tup, w_sub_bl_tup, w_sub_lst_lst, w_itT, w_itF, w_itL, w_rng1, w_rng2, w_tgN, w_tg2, w_tg3, w_ifS0, w_ifS1, atI_0, atI_1, atI_2, atI_3, atI_4, sE, sEs, sB, sI, getE, setE]
    exact ⟨mulOk_r (by decide) (by decide), hn _ _ ⟨rfl, _, by rw [Int.pow_succ]⟩⟩
  · rintro env S' ⟨rfl, o, rfl⟩
    refine ⟨trivial, ?_⟩
    simp only [w_asg, w_par, w_seti, w_aug, w_exp, w_ret, w_retn, w_ife, w_pas, w_brk, w_cnt, w_nil, w_cons, w_len_loc, w_len_tup, w_len_frl, w_abs, w_max, w_min, w_int, w_str, w_tup_tup, w_tup_frl, w_tup_loc, w_lst_tup, w_lst_frl, w_lst_loc, w_add, w_addT, w_addS, w_addL, w_sub, w_mul, w_mulT, w_mulL, w_div, w_mod, w_pow, w_shl, w_shr, w_aadd, w_asub, w_amul, w_lt, w_le, w_gt, w_ge, w_eq, w_ne, w_eqB, w_neB, w_neg, w_truB, w_truI, w_truN, w_truT, w_truF, w_truL, w_chn, w_ixT, w_ixF, w_ixI, w_ixS, w_setS, w_setI, w_app, w_pop, w_ext, w_mtTy, w_isiB, w_isiI, w_isiN, w_isiS, w_isiT, w_isiF, w_isiL, w_sub_int_int, w_sub_bl_int, w_sub_bl_bl, w_sub_int_bl, w_sub_tup_int, w_sub_tup_tup, w_sub_int_tup, w_sub_bl_tup, w_sub_lst_lst, w_itT, w_itF, w_itL, w_rng1, w_rng2, w_tgN, w_tg2, w_tg3, w_ifS0, w_ifS1, atI_0, atI_1, atI_2, atI_3, atI_4, sE, sEs, sB, sI, getE, setE, rngL_len, Int.toNat_natCast]
    exact ⟨_, sub_refl _, hk⟩
theorem s_of (d : Nat) {S : Store} {a b : Addr} {xs : List PV} {k : Kt} {x : Xt} (t : TileAt S a b) (h0 : 0 < xs.length) (h1 : xs.length < 1000) (hk : ∀ p S', p ∈ xs → TileAt S' a b → (∀ c, c ≠ a → c ≠ b → S' c = S c) → k p S') :
    (Tb Ds con (d + 2)).fn 11 [.loc a, .tup xs] S k x := by
  show fnS (Tb Ds con (d + 1)) D__law_of _ _ _ _
  refine ⟨rfl, ?_⟩
  show sSs _ _ [some (.loc a), some (.tup xs)] _ _
  simp only [D__law_of, w_asg, w_par, w_seti, w_aug, w_exp, w_ret, w_retn, w_ife, w_pas, w_brk, w_cnt, w_nil, w_cons, w_len_loc, w_len_tup, w_len_frl, w_abs, w_max, w_min, w_int, w_str, w_tup_tup, w_tup_frl, w_tup_loc, w_lst_tup, w_lst_frl, w_lst_loc, w_add, w_addT, w_addS, w_addL, w_sub, w_mul, w_mulT, w_mulL, w_div, w_mod, w_pow, w_shl, w_shr, w_aadd, w_asub, w_amul, w_lt, w_le, w_gt, w_ge, w_eq, w_ne, w_eqB, w_neB, w_neg, w_truB, w_truI, w_truN, w_truT, w_truF, w_truL, w_chn, w_ixT, w_ixF, w_ixI, w_ixS, w_setS, w_setI, w_app, w_pop, w_ext, w_mtTy, w_isiB, w_isiI, w_isiN, w_isiS, w_isiT, w_isiF, w_isiL, w_sub_int_int, w_sub_bl_int, w_sub_bl_bl, w_sub_int_bl, w_sub_tup_int, w_sub_tup_tup, w_sub_int_tup, w_sub_bl_tup, w_sub_lst_lst, w_itT, w_itF, w_itL, w_rng1, w_rng2, w_tgN, w_tg2, w_tg3, w_ifS0, w_ifS1, atI_0, atI_1, atI_2, atI_3, atI_4, sE, sEs, sB, sI, getE, setE]
  refine s_glow _ t (by omega) (lt9000 (by omega)) fun n S' t' fr h2 h3 => ?_
  obtain ⟨j, rfl⟩ := Int.eq_ofNat_of_zero_le h2
  have hj : j < xs.length := by omega
  have e : atI xs (j : Int) = some xs[j] := atI_nat (by simp [hj])
  simp only [w_asg, w_par, w_seti, w_aug, w_exp, w_ret, w_retn, w_ife, w_pas, w_brk, w_cnt, w_nil, w_cons, w_len_loc, w_len_tup, w_len_frl, w_abs, w_max, w_min, w_int, w_str, w_tup_tup, w_tup_frl, w_tup_loc, w_lst_tup, w_lst_frl, w_lst_loc, w_add, w_addT, w_addS, w_addL, w_sub, w_mul, w_mulT, w_mulL, w_div, w_mod, w_pow, w_shl, w_shr, w_aadd, w_asub, w_amul, w_lt, w_le, w_gt, w_ge, w_eq, w_ne, w_eqB, w_neB, w_neg, w_truB, w_truI, w_truN, w_truT, w_truF, w_truL, w_chn, w_ixT, w_ixF, w_ixI, w_ixS, w_setS, w_setI, w_app, w_pop, w_ext, w_mtTy, w_isiB, w_isiI, w_isiN, w_isiS, w_isiT, w_isiF, w_isiL, w_sub_int_int, w_sub_bl_int, w_sub_bl_bl, w_sub_int_bl, w_sub_tup_int, w_sub_tup_tup, w_sub_int_tup, w_sub_bl_tup, w_sub_lst_lst, w_itT, w_itF, w_itL, w_rng1, w_rng2, w_tgN, w_tg2, w_tg3, w_ifS0, w_ifS1, atI_0, atI_1, atI_2, atI_3, atI_4, sE, sEs, sB, sI, getE, setE, e]
  exact ⟨_, sub_refl _, hk _ _ (List.getElem_mem hj) t' fr⟩
def blk (q l : Nat) : PV := .tup [.int ((q * 2 ^ l : Nat) : Int), .int l]
theorem s_block (d : Nat) {S : Store} {a b : Addr} {k : Kt} {x : Xt} (t : TileAt S a b) (hk : ∀ q l S', TileAt S' a b → l ≤ 40 → q < 2 ^ (40 - l) → k (blk q l) S') :
    (Tb Ds con (d + 3)).fn 13 [.loc a] S k x := by
  show fnS (Tb Ds con (d + 2)) D__law_block _ _ _ _
  refine ⟨rfl, ?_⟩
  show sSs _ _ [some (.loc a), none, none, none] _ _
  simp only [D__law_block, w_asg, w_par, w_seti, w_aug, w_exp, w_ret, w_retn, w_ife, w_pas, w_brk, w_cnt, w_nil, w_cons, w_len_loc, w_len_tup, w_len_frl, w_abs, w_max, w_min, w_int, w_str, w_tup_tup, w_tup_frl, w_tup_loc, w_lst_tup, w_lst_frl, w_lst_loc, w_add, w_addT, w_addS, w_addL, w_sub, w_mul, w_mulT, w_mulL, w_div, w_mod, w_pow, w_shl, w_shr, w_aadd, w_asub, w_amul, w_lt, w_le, w_gt, w_ge, w_eq, w_ne, w_eqB, w_neB, w_neg, w_truB, w_truI, w_truN, w_truT, w_truF, w_truL, w_chn, w_ixT, w_ixF, w_ixI, w_ixS, w_setS, w_setI, w_app, w_pop, w_ext, w_mtTy, w_isiB, w_isiI, w_isiN, w_isiS, w_isiT, w_isiF, w_isiL, w_sub_int_int, w_sub_bl_int, w_sub_bl_bl, w_sub_int_bl, w_sub_tup_int, w_sub_tup_tup, w_sub_int_tup, w_sub_bl_tup, w_sub_lst_lst, w_itT, w_itF, w_itL, w_rng1, w_rng2, w_tgN, w_tg2, w_tg3, w_ifS0, w_ifS1, atI_0, atI_1, atI_2, atI_3, atI_4, sE, sEs, sB, sI, getE, setE]
  refine s_glow _ t (by decide) (lt9000 (by decide)) fun n S1 t1 fr1 h2 h3 => ?_
  refine s_of _ t1 (by simp) (by simp) fun p S2 hp t2 fr2 => ?_
  obtain ⟨l, rfl, hl⟩ : ∃ l : Nat, p = .int l ∧ l ≤ 40 := by
    simp only [List.mem_cons, List.not_mem_nil, or_false] at hp
    rcases hp with rfl | rfl | rfl | rfl | rfl | rfl | rfl
    · exact ⟨0, rfl, by decide⟩
    · exact ⟨1, rfl, by decide⟩
    · exact ⟨2, rfl, by decide⟩
    · exact ⟨3, rfl, by decide⟩
    · exact ⟨39, rfl, by decide⟩
    · exact ⟨40, rfl, by decide⟩
    · exact ⟨n.toNat, by rw [Int.toNat_of_nonneg h2], by omega⟩
  try simp only [w_asg, w_par, w_seti, w_aug, w_exp, w_ret, w_retn, w_ife, w_pas, w_brk, w_cnt, w_nil, w_cons, w_len_loc, w_len_tup, w_len_frl, w_abs, w_max, w_min, w_int, w_str, w_tup_tup, w_tup_frl, w_tup_loc, w_lst_tup, w_lst_frl, w_lst_loc, w_add, w_addT, w_addS, w_addL, w_sub, w_mul, w_mulT, w_mulL, w_div, w_mod, w_pow, w_shl, w_shr, w_aadd, w_asub, w_amul, w_lt, w_le, w_gt, w_ge, w_eq, w_ne, w_eqB, w_neB, w_neg, w_truB, w_truI, w_truN, w_truT, w_truF, w_truL, w_chn, w_ixT, w_ixF, w_ixI, w_ixS, w_setS, w_setI, w_app, w_pop, w_ext, w_mtTy, w_isiB, w_isiI, w_isiN, w_isiS, w_isiT, w_isiF, w_isiL, w_sub_int_int, w_sub_bl_int, w_sub_bl_bl, w_sub_int_bl, w_sub_tup_int, w_sub_tup_tup, w_sub_int_tup, w_sub_bl_tup, w_sub_lst_lst, w_itT, w_itF, w_itL, w_rng1, w_rng2, w_tgN, w_tg2, w_tg3, w_ifS0, w_ifS1, atI_0, atI_1, atI_2, atI_3, atI_4, sE, sEs, sB, sI, getE, setE]
  rw [show (40 : Int) - (l : Int) = ((40 - l : Nat) : Int) by omega]
  refine s_power _ (by omega) ?_
  have hp1 : (1 : Int) ≤ 2 ^ (40 - l) := two_pow_one _
  have hp2 : (2 : Int) ^ (40 - l) ≤ 2 ^ 40 := two_pow_le (by omega)
  try simp only [w_asg, w_par, w_seti, w_aug, w_exp, w_ret, w_retn, w_ife, w_pas, w_brk, w_cnt, w_nil, w_cons, w_len_loc, w_len_tup, w_len_frl, w_abs, w_max, w_min, w_int, w_str, w_tup_tup, w_tup_frl, w_tup_loc, w_lst_tup, w_lst_frl, w_lst_loc, w_add, w_addT, w_addS, w_addL, w_sub, w_mul, w_mulT, w_mulL, w_div, w_mod, w_pow, w_shl, w_shr, w_aadd, w_asub, w_amul, w_lt, w_le, w_gt, w_ge, w_eq, w_ne, w_eqB, w_neB, w_neg, w_truB, w_truI, w_truN, w_truT, w_truF, w_truL, w_chn, w_ixT, w_ixF, w_ixI, w_ixS, w_setS, w_setI, w_app, w_pop, w_ext, w_mtTy, w_isiB, w_isiI, w_isiN, w_isiS, w_isiT, w_isiF, w_isiL, w_sub_int_int, w_sub_bl_int, w_sub_bl_bl, w_sub_int_bl, w_sub_tup_int, w_sub_tup_tup, w_sub_int_tup, w_sub_bl_tup, w_sub_lst_lst, w_itT, w_itF, w_itL, w_rng1, w_rng2, w_tgN, w_tg2, w_tg3, w_ifS0, w_ifS1, atI_0, atI_1, atI_2, atI_3, atI_4, sE, sEs, sB, sI, getE, setE]
  refine s_glow _ t2 (by omega) (lt9000 (by omega)) fun n1 S3 t3 fr3 h4 h5 => ?_
  try simp only [w_asg, w_par, w_seti, w_aug, w_exp, w_ret, w_retn, w_ife, w_pas, w_brk, w_cnt, w_nil, w_cons, w_len_loc, w_len_tup, w_len_frl, w_abs, w_max, w_min, w_int, w_str, w_tup_tup, w_tup_frl, w_tup_loc, w_lst_tup, w_lst_frl, w_lst_loc, w_add, w_addT, w_addS, w_addL, w_sub, w_mul, w_mulT, w_mulL, w_div, w_mod, w_pow, w_shl, w_shr, w_aadd, w_asub, w_amul, w_lt, w_le, w_gt, w_ge, w_eq, w_ne, w_eqB, w_neB, w_neg, w_truB, w_truI, w_truN, w_truT, w_truF, w_truL, w_chn, w_ixT, w_ixF, w_ixI, w_ixS, w_setS, w_setI, w_app, w_pop, w_ext, w_mtTy, w_isiB, w_isiI, w_isiN, w_isiS, w_isiT, w_isiF, w_isiL, w_sub_int_int, w_sub_bl_int, w_sub_bl_bl, w_sub_int_bl, w_sub_tup_int, w_sub_tup_tup, w_sub_int_tup, w_sub_bl_tup, w_sub_lst_lst, w_itT, w_itF, w_itL, w_rng1, w_rng2, w_tgN, w_tg2, w_tg3, w_ifS0, w_ifS1, atI_0, atI_1, atI_2, atI_3, atI_4, sE, sEs, sB, sI, getE, setE]
  refine s_glow _ t3 (by split <;> omega) (lt9000 (by split <;> omega)) fun n2 S4 t4 fr4 h6 h7 => ?_
  refine s_of _ t4 (by simp) (by simp) fun p S5 hp t5 fr5 => ?_
  obtain ⟨q, rfl, hq⟩ : ∃ q : Int, p = .int q ∧ 0 ≤ q ∧ q < 2 ^ (40 - l) := by
    simp only [List.mem_cons, List.not_mem_nil, or_false] at hp
    rcases hp with rfl | rfl | rfl | rfl
    · exact ⟨_, rfl, by omega, by omega⟩
    · exact ⟨_, rfl, by omega, by omega⟩
    · exact ⟨_, rfl, h4, h5⟩
    · refine ⟨_, rfl, h6, ?_⟩
      split at h7 <;> omega
  obtain ⟨q, rfl⟩ := Int.eq_ofNat_of_zero_le hq.1
  try simp only [w_asg, w_par, w_seti, w_aug, w_exp, w_ret, w_retn, w_ife, w_pas, w_brk, w_cnt, w_nil, w_cons, w_len_loc, w_len_tup, w_len_frl, w_abs, w_max, w_min, w_int, w_str, w_tup_tup, w_tup_frl, w_tup_loc, w_lst_tup, w_lst_frl, w_lst_loc, w_add, w_addT, w_addS, w_addL, w_sub, w_mul, w_mulT, w_mulL, w_div, w_mod, w_pow, w_shl, w_shr, w_aadd, w_asub, w_amul, w_lt, w_le, w_gt, w_ge, w_eq, w_ne, w_eqB, w_neB, w_neg, w_truB, w_truI, w_truN, w_truT, w_truF, w_truL, w_chn, w_ixT, w_ixF, w_ixI, w_ixS, w_setS, w_setI, w_app, w_pop, w_ext, w_mtTy, w_isiB, w_isiI, w_isiN, w_isiS, w_isiT, w_isiF, w_isiL, w_sub_int_int, w_sub_bl_int, w_sub_bl_bl, w_sub_int_bl, w_sub_tup_int, w_sub_tup_tup, w_sub_int_tup, w_sub_bl_tup, w_sub_lst_lst, w_itT, w_itF, w_itL, w_rng1, w_rng2, w_tgN, w_tg2, w_tg3, w_ifS0, w_ifS1, atI_0, atI_1, atI_2, atI_3, atI_4, sE, sEs, sB, sI, getE, setE]
  refine s_power _ (by omega) ?_
  try simp only [w_asg, w_par, w_seti, w_aug, w_exp, w_ret, w_retn, w_ife, w_pas, w_brk, w_cnt, w_nil, w_cons, w_len_loc, w_len_tup, w_len_frl, w_abs, w_max, w_min, w_int, w_str, w_tup_tup, w_tup_frl, w_tup_loc, w_lst_tup, w_lst_frl, w_lst_loc, w_add, w_addT, w_addS, w_addL, w_sub, w_mul, w_mulT, w_mulL, w_div, w_mod, w_pow, w_shl, w_shr, w_aadd, w_asub, w_amul, w_lt, w_le, w_gt, w_ge, w_eq, w_ne, w_eqB, w_neB, w_neg, w_truB, w_truI, w_truN, w_truT, w_truF, w_truL, w_chn, w_ixT, w_ixF, w_ixI, w_ixS, w_setS, w_setI, w_app, w_pop, w_ext, w_mtTy, w_isiB, w_isiI, w_isiN, w_isiS, w_isiT, w_isiF, w_isiL, w_sub_int_int, w_sub_bl_int, w_sub_bl_bl, w_sub_int_bl, w_sub_tup_int, w_sub_tup_tup, w_sub_int_tup, w_sub_bl_tup, w_sub_lst_lst, w_itT, w_itF, w_itL, w_rng1, w_rng2, w_tgN, w_tg2, w_tg3, w_ifS0, w_ifS1, atI_0, atI_1, atI_2, atI_3, atI_4, sE, sEs, sB, sI, getE, setE]
  have hp3 : (2 : Int) ^ l ≤ 2 ^ 40 := two_pow_le (by omega)
  have hp4 : (1 : Int) ≤ 2 ^ l := two_pow_one _
  refine ⟨mulOk_r (by omega) (by omega), _, sub_refl _, ?_⟩
  have := hk q l S5 t5 hl (by have := hq.2; rw [← pow_cast] at this; omega)
  unfold blk at this
  rw [show ((q * 2 ^ l : Nat) : Int) = (q : Int) * 2 ^ l by push_cast; rfl] at this
  exact this

theorem s_beside (d : Nat) {S : Store} {a b : Addr} {q l : Nat} {k : Kt} {x : Xt} (t : TileAt S a b) (hl : l ≤ 40) (hq : q < 2 ^ (40 - l)) (hk : ∀ q l S', TileAt S' a b → l ≤ 40 → q < 2 ^ (40 - l) → k (blk q l) S') :
    (Tb Ds con (d + 4)).fn 14 [.loc a, blk q l] S k x := by
  show fnS (Tb Ds con (d + 3)) D__law_beside _ _ _ _
  refine ⟨rfl, ?_⟩
  have P1 : ∀ n : Nat, n ≤ 40 → (1 : Int) ≤ 2 ^ n ∧ (2 : Int) ^ n ≤ 2 ^ 40 := fun n h => ⟨two_pow_one _, two_pow_le h⟩
  have hb : ∀ (q l : Nat) (u v : Int), u = (q : Int) * 2 ^ l → v = l → PV.tup [.int u, .int v] = blk q l := fun q l u v e1 e2 => by
    subst e1; subst e2; unfold blk; rw [show ((q * 2 ^ l : Nat) : Int) = (q : Int) * 2 ^ l by push_cast; rfl]
  have split2 : ∀ n : Nat, n ≤ l → (2 : Nat) ^ l = 2 ^ (l - n) * 2 ^ n := fun n h => by rw [← Nat.pow_add]; congr 1; omega
  have split3 : ∀ n m : Nat, n ≤ m → m ≤ 40 → (2 : Nat) ^ (40 - n) = 2 ^ (40 - m) * 2 ^ (m - n) := fun n m h h' => by rw [← Nat.pow_add]; congr 1; omega
  show sSs _ _ [some (.loc a), some (.tup [.int ((q * 2 ^ l : Nat) : Int), .int l]), none, none, none, none, none] _ _
  simp only [D__law_beside, w_asg, w_par, w_seti, w_aug, w_exp, w_ret, w_retn, w_ife, w_pas, w_brk, w_cnt, w_nil, w_cons, w_len_loc, w_len_tup, w_len_frl, w_abs, w_max, w_min, w_int, w_str, w_tup_tup, w_tup_frl, w_tup_loc, w_lst_tup, w_lst_frl, w_lst_loc, w_add, w_addT, w_addS, w_addL, w_sub, w_mul, w_mulT, w_mulL, w_div, w_mod, w_pow, w_shl, w_shr, w_aadd, w_asub, w_amul, w_lt, w_le, w_gt, w_ge, w_eq, w_ne, w_eqB, w_neB, w_neg, w_truB, w_truI, w_truN, w_truT, w_truF, w_truL, w_chn, w_ixT, w_ixF, w_ixI, w_ixS, w_setS, w_setI, w_app, w_pop, w_ext, w_mtTy, w_isiB, w_isiI, w_isiN, w_isiS, w_isiT, w_isiF, w_isiL, w_sub_int_int, w_sub_bl_int, w_sub_bl_bl, w_sub_int_bl, w_sub_tup_int, w_sub_tup_tup, w_sub_int_tup, w_sub_bl_tup, w_sub_lst_lst, w_itT, w_itF, w_itL, w_rng1, w_rng2, w_tgN, w_tg2, w_tg3, w_ifS0, w_ifS1, atI_0, atI_1, atI_2, atI_3, atI_4, sE, sEs, sB, sI, getE, setE]
  refine s_glow _ t (by decide) (lt9000 (by decide)) fun n S1 t1 fr1 h2 h3 => ?_
  have K0 : ∀ {S : Store} {a b : Addr} {k : Kt} {x : Xt} (t : TileAt S a b) (hk : ∀ q l S', TileAt S' a b → l ≤ 40 → q < 2 ^ (40 - l) → k (blk q l) S'), (Tb Ds con (d + 3)).fn 13 [.loc a] S k x := fun t hk => s_block d t hk
  simp only [w_asg, w_par, w_seti, w_aug, w_exp, w_ret, w_retn, w_ife, w_pas, w_brk, w_cnt, w_nil, w_cons, w_len_loc, w_len_tup, w_len_frl, w_abs, w_max, w_min, w_int, w_str, w_tup_tup, w_tup_frl, w_tup_loc, w_lst_tup, w_lst_frl, w_lst_loc, w_add, w_addT, w_addS, w_addL, w_sub, w_mul, w_mulT, w_mulL, w_div, w_mod, w_pow, w_shl, w_shr, w_aadd, w_asub, w_amul, w_lt, w_le, w_gt, w_ge, w_eq, w_ne, w_eqB, w_neB, w_neg, w_truB, w_truI, w_truN, w_truT, w_truF, w_truL, w_chn, w_ixT, w_ixF, w_ixI, w_ixS, w_setS, w_setI, w_app, w_pop, w_ext, w_mtTy, w_isiB, w_isiI, w_isiN, w_isiS, w_isiT, w_isiF, w_isiL, w_sub_int_int, w_sub_bl_int, w_sub_bl_bl, w_sub_int_bl, w_sub_tup_int, w_sub_tup_tup, w_sub_int_tup, w_sub_bl_tup, w_sub_lst_lst, w_itT, w_itF, w_itL, w_rng1, w_rng2, w_tgN, w_tg2, w_tg3, w_ifS0, w_ifS1, atI_0, atI_1, atI_2, atI_3, atI_4, sE, sEs, sB, sI, getE, setE, decide_eq_true_eq]
  split
  · refine s_glow _ t1 (by omega) (lt9000 (by omega)) fun n2 S2 t2 fr2 h4 h5 => ?_
    obtain ⟨lo, rfl⟩ := Int.eq_ofNat_of_zero_le h4
    try simp only [w_asg, w_par, w_seti, w_aug, w_exp, w_ret, w_retn, w_ife, w_pas, w_brk, w_cnt, w_nil, w_cons, w_len_loc, w_len_tup, w_len_frl, w_abs, w_max, w_min, w_int, w_str, w_tup_tup, w_tup_frl, w_tup_loc, w_lst_tup, w_lst_frl, w_lst_loc, w_add, w_addT, w_addS, w_addL, w_sub, w_mul, w_mulT, w_mulL, w_div, w_mod, w_pow, w_shl, w_shr, w_aadd, w_asub, w_amul, w_lt, w_le, w_gt, w_ge, w_eq, w_ne, w_eqB, w_neB, w_neg, w_truB, w_truI, w_truN, w_truT, w_truF, w_truL, w_chn, w_ixT, w_ixF, w_ixI, w_ixS, w_setS, w_setI, w_app, w_pop, w_ext, w_mtTy, w_isiB, w_isiI, w_isiN, w_isiS, w_isiT, w_isiF, w_isiL, w_sub_int_int, w_sub_bl_int, w_sub_bl_bl, w_sub_int_bl, w_sub_tup_int, w_sub_tup_tup, w_sub_int_tup, w_sub_bl_tup, w_sub_lst_lst, w_itT, w_itF, w_itL, w_rng1, w_rng2, w_tgN, w_tg2, w_tg3, w_ifS0, w_ifS1, atI_0, atI_1, atI_2, atI_3, atI_4, sE, sEs, sB, sI, getE, setE]
    have hlo : lo ≤ l := by omega
    rw [show (l : Int) - (lo : Int) = ((l - lo : Nat) : Int) by omega]
    refine s_power _ (by omega) ?_
    try simp only [w_asg, w_par, w_seti, w_aug, w_exp, w_ret, w_retn, w_ife, w_pas, w_brk, w_cnt, w_nil, w_cons, w_len_loc, w_len_tup, w_len_frl, w_abs, w_max, w_min, w_int, w_str, w_tup_tup, w_tup_frl, w_tup_loc, w_lst_tup, w_lst_frl, w_lst_loc, w_add, w_addT, w_addS, w_addL, w_sub, w_mul, w_mulT, w_mulL, w_div, w_mod, w_pow, w_shl, w_shr, w_aadd, w_asub, w_amul, w_lt, w_le, w_gt, w_ge, w_eq, w_ne, w_eqB, w_neB, w_neg, w_truB, w_truI, w_truN, w_truT, w_truF, w_truL, w_chn, w_ixT, w_ixF, w_ixI, w_ixS, w_setS, w_setI, w_app, w_pop, w_ext, w_mtTy, w_isiB, w_isiI, w_isiN, w_isiS, w_isiT, w_isiF, w_isiL, w_sub_int_int, w_sub_bl_int, w_sub_bl_bl, w_sub_int_bl, w_sub_tup_int, w_sub_tup_tup, w_sub_int_tup, w_sub_bl_tup, w_sub_lst_lst, w_itT, w_itF, w_itL, w_rng1, w_rng2, w_tgN, w_tg2, w_tg3, w_ifS0, w_ifS1, atI_0, atI_1, atI_2, atI_3, atI_4, sE, sEs, sB, sI, getE, setE]
    have := P1 (l - lo) (by omega)
    refine s_glow _ t2 (by omega) (lt9000 (by omega)) fun n3 S3 t3 fr3 h6 h7 => ?_
    obtain ⟨g, rfl⟩ := Int.eq_ofNat_of_zero_le h6
    try simp only [w_asg, w_par, w_seti, w_aug, w_exp, w_ret, w_retn, w_ife, w_pas, w_brk, w_cnt, w_nil, w_cons, w_len_loc, w_len_tup, w_len_frl, w_abs, w_max, w_min, w_int, w_str, w_tup_tup, w_tup_frl, w_tup_loc, w_lst_tup, w_lst_frl, w_lst_loc, w_add, w_addT, w_addS, w_addL, w_sub, w_mul, w_mulT, w_mulL, w_div, w_mod, w_pow, w_shl, w_shr, w_aadd, w_asub, w_amul, w_lt, w_le, w_gt, w_ge, w_eq, w_ne, w_eqB, w_neB, w_neg, w_truB, w_truI, w_truN, w_truT, w_truF, w_truL, w_chn, w_ixT, w_ixF, w_ixI, w_ixS, w_setS, w_setI, w_app, w_pop, w_ext, w_mtTy, w_isiB, w_isiI, w_isiN, w_isiS, w_isiT, w_isiF, w_isiL, w_sub_int_int, w_sub_bl_int, w_sub_bl_bl, w_sub_int_bl, w_sub_tup_int, w_sub_tup_tup, w_sub_int_tup, w_sub_bl_tup, w_sub_lst_lst, w_itT, w_itF, w_itL, w_rng1, w_rng2, w_tgN, w_tg2, w_tg3, w_ifS0, w_ifS1, atI_0, atI_1, atI_2, atI_3, atI_4, sE, sEs, sB, sI, getE, setE]
    refine s_power _ (by omega) ?_
    try simp only [w_asg, w_par, w_seti, w_aug, w_exp, w_ret, w_retn, w_ife, w_pas, w_brk, w_cnt, w_nil, w_cons, w_len_loc, w_len_tup, w_len_frl, w_abs, w_max, w_min, w_int, w_str, w_tup_tup, w_tup_frl, w_tup_loc, w_lst_tup, w_lst_frl, w_lst_loc, w_add, w_addT, w_addS, w_addL, w_sub, w_mul, w_mulT, w_mulL, w_div, w_mod, w_pow, w_shl, w_shr, w_aadd, w_asub, w_amul, w_lt, w_le, w_gt, w_ge, w_eq, w_ne, w_eqB, w_neB, w_neg, w_truB, w_truI, w_truN, w_truT, w_truF, w_truL, w_chn, w_ixT, w_ixF, w_ixI, w_ixS, w_setS, w_setI, w_app, w_pop, w_ext, w_mtTy, w_isiB, w_isiI, w_isiN, w_isiS, w_isiT, w_isiF, w_isiL, w_sub_int_int, w_sub_bl_int, w_sub_bl_bl, w_sub_int_bl, w_sub_tup_int, w_sub_tup_tup, w_sub_int_tup, w_sub_bl_tup, w_sub_lst_lst, w_itT, w_itF, w_itL, w_rng1, w_rng2, w_tgN, w_tg2, w_tg3, w_ifS0, w_ifS1, atI_0, atI_1, atI_2, atI_3, atI_4, sE, sEs, sB, sI, getE, setE]
    have h8 := P1 lo (by omega)
    refine ⟨mulOk_r (by omega) (by omega), _, sub_refl _, ?_⟩
    have hg : g < 2 ^ (l - lo) := by rw [← pow_cast] at h7; omega
    rw [hb (q * 2 ^ (l - lo) + g) lo _ _ (by rw [split2 lo hlo]; push_cast; rw [Int.add_mul, Int.mul_assoc]) rfl]
    refine hk _ _ _ t3 (by omega) ?_
    rw [split3 lo l hlo hl]
    calc q * 2 ^ (l - lo) + g < q * 2 ^ (l - lo) + 2 ^ (l - lo) := by omega
      _ = (q + 1) * 2 ^ (l - lo) := by rw [Nat.add_mul, Nat.one_mul]
      _ ≤ _ := Nat.mul_le_mul_right _ hq
  split
  · refine s_glow _ t1 (by omega) (lt9000 (by omega)) fun n2 S2 t2 fr2 h4 h5 => ?_
    obtain ⟨e, rfl⟩ := Int.eq_ofNat_of_zero_le h4
    try simp only [w_asg, w_par, w_seti, w_aug, w_exp, w_ret, w_retn, w_ife, w_pas, w_brk, w_cnt, w_nil, w_cons, w_len_loc, w_len_tup, w_len_frl, w_abs, w_max, w_min, w_int, w_str, w_tup_tup, w_tup_frl, w_tup_loc, w_lst_tup, w_lst_frl, w_lst_loc, w_add, w_addT, w_addS, w_addL, w_sub, w_mul, w_mulT, w_mulL, w_div, w_mod, w_pow, w_shl, w_shr, w_aadd, w_asub, w_amul, w_lt, w_le, w_gt, w_ge, w_eq, w_ne, w_eqB, w_neB, w_neg, w_truB, w_truI, w_truN, w_truT, w_truF, w_truL, w_chn, w_ixT, w_ixF, w_ixI, w_ixS, w_setS, w_setI, w_app, w_pop, w_ext, w_mtTy, w_isiB, w_isiI, w_isiN, w_isiS, w_isiT, w_isiF, w_isiL, w_sub_int_int, w_sub_bl_int, w_sub_bl_bl, w_sub_int_bl, w_sub_tup_int, w_sub_tup_tup, w_sub_int_tup, w_sub_bl_tup, w_sub_lst_lst, w_itT, w_itF, w_itL, w_rng1, w_rng2, w_tgN, w_tg2, w_tg3, w_ifS0, w_ifS1, atI_0, atI_1, atI_2, atI_3, atI_4, sE, sEs, sB, sI, getE, setE]
    rw [show (l : Int) + (e : Int) = ((l + e : Nat) : Int) by omega]
    have he : l + e ≤ 40 := by omega
    refine s_power _ (by omega) ?_
    try simp only [w_asg, w_par, w_seti, w_aug, w_exp, w_ret, w_retn, w_ife, w_pas, w_brk, w_cnt, w_nil, w_cons, w_len_loc, w_len_tup, w_len_frl, w_abs, w_max, w_min, w_int, w_str, w_tup_tup, w_tup_frl, w_tup_loc, w_lst_tup, w_lst_frl, w_lst_loc, w_add, w_addT, w_addS, w_addL, w_sub, w_mul, w_mulT, w_mulL, w_div, w_mod, w_pow, w_shl, w_shr, w_aadd, w_asub, w_amul, w_lt, w_le, w_gt, w_ge, w_eq, w_ne, w_eqB, w_neB, w_neg, w_truB, w_truI, w_truN, w_truT, w_truF, w_truL, w_chn, w_ixT, w_ixF, w_ixI, w_ixS, w_setS, w_setI, w_app, w_pop, w_ext, w_mtTy, w_isiB, w_isiI, w_isiN, w_isiS, w_isiT, w_isiF, w_isiL, w_sub_int_int, w_sub_bl_int, w_sub_bl_bl, w_sub_int_bl, w_sub_tup_int, w_sub_tup_tup, w_sub_int_tup, w_sub_bl_tup, w_sub_lst_lst, w_itT, w_itF, w_itL, w_rng1, w_rng2, w_tgN, w_tg2, w_tg3, w_ifS0, w_ifS1, atI_0, atI_1, atI_2, atI_3, atI_4, sE, sEs, sB, sI, getE, setE]
    have h8 := P1 (l + e) he
    refine ⟨⟨by omega, lt9000 (by omega)⟩, ?_⟩
    refine s_power _ (by omega) ?_
    try simp only [w_asg, w_par, w_seti, w_aug, w_exp, w_ret, w_retn, w_ife, w_pas, w_brk, w_cnt, w_nil, w_cons, w_len_loc, w_len_tup, w_len_frl, w_abs, w_max, w_min, w_int, w_str, w_tup_tup, w_tup_frl, w_tup_loc, w_lst_tup, w_lst_frl, w_lst_loc, w_add, w_addT, w_addS, w_addL, w_sub, w_mul, w_mulT, w_mulL, w_div, w_mod, w_pow, w_shl, w_shr, w_aadd, w_asub, w_amul, w_lt, w_le, w_gt, w_ge, w_eq, w_ne, w_eqB, w_neB, w_neg, w_truB, w_truI, w_truN, w_truT, w_truF, w_truL, w_chn, w_ixT, w_ixF, w_ixI, w_ixS, w_setS, w_setI, w_app, w_pop, w_ext, w_mtTy, w_isiB, w_isiI, w_isiN, w_isiS, w_isiT, w_isiF, w_isiL, w_sub_int_int, w_sub_bl_int, w_sub_bl_bl, w_sub_int_bl, w_sub_tup_int, w_sub_tup_tup, w_sub_int_tup, w_sub_bl_tup, w_sub_lst_lst, w_itT, w_itF, w_itL, w_rng1, w_rng2, w_tgN, w_tg2, w_tg3, w_ifS0, w_ifS1, atI_0, atI_1, atI_2, atI_3, atI_4, sE, sEs, sB, sI, getE, setE]
    refine ⟨mulOk_r (by omega) (by omega), _, sub_refl _, ?_⟩
    rw [hb (q * 2 ^ l / 2 ^ (l + e)) (l + e) _ _ (by push_cast; rfl) rfl]
    refine hk _ _ _ t2 he ?_
    rw [Nat.div_lt_iff_lt_mul (Nat.two_pow_pos _), ← Nat.pow_add, show 40 - (l + e) + (l + e) = 40 by omega, show (2 : Nat) ^ 40 = 2 ^ (40 - l) * 2 ^ l by rw [← Nat.pow_add]; congr 1; omega]
    exact Nat.mul_lt_mul_of_pos_right hq (Nat.two_pow_pos _)
  by_cases e2 : n = 2
  · subst e2
    simp only [show ((2 : Int) = 3) = False from by decide, if_true, if_false]
    refine s_power _ (by omega) ?_
    try simp only [w_asg, w_par, w_seti, w_aug, w_exp, w_ret, w_retn, w_ife, w_pas, w_brk, w_cnt, w_nil, w_cons, w_len_loc, w_len_tup, w_len_frl, w_abs, w_max, w_min, w_int, w_str, w_tup_tup, w_tup_frl, w_tup_loc, w_lst_tup, w_lst_frl, w_lst_loc, w_add, w_addT, w_addS, w_addL, w_sub, w_mul, w_mulT, w_mulL, w_div, w_mod, w_pow, w_shl, w_shr, w_aadd, w_asub, w_amul, w_lt, w_le, w_gt, w_ge, w_eq, w_ne, w_eqB, w_neB, w_neg, w_truB, w_truI, w_truN, w_truT, w_truF, w_truL, w_chn, w_ixT, w_ixF, w_ixI, w_ixS, w_setS, w_setI, w_app, w_pop, w_ext, w_mtTy, w_isiB, w_isiI, w_isiN, w_isiS, w_isiT, w_isiF, w_isiL, w_sub_int_int, w_sub_bl_int, w_sub_bl_bl, w_sub_int_bl, w_sub_tup_int, w_sub_tup_tup, w_sub_int_tup, w_sub_bl_tup, w_sub_lst_lst, w_itT, w_itF, w_itL, w_rng1, w_rng2, w_tgN, w_tg2, w_tg3, w_ifS0, w_ifS1, atI_0, atI_1, atI_2, atI_3, atI_4, sE, sEs, sB, sI, getE, setE]
    have h8 := P1 l hl
    refine ⟨mulOk_r (by omega) (by omega), ?_⟩
    refine s_power _ (n := 40) (by omega) ?_
    simp only [w_asg, w_par, w_seti, w_aug, w_exp, w_ret, w_retn, w_ife, w_pas, w_brk, w_cnt, w_nil, w_cons, w_len_loc, w_len_tup, w_len_frl, w_abs, w_max, w_min, w_int, w_str, w_tup_tup, w_tup_frl, w_tup_loc, w_lst_tup, w_lst_frl, w_lst_loc, w_add, w_addT, w_addS, w_addL, w_sub, w_mul, w_mulT, w_mulL, w_div, w_mod, w_pow, w_shl, w_shr, w_aadd, w_asub, w_amul, w_lt, w_le, w_gt, w_ge, w_eq, w_ne, w_eqB, w_neB, w_neg, w_truB, w_truI, w_truN, w_truT, w_truF, w_truL, w_chn, w_ixT, w_ixF, w_ixI, w_ixS, w_setS, w_setI, w_app, w_pop, w_ext, w_mtTy, w_isiB, w_isiI, w_isiN, w_isiS, w_isiT, w_isiF, w_isiL, w_sub_int_int, w_sub_bl_int, w_sub_bl_bl, w_sub_int_bl, w_sub_tup_int, w_sub_tup_tup, w_sub_int_tup, w_sub_bl_tup, w_sub_lst_lst, w_itT, w_itF, w_itL, w_rng1, w_rng2, w_tgN, w_tg2, w_tg3, w_ifS0, w_ifS1, atI_0, atI_1, atI_2, atI_3, atI_4, sE, sEs, sB, sI, getE, setE, decide_eq_true_eq]
    split
    · rename_i hle
      refine s_power _ (by omega) ?_
      try simp only [w_asg, w_par, w_seti, w_aug, w_exp, w_ret, w_retn, w_ife, w_pas, w_brk, w_cnt, w_nil, w_cons, w_len_loc, w_len_tup, w_len_frl, w_abs, w_max, w_min, w_int, w_str, w_tup_tup, w_tup_frl, w_tup_loc, w_lst_tup, w_lst_frl, w_lst_loc, w_add, w_addT, w_addS, w_addL, w_sub, w_mul, w_mulT, w_mulL, w_div, w_mod, w_pow, w_shl, w_shr, w_aadd, w_asub, w_amul, w_lt, w_le, w_gt, w_ge, w_eq, w_ne, w_eqB, w_neB, w_neg, w_truB, w_truI, w_truN, w_truT, w_truF, w_truL, w_chn, w_ixT, w_ixF, w_ixI, w_ixS, w_setS, w_setI, w_app, w_pop, w_ext, w_mtTy, w_isiB, w_isiI, w_isiN, w_isiS, w_isiT, w_isiF, w_isiL, w_sub_int_int, w_sub_bl_int, w_sub_bl_bl, w_sub_int_bl, w_sub_tup_int, w_sub_tup_tup, w_sub_int_tup, w_sub_bl_tup, w_sub_lst_lst, w_itT, w_itF, w_itL, w_rng1, w_rng2, w_tgN, w_tg2, w_tg3, w_ifS0, w_ifS1, atI_0, atI_1, atI_2, atI_3, atI_4, sE, sEs, sB, sI, getE, setE]
      refine ⟨_, sub_refl _, ?_⟩
      rw [hb (q + 1) l _ _ (by push_cast; rw [Int.add_mul, Int.one_mul]) rfl]
      refine hk _ _ _ t1 hl ?_
      have e : (2 : Nat) ^ 40 = 2 ^ (40 - l) * 2 ^ l := by rw [← Nat.pow_add]; congr 1; omega
      have h9 : (q + 2) * 2 ^ l ≤ 2 ^ (40 - l) * 2 ^ l := by
        rw [← e, Nat.add_mul]
        have hle' : ((q * 2 ^ l + 2 * 2 ^ l : Nat) : Int) ≤ ((2 ^ 40 : Nat) : Int) := by rw [pow_cast]; push_cast; push_cast at hle; omega
        exact_mod_cast hle'
      have := Nat.le_of_mul_le_mul_right h9 (Nat.two_pow_pos l)
      omega
    · exact s_block _ t1 fun q l S' t' h1 h2 => ⟨_, sub_refl _, hk _ _ _ t' h1 h2⟩
  by_cases e3 : n = 3
  · subst e3
    simp only [show ((3 : Int) = 2) = False from by decide, if_true, if_false]
    split
    · rename_i hpos
      refine s_glow _ t1 (by omega) (lt9000 (by omega)) fun n2 S2 t2 fr2 h4 h5 => ?_
      obtain ⟨lo, rfl⟩ := Int.eq_ofNat_of_zero_le h4
      try simp only [w_asg, w_par, w_seti, w_aug, w_exp, w_ret, w_retn, w_ife, w_pas, w_brk, w_cnt, w_nil, w_cons, w_len_loc, w_len_tup, w_len_frl, w_abs, w_max, w_min, w_int, w_str, w_tup_tup, w_tup_frl, w_tup_loc, w_lst_tup, w_lst_frl, w_lst_loc, w_add, w_addT, w_addS, w_addL, w_sub, w_mul, w_mulT, w_mulL, w_div, w_mod, w_pow, w_shl, w_shr, w_aadd, w_asub, w_amul, w_lt, w_le, w_gt, w_ge, w_eq, w_ne, w_eqB, w_neB, w_neg, w_truB, w_truI, w_truN, w_truT, w_truF, w_truL, w_chn, w_ixT, w_ixF, w_ixI, w_ixS, w_setS, w_setI, w_app, w_pop, w_ext, w_mtTy, w_isiB, w_isiI, w_isiN, w_isiS, w_isiT, w_isiF, w_isiL, w_sub_int_int, w_sub_bl_int, w_sub_bl_bl, w_sub_int_bl, w_sub_tup_int, w_sub_tup_tup, w_sub_int_tup, w_sub_bl_tup, w_sub_lst_lst, w_itT, w_itF, w_itL, w_rng1, w_rng2, w_tgN, w_tg2, w_tg3, w_ifS0, w_ifS1, atI_0, atI_1, atI_2, atI_3, atI_4, sE, sEs, sB, sI, getE, setE]
      have hlo : lo ≤ l := by omega
      refine s_power _ (by omega) ?_
      try simp only [w_asg, w_par, w_seti, w_aug, w_exp, w_ret, w_retn, w_ife, w_pas, w_brk, w_cnt, w_nil, w_cons, w_len_loc, w_len_tup, w_len_frl, w_abs, w_max, w_min, w_int, w_str, w_tup_tup, w_tup_frl, w_tup_loc, w_lst_tup, w_lst_frl, w_lst_loc, w_add, w_addT, w_addS, w_addL, w_sub, w_mul, w_mulT, w_mulL, w_div, w_mod, w_pow, w_shl, w_shr, w_aadd, w_asub, w_amul, w_lt, w_le, w_gt, w_ge, w_eq, w_ne, w_eqB, w_neB, w_neg, w_truB, w_truI, w_truN, w_truT, w_truF, w_truL, w_chn, w_ixT, w_ixF, w_ixI, w_ixS, w_setS, w_setI, w_app, w_pop, w_ext, w_mtTy, w_isiB, w_isiI, w_isiN, w_isiS, w_isiT, w_isiF, w_isiL, w_sub_int_int, w_sub_bl_int, w_sub_bl_bl, w_sub_int_bl, w_sub_tup_int, w_sub_tup_tup, w_sub_int_tup, w_sub_bl_tup, w_sub_lst_lst, w_itT, w_itF, w_itL, w_rng1, w_rng2, w_tgN, w_tg2, w_tg3, w_ifS0, w_ifS1, atI_0, atI_1, atI_2, atI_3, atI_4, sE, sEs, sB, sI, getE, setE]
      refine ⟨_, sub_refl _, ?_⟩
      have hq0 : 0 < q := by
        rcases Nat.eq_zero_or_pos q with z | z
        · subst z; simp at hpos
        · exact z
      have h1 : 1 ≤ q * 2 ^ (l - lo) := Nat.mul_pos hq0 (Nat.two_pow_pos _)
      rw [hb (q * 2 ^ (l - lo) - 1) lo _ _ (by rw [split2 lo hlo, Int.ofNat_sub h1]; push_cast; rw [Int.sub_mul, Int.mul_assoc, Int.one_mul]) rfl]
      refine hk _ _ _ t2 (by omega) ?_
      rw [split3 lo l hlo hl]
      have := Nat.mul_lt_mul_of_pos_right hq (Nat.two_pow_pos (l - lo))
      omega
    · exact s_block _ t1 fun q l S' t' h1 h2 => ⟨_, sub_refl _, hk _ _ _ t' h1 h2⟩
  · simp only [e2, e3, if_false]
    exact s_block _ t1 fun q l S' t' h1 h2 => ⟨_, sub_refl _, hk _ _ _ t' h1 h2⟩
end K01
namespace K01
open PySem PySem.Spec PyProof.Rows L2 PL
theorem w_isi {S : Store} {p : PV} {t a : TyI} {k : Kt} (h : tyP p S = some a) : isiS t p S k = k (.bl (subT a t)) S := by unfold isiS; rw [h]
def isI : PV → Bool
  | .int _ => true
  | _ => false
theorem isI_ty {S : Store} {p : PV} {a : TyI} (h : tyP p S = some a) : (subT a .int && !subT a .bl) = isI p := by
  cases p <;> simp only [tyP] at h
  case loc c =>
    cases e : S c with
    | none => rw [e] at h; cases h
    | some o => rw [e] at h; cases o <;> (cases h; rfl)
  all_goals (cases h; rfl)
theorem s_whole (d : Nat) {S : Store} {p : PV} {a : TyI} {k : Kt} {x : Xt} (h : tyP p S = some a) (hk : k (.bl (isI p)) S) : (Tb Ds con (d + 1)).fn 0 [p] S k x := by
  show fnS (Tb Ds con d) D_is_whole _ _ _ _
  refine ⟨rfl, ?_⟩
  show sSs _ _ [some p] _ _
  simp only [D_is_whole, w_asg, w_par, w_seti, w_aug, w_exp, w_ret, w_retn, w_ife, w_pas, w_brk, w_cnt, w_nil, w_cons, w_len_loc, w_len_tup, w_len_frl, w_abs, w_max, w_min, w_int, w_str, w_tup_tup, w_tup_frl, w_tup_loc, w_lst_tup, w_lst_frl, w_lst_loc, w_add, w_addT, w_addS, w_addL, w_sub, w_mul, w_mulT, w_mulL, w_div, w_mod, w_pow, w_shl, w_shr, w_aadd, w_asub, w_amul, w_lt, w_le, w_gt, w_ge, w_eq, w_ne, w_eqB, w_neB, w_neg, w_truB, w_truI, w_truN, w_truT, w_truF, w_truL, w_chn, w_ixT, w_ixF, w_ixI, w_ixS, w_setS, w_setI, w_app, w_pop, w_ext, w_mtTy, w_isiB, w_isiI, w_isiN, w_isiS, w_isiT, w_isiF, w_isiL, w_sub_int_int, w_sub_bl_int, w_sub_bl_bl, w_sub_int_bl, w_sub_tup_int, w_sub_tup_tup, w_sub_int_tup, w_sub_bl_tup, w_sub_lst_lst, w_itT, w_itF, w_itL, w_rng1, w_rng2, w_tgN, w_tg2, w_tg3, w_ifS0, w_ifS1, atI_0, atI_1, atI_2, atI_3, atI_4, sE, sEs, sB, sI, getE, setE, w_isi h]
  rw [← isI_ty h] at hk
  cases e : subT a .int <;> rw [e] at hk <;> exact ⟨_, sub_refl _, hk⟩
theorem s_integer (d : Nat) {S : Store} {p : PV} {a : TyI} {k : Kt} {x : Xt} (h : tyP p S = some a) (hk : k (.bl (isI p)) S) : (Tb Ds con (d + 1)).fn 15 [p] S k x := by
  show fnS (Tb Ds con d) D__law_integer _ _ _ _
  refine ⟨rfl, ?_⟩
  show sSs _ _ [some p] _ _
  simp only [D__law_integer, w_asg, w_par, w_seti, w_aug, w_exp, w_ret, w_retn, w_ife, w_pas, w_brk, w_cnt, w_nil, w_cons, w_len_loc, w_len_tup, w_len_frl, w_abs, w_max, w_min, w_int, w_str, w_tup_tup, w_tup_frl, w_tup_loc, w_lst_tup, w_lst_frl, w_lst_loc, w_add, w_addT, w_addS, w_addL, w_sub, w_mul, w_mulT, w_mulL, w_div, w_mod, w_pow, w_shl, w_shr, w_aadd, w_asub, w_amul, w_lt, w_le, w_gt, w_ge, w_eq, w_ne, w_eqB, w_neB, w_neg, w_truB, w_truI, w_truN, w_truT, w_truF, w_truL, w_chn, w_ixT, w_ixF, w_ixI, w_ixS, w_setS, w_setI, w_app, w_pop, w_ext, w_mtTy, w_isiB, w_isiI, w_isiN, w_isiS, w_isiT, w_isiF, w_isiL, w_sub_int_int, w_sub_bl_int, w_sub_bl_bl, w_sub_int_bl, w_sub_tup_int, w_sub_tup_tup, w_sub_int_tup, w_sub_bl_tup, w_sub_lst_lst, w_itT, w_itF, w_itL, w_rng1, w_rng2, w_tgN, w_tg2, w_tg3, w_ifS0, w_ifS1, atI_0, atI_1, atI_2, atI_3, atI_4, sE, sEs, sB, sI, getE, setE, w_isi h]
  rw [← isI_ty h] at hk
  cases e : subT a .int <;> rw [e] at hk <;> exact ⟨_, sub_refl _, hk⟩
def numB : PV → Bool
  | .int i => decide (0 ≤ i)
  | _ => false
theorem s_number (d : Nat) {S : Store} {p : PV} {a : TyI} {k : Kt} {x : Xt} (h : tyP p S = some a) (hk : k (.bl (numB p)) S) : (Tb Ds con (d + 2)).fn 1 [p] S k x := by
  show fnS (Tb Ds con (d + 1)) D_is_number _ _ _ _
  refine ⟨rfl, ?_⟩
  show sSs _ _ [some p] _ _
  simp only [D_is_number, w_asg, w_par, w_seti, w_aug, w_exp, w_ret, w_retn, w_ife, w_pas, w_brk, w_cnt, w_nil, w_cons, w_len_loc, w_len_tup, w_len_frl, w_abs, w_max, w_min, w_int, w_str, w_tup_tup, w_tup_frl, w_tup_loc, w_lst_tup, w_lst_frl, w_lst_loc, w_add, w_addT, w_addS, w_addL, w_sub, w_mul, w_mulT, w_mulL, w_div, w_mod, w_pow, w_shl, w_shr, w_aadd, w_asub, w_amul, w_lt, w_le, w_gt, w_ge, w_eq, w_ne, w_eqB, w_neB, w_neg, w_truB, w_truI, w_truN, w_truT, w_truF, w_truL, w_chn, w_ixT, w_ixF, w_ixI, w_ixS, w_setS, w_setI, w_app, w_pop, w_ext, w_mtTy, w_isiB, w_isiI, w_isiN, w_isiS, w_isiT, w_isiF, w_isiL, w_sub_int_int, w_sub_bl_int, w_sub_bl_bl, w_sub_int_bl, w_sub_tup_int, w_sub_tup_tup, w_sub_int_tup, w_sub_bl_tup, w_sub_lst_lst, w_itT, w_itF, w_itL, w_rng1, w_rng2, w_tgN, w_tg2, w_tg3, w_ifS0, w_ifS1, atI_0, atI_1, atI_2, atI_3, atI_4, sE, sEs, sB, sI, getE, setE]
  refine s_whole _ h ?_
  cases p <;> simp only [isI, w_asg, w_par, w_seti, w_aug, w_exp, w_ret, w_retn, w_ife, w_pas, w_brk, w_cnt, w_nil, w_cons, w_len_loc, w_len_tup, w_len_frl, w_abs, w_max, w_min, w_int, w_str, w_tup_tup, w_tup_frl, w_tup_loc, w_lst_tup, w_lst_frl, w_lst_loc, w_add, w_addT, w_addS, w_addL, w_sub, w_mul, w_mulT, w_mulL, w_div, w_mod, w_pow, w_shl, w_shr, w_aadd, w_asub, w_amul, w_lt, w_le, w_gt, w_ge, w_eq, w_ne, w_eqB, w_neB, w_neg, w_truB, w_truI, w_truN, w_truT, w_truF, w_truL, w_chn, w_ixT, w_ixF, w_ixI, w_ixS, w_setS, w_setI, w_app, w_pop, w_ext, w_mtTy, w_isiB, w_isiI, w_isiN, w_isiS, w_isiT, w_isiF, w_isiL, w_sub_int_int, w_sub_bl_int, w_sub_bl_bl, w_sub_int_bl, w_sub_tup_int, w_sub_tup_tup, w_sub_int_tup, w_sub_bl_tup, w_sub_lst_lst, w_itT, w_itF, w_itL, w_rng1, w_rng2, w_tgN, w_tg2, w_tg3, w_ifS0, w_ifS1, atI_0, atI_1, atI_2, atI_3, atI_4, sE, sEs, sB, sI, getE, setE, if_true, Bool.false_eq_true, if_false] <;> exact ⟨_, sub_refl _, hk⟩
def belB (m : Int) : PV → Bool
  | .int i => decide (0 ≤ i) && decide (i < m)
  | _ => false
theorem s_below (d : Nat) {S : Store} {p : PV} {m : Int} {a : TyI} {k : Kt} {x : Xt} (h : tyP p S = some a) (hk : k (.bl (belB m p)) S) : (Tb Ds con (d + 3)).fn 2 [p, .int m] S k x := by
  show fnS (Tb Ds con (d + 2)) D_is_below _ _ _ _
  refine ⟨rfl, ?_⟩
  show sSs _ _ [some p, some (.int m)] _ _
  simp only [D_is_below, w_asg, w_par, w_seti, w_aug, w_exp, w_ret, w_retn, w_ife, w_pas, w_brk, w_cnt, w_nil, w_cons, w_len_loc, w_len_tup, w_len_frl, w_abs, w_max, w_min, w_int, w_str, w_tup_tup, w_tup_frl, w_tup_loc, w_lst_tup, w_lst_frl, w_lst_loc, w_add, w_addT, w_addS, w_addL, w_sub, w_mul, w_mulT, w_mulL, w_div, w_mod, w_pow, w_shl, w_shr, w_aadd, w_asub, w_amul, w_lt, w_le, w_gt, w_ge, w_eq, w_ne, w_eqB, w_neB, w_neg, w_truB, w_truI, w_truN, w_truT, w_truF, w_truL, w_chn, w_ixT, w_ixF, w_ixI, w_ixS, w_setS, w_setI, w_app, w_pop, w_ext, w_mtTy, w_isiB, w_isiI, w_isiN, w_isiS, w_isiT, w_isiF, w_isiL, w_sub_int_int, w_sub_bl_int, w_sub_bl_bl, w_sub_int_bl, w_sub_tup_int, w_sub_tup_tup, w_sub_int_tup, w_sub_bl_tup, w_sub_lst_lst, w_itT, w_itF, w_itL, w_rng1, w_rng2, w_tgN, w_tg2, w_tg3, w_ifS0, w_ifS1, atI_0, atI_1, atI_2, atI_3, atI_4, sE, sEs, sB, sI, getE, setE]
  refine s_number _ h ?_
  cases p <;> simp only [numB, w_asg, w_par, w_seti, w_aug, w_exp, w_ret, w_retn, w_ife, w_pas, w_brk, w_cnt, w_nil, w_cons, w_len_loc, w_len_tup, w_len_frl, w_abs, w_max, w_min, w_int, w_str, w_tup_tup, w_tup_frl, w_tup_loc, w_lst_tup, w_lst_frl, w_lst_loc, w_add, w_addT, w_addS, w_addL, w_sub, w_mul, w_mulT, w_mulL, w_div, w_mod, w_pow, w_shl, w_shr, w_aadd, w_asub, w_amul, w_lt, w_le, w_gt, w_ge, w_eq, w_ne, w_eqB, w_neB, w_neg, w_truB, w_truI, w_truN, w_truT, w_truF, w_truL, w_chn, w_ixT, w_ixF, w_ixI, w_ixS, w_setS, w_setI, w_app, w_pop, w_ext, w_mtTy, w_isiB, w_isiI, w_isiN, w_isiS, w_isiT, w_isiF, w_isiL, w_sub_int_int, w_sub_bl_int, w_sub_bl_bl, w_sub_int_bl, w_sub_tup_int, w_sub_tup_tup, w_sub_int_tup, w_sub_bl_tup, w_sub_lst_lst, w_itT, w_itF, w_itL, w_rng1, w_rng2, w_tgN, w_tg2, w_tg3, w_ifS0, w_ifS1, atI_0, atI_1, atI_2, atI_3, atI_4, sE, sEs, sB, sI, getE, setE, if_true, Bool.false_eq_true, if_false, decide_eq_true_eq] <;> first | exact ⟨_, sub_refl _, hk⟩ | skip
  rename_i i
  simp only [belB] at hk
  split
  · rename_i h0
    rw [decide_eq_true h0, Bool.true_and] at hk
    exact ⟨_, sub_refl _, hk⟩
  · rename_i h0
    rw [decide_eq_false h0, Bool.false_and] at hk
    exact ⟨_, sub_refl _, by rw [decide_eq_false h0]; exact hk⟩
theorem s_level (d : Nat) {S : Store} {sz : Int} {L : Nat} {k : Kt} {x : Xt} (hL : L ≤ 1000) (h1 : ∀ i < L, (2 : Int) ^ i < sz) (h2 : sz ≤ 2 ^ L) (hk : k (.int L) S) : (Tb Ds con (d + 1)).fn 3 [.int sz] S k x := by
  show fnS (Tb Ds con d) D_level_of _ _ _ _
  refine ⟨rfl, ?_⟩
  show sSs _ _ [some (.int sz), none] _ _
  simp only [D_level_of, w_whl, w_asg, w_par, w_seti, w_aug, w_exp, w_ret, w_retn, w_ife, w_pas, w_brk, w_cnt, w_nil, w_cons, w_len_loc, w_len_tup, w_len_frl, w_abs, w_max, w_min, w_int, w_str, w_tup_tup, w_tup_frl, w_tup_loc, w_lst_tup, w_lst_frl, w_lst_loc, w_add, w_addT, w_addS, w_addL, w_sub, w_mul, w_mulT, w_mulL, w_div, w_mod, w_pow, w_shl, w_shr, w_aadd, w_asub, w_amul, w_lt, w_le, w_gt, w_ge, w_eq, w_ne, w_eqB, w_neB, w_neg, w_truB, w_truI, w_truN, w_truT, w_truF, w_truL, w_chn, w_ixT, w_ixF, w_ixI, w_ixS, w_setS, w_setI, w_app, w_pop, w_ext, w_mtTy, w_isiB, w_isiI, w_isiN, w_isiS, w_isiT, w_isiF, w_isiL, w_sub_int_int, w_sub_bl_int, w_sub_bl_bl, w_sub_int_bl, w_sub_tup_int, w_sub_tup_tup, w_sub_int_tup, w_sub_bl_tup, w_sub_lst_lst, w_itT, w_itF, w_itL, w_rng1, w_rng2, w_tgN, w_tg2, w_tg3, w_ifS0, w_ifS1, atI_0, atI_1, atI_2, atI_3, atI_4, sE, sEs, sB, sI, getE, setE]
  refine ⟨fun m env S' => S' = S ∧ ∃ i : Nat, i ≤ L ∧ m = L - i ∧ env = [some (.int sz), some (.int i)], ⟨L, rfl, 0, Nat.zero_le _, rfl, rfl⟩, ?_⟩
  rintro m env S' ⟨rfl, i, hi, rfl, rfl⟩
  simp only [w_asg, w_par, w_seti, w_aug, w_exp, w_ret, w_retn, w_ife, w_pas, w_brk, w_cnt, w_nil, w_cons, w_len_loc, w_len_tup, w_len_frl, w_abs, w_max, w_min, w_int, w_str, w_tup_tup, w_tup_frl, w_tup_loc, w_lst_tup, w_lst_frl, w_lst_loc, w_add, w_addT, w_addS, w_addL, w_sub, w_mul, w_mulT, w_mulL, w_div, w_mod, w_pow, w_shl, w_shr, w_aadd, w_asub, w_amul, w_lt, w_le, w_gt, w_ge, w_eq, w_ne, w_eqB, w_neB, w_neg, w_truB, w_truI, w_truN, w_truT, w_truF, w_truL, w_chn, w_ixT, w_ixF, w_ixI, w_ixS, w_setS, w_setI, w_app, w_pop, w_ext, w_mtTy, w_isiB, w_isiI, w_isiN, w_isiS, w_isiT, w_isiF, w_isiL, w_sub_int_int, w_sub_bl_int, w_sub_bl_bl, w_sub_int_bl, w_sub_tup_int, w_sub_tup_tup, w_sub_int_tup, w_sub_bl_tup, w_sub_lst_lst, w_itT, w_itF, w_itL, w_rng1, w_rng2, w_tgN, w_tg2, w_tg3, w_ifS0, w_ifS1, atI_0, atI_1, atI_2, atI_3, atI_4, sE, sEs, sB, sI, getE, setE, decide_eq_true_eq, Int.toNat_natCast, Int.one_mul]
  refine ⟨cpow_ok (by omega) (by omega) (by decide), ?_⟩
  split
  · rename_i hlt
    have hne : i ≠ L := fun z => by subst z; omega
    exact ⟨L - (i + 1), by omega, trivial, i + 1, by omega, rfl, rfl⟩
  · rename_i hlt
    have e : i = L := by
      rcases Nat.lt_or_ge i L with z | z
      · exact absurd (h1 i z) hlt
      · omega
    subst e
    exact ⟨_, sub_refl _, hk⟩
theorem s_bspan (d : Nat) {S : Store} {u : Int} {l : Nat} {k : Kt} {x : Xt} (hl : l ≤ 1000) (hk : k (.tup [.int u, .int (u + 2 ^ l)]) S) : (Tb Ds con (d + 1)).fn 4 [.int u, .int l] S k x := by
  show fnS (Tb Ds con d) D_block_span _ _ _ _
  refine ⟨rfl, ?_⟩
  show sSs _ _ [some (.int u), some (.int l)] _ _
  simp only [D_block_span, w_asg, w_par, w_seti, w_aug, w_exp, w_ret, w_retn, w_ife, w_pas, w_brk, w_cnt, w_nil, w_cons, w_len_loc, w_len_tup, w_len_frl, w_abs, w_max, w_min, w_int, w_str, w_tup_tup, w_tup_frl, w_tup_loc, w_lst_tup, w_lst_frl, w_lst_loc, w_add, w_addT, w_addS, w_addL, w_sub, w_mul, w_mulT, w_mulL, w_div, w_mod, w_pow, w_shl, w_shr, w_aadd, w_asub, w_amul, w_lt, w_le, w_gt, w_ge, w_eq, w_ne, w_eqB, w_neB, w_neg, w_truB, w_truI, w_truN, w_truT, w_truF, w_truL, w_chn, w_ixT, w_ixF, w_ixI, w_ixS, w_setS, w_setI, w_app, w_pop, w_ext, w_mtTy, w_isiB, w_isiI, w_isiN, w_isiS, w_isiT, w_isiF, w_isiL, w_sub_int_int, w_sub_bl_int, w_sub_bl_bl, w_sub_int_bl, w_sub_tup_int, w_sub_tup_tup, w_sub_int_tup, w_sub_bl_tup, w_sub_lst_lst, w_itT, w_itF, w_itL, w_rng1, w_rng2, w_tgN, w_tg2, w_tg3, w_ifS0, w_ifS1, atI_0, atI_1, atI_2, atI_3, atI_4, sE, sEs, sB, sI, getE, setE, Int.toNat_natCast, Int.one_mul]
  exact ⟨cpow_ok (by omega) (by omega) (by decide), _, sub_refl _, hk⟩
def bk (u : Int) (l : Nat) : PV := .tup [.int u, .int l]
def meetB (u : Int) (l : Nat) (v : Int) (m : Nat) : Bool := decide (u < v + 2 ^ m) && decide (v < u + 2 ^ l)
theorem s_bmeet (d : Nat) {S : Store} {u v : Int} {l m : Nat} {k : Kt} {x : Xt} (hl : l ≤ 1000) (hm : m ≤ 1000) (hk : k (.bl (meetB u l v m)) S) : (Tb Ds con (d + 1)).fn 6 [bk u l, bk v m] S k x := by
  show fnS (Tb Ds con d) D_blocks_meet _ _ _ _
  refine ⟨rfl, ?_⟩
  show sSs _ _ [some (.tup [.int u, .int l]), some (.tup [.int v, .int m])] _ _
  simp only [D_blocks_meet, w_asg, w_par, w_seti, w_aug, w_exp, w_ret, w_retn, w_ife, w_pas, w_brk, w_cnt, w_nil, w_cons, w_len_loc, w_len_tup, w_len_frl, w_abs, w_max, w_min, w_int, w_str, w_tup_tup, w_tup_frl, w_tup_loc, w_lst_tup, w_lst_frl, w_lst_loc, w_add, w_addT, w_addS, w_addL, w_sub, w_mul, w_mulT, w_mulL, w_div, w_mod, w_pow, w_shl, w_shr, w_aadd, w_asub, w_amul, w_lt, w_le, w_gt, w_ge, w_eq, w_ne, w_eqB, w_neB, w_neg, w_truB, w_truI, w_truN, w_truT, w_truF, w_truL, w_chn, w_ixT, w_ixF, w_ixI, w_ixS, w_setS, w_setI, w_app, w_pop, w_ext, w_mtTy, w_isiB, w_isiI, w_isiN, w_isiS, w_isiT, w_isiF, w_isiL, w_sub_int_int, w_sub_bl_int, w_sub_bl_bl, w_sub_int_bl, w_sub_tup_int, w_sub_tup_tup, w_sub_int_tup, w_sub_bl_tup, w_sub_lst_lst, w_itT, w_itF, w_itL, w_rng1, w_rng2, w_tgN, w_tg2, w_tg3, w_ifS0, w_ifS1, atI_0, atI_1, atI_2, atI_3, atI_4, sE, sEs, sB, sI, getE, setE, Int.toNat_natCast, Int.one_mul, decide_eq_true_eq]
  refine ⟨cpow_ok (by omega) (by omega) (by decide), ?_⟩
  unfold meetB at hk
  split
  · rename_i h
    rw [decide_eq_true h, Bool.true_and] at hk
    exact ⟨cpow_ok (by omega) (by omega) (by decide), _, sub_refl _, hk⟩
  · rename_i h
    rw [decide_eq_false h, Bool.false_and] at hk
    rw [decide_eq_false h]
    exact ⟨_, sub_refl _, hk⟩
theorem s_halves (d : Nat) {S : Store} {u : Int} {l : Nat} {k : Kt} {x : Xt} (h0 : 0 < l) (hl : l ≤ 1000) (hk : k (.tup [bk u (l - 1), bk (u + 2 ^ (l - 1)) (l - 1)]) S) : (Tb Ds con (d + 1)).fn 7 [bk u l] S k x := by
  show fnS (Tb Ds con d) D_halves _ _ _ _
  refine ⟨rfl, ?_⟩
  show sSs _ _ [some (.tup [.int u, .int l]), none, none] _ _
  have e : (l : Int) - 1 = ((l - 1 : Nat) : Int) := by omega
  simp only [D_halves, w_asg, w_par, w_seti, w_aug, w_exp, w_ret, w_retn, w_ife, w_pas, w_brk, w_cnt, w_nil, w_cons, w_len_loc, w_len_tup, w_len_frl, w_abs, w_max, w_min, w_int, w_str, w_tup_tup, w_tup_frl, w_tup_loc, w_lst_tup, w_lst_frl, w_lst_loc, w_add, w_addT, w_addS, w_addL, w_sub, w_mul, w_mulT, w_mulL, w_div, w_mod, w_pow, w_shl, w_shr, w_aadd, w_asub, w_amul, w_lt, w_le, w_gt, w_ge, w_eq, w_ne, w_eqB, w_neB, w_neg, w_truB, w_truI, w_truN, w_truT, w_truF, w_truL, w_chn, w_ixT, w_ixF, w_ixI, w_ixS, w_setS, w_setI, w_app, w_pop, w_ext, w_mtTy, w_isiB, w_isiI, w_isiN, w_isiS, w_isiT, w_isiF, w_isiL, w_sub_int_int, w_sub_bl_int, w_sub_bl_bl, w_sub_int_bl, w_sub_tup_int, w_sub_tup_tup, w_sub_int_tup, w_sub_bl_tup, w_sub_lst_lst, w_itT, w_itF, w_itL, w_rng1, w_rng2, w_tgN, w_tg2, w_tg3, w_ifS0, w_ifS1, atI_0, atI_1, atI_2, atI_3, atI_4, sE, sEs, sB, sI, getE, setE, e, Int.toNat_natCast, Int.one_mul]
  exact ⟨cpow_ok (by omega) (by omega) (by decide), _, sub_refl _, hk⟩
theorem s_holder (d : Nat) {S : Store} {u : Int} {l m : Nat} {k : Kt} {x : Xt} (hm : m ≤ 60) (hk : k (bk (u / 2 ^ m * 2 ^ m) m) S) : (Tb Ds con (d + 1)).fn 8 [bk u l, .int m] S k x := by
  show fnS (Tb Ds con d) D_holder_of _ _ _ _
  refine ⟨rfl, ?_⟩
  show sSs _ _ [some (.tup [.int u, .int l]), some (.int m)] _ _
  have h1 := two_pow_one m
  have h2 : (2 : Int) ^ m ≤ 2 ^ 60 := two_pow_le hm
  simp only [D_holder_of, w_asg, w_par, w_seti, w_aug, w_exp, w_ret, w_retn, w_ife, w_pas, w_brk, w_cnt, w_nil, w_cons, w_len_loc, w_len_tup, w_len_frl, w_abs, w_max, w_min, w_int, w_str, w_tup_tup, w_tup_frl, w_tup_loc, w_lst_tup, w_lst_frl, w_lst_loc, w_add, w_addT, w_addS, w_addL, w_sub, w_mul, w_mulT, w_mulL, w_div, w_mod, w_pow, w_shl, w_shr, w_aadd, w_asub, w_amul, w_lt, w_le, w_gt, w_ge, w_eq, w_ne, w_eqB, w_neB, w_neg, w_truB, w_truI, w_truN, w_truT, w_truF, w_truL, w_chn, w_ixT, w_ixF, w_ixI, w_ixS, w_setS, w_setI, w_app, w_pop, w_ext, w_mtTy, w_isiB, w_isiI, w_isiN, w_isiS, w_isiT, w_isiF, w_isiL, w_sub_int_int, w_sub_bl_int, w_sub_bl_bl, w_sub_int_bl, w_sub_tup_int, w_sub_tup_tup, w_sub_int_tup, w_sub_bl_tup, w_sub_lst_lst, w_itT, w_itF, w_itL, w_rng1, w_rng2, w_tgN, w_tg2, w_tg3, w_ifS0, w_ifS1, atI_0, atI_1, atI_2, atI_3, atI_4, sE, sEs, sB, sI, getE, setE, Int.toNat_natCast, Int.one_mul]
  exact ⟨cpow_ok (by omega) (by omega) (by decide), ⟨by omega, lt9000 (by omega)⟩, cpow_ok (by omega) (by omega) (by decide), mulOk_r (by omega) (by omega), _, sub_refl _, hk⟩
theorem s_lspan (d : Nat) {S : Store} {u : Int} {l : Nat} {k : Kt} {x : Xt} (hl : l < 1000) (hk : k (.tup [.int u, .int (u + 2 ^ l)]) S) : (Tb Ds con (d + 2)).fn 19 [bk u l] S k x := by
  show fnS (Tb Ds con (d + 1)) D__law_span _ _ _ _
  refine ⟨rfl, ?_⟩
  show sSs _ _ [some (.tup [.int u, .int l])] _ _
  simp only [D__law_span, w_asg, w_par, w_seti, w_aug, w_exp, w_ret, w_retn, w_ife, w_pas, w_brk, w_cnt, w_nil, w_cons, w_len_loc, w_len_tup, w_len_frl, w_abs, w_max, w_min, w_int, w_str, w_tup_tup, w_tup_frl, w_tup_loc, w_lst_tup, w_lst_frl, w_lst_loc, w_add, w_addT, w_addS, w_addL, w_sub, w_mul, w_mulT, w_mulL, w_div, w_mod, w_pow, w_shl, w_shr, w_aadd, w_asub, w_amul, w_lt, w_le, w_gt, w_ge, w_eq, w_ne, w_eqB, w_neB, w_neg, w_truB, w_truI, w_truN, w_truT, w_truF, w_truL, w_chn, w_ixT, w_ixF, w_ixI, w_ixS, w_setS, w_setI, w_app, w_pop, w_ext, w_mtTy, w_isiB, w_isiI, w_isiN, w_isiS, w_isiT, w_isiF, w_isiL, w_sub_int_int, w_sub_bl_int, w_sub_bl_bl, w_sub_int_bl, w_sub_tup_int, w_sub_tup_tup, w_sub_int_tup, w_sub_bl_tup, w_sub_lst_lst, w_itT, w_itF, w_itL, w_rng1, w_rng2, w_tgN, w_tg2, w_tg3, w_ifS0, w_ifS1, atI_0, atI_1, atI_2, atI_3, atI_4, sE, sEs, sB, sI, getE, setE]
  refine s_power _ hl ?_
  try simp only [w_asg, w_par, w_seti, w_aug, w_exp, w_ret, w_retn, w_ife, w_pas, w_brk, w_cnt, w_nil, w_cons, w_len_loc, w_len_tup, w_len_frl, w_abs, w_max, w_min, w_int, w_str, w_tup_tup, w_tup_frl, w_tup_loc, w_lst_tup, w_lst_frl, w_lst_loc, w_add, w_addT, w_addS, w_addL, w_sub, w_mul, w_mulT, w_mulL, w_div, w_mod, w_pow, w_shl, w_shr, w_aadd, w_asub, w_amul, w_lt, w_le, w_gt, w_ge, w_eq, w_ne, w_eqB, w_neB, w_neg, w_truB, w_truI, w_truN, w_truT, w_truF, w_truL, w_chn, w_ixT, w_ixF, w_ixI, w_ixS, w_setS, w_setI, w_app, w_pop, w_ext, w_mtTy, w_isiB, w_isiI, w_isiN, w_isiS, w_isiT, w_isiF, w_isiL, w_sub_int_int, w_sub_bl_int, w_sub_bl_bl, w_sub_int_bl, w_sub_tup_int, w_sub_tup_tup, w_sub_int_tup, w_sub_bl_tup, w_sub_lst_lst, w_itT, w_itF, w_itL, w_rng1, w_rng2, w_tgN, w_tg2, w_tg3, w_ifS0, w_ifS1, atI_0, atI_1, atI_2, atI_3, atI_4, sE, sEs, sB, sI, getE, setE]
  exact ⟨_, sub_refl _, hk⟩
theorem s_lmeet (d : Nat) {S : Store} {u v : Int} {l m : Nat} {k : Kt} {x : Xt} (hl : l < 1000) (hm : m < 1000) (hk : k (.bl (meetB u l v m)) S) : (Tb Ds con (d + 3)).fn 20 [bk u l, bk v m] S k x := by
  show fnS (Tb Ds con (d + 2)) D__law_meet _ _ _ _
  refine ⟨rfl, ?_⟩
  show sSs _ _ [some (bk u l), some (bk v m)] _ _
  simp only [D__law_meet, w_asg, w_par, w_seti, w_aug, w_exp, w_ret, w_retn, w_ife, w_pas, w_brk, w_cnt, w_nil, w_cons, w_len_loc, w_len_tup, w_len_frl, w_abs, w_max, w_min, w_int, w_str, w_tup_tup, w_tup_frl, w_tup_loc, w_lst_tup, w_lst_frl, w_lst_loc, w_add, w_addT, w_addS, w_addL, w_sub, w_mul, w_mulT, w_mulL, w_div, w_mod, w_pow, w_shl, w_shr, w_aadd, w_asub, w_amul, w_lt, w_le, w_gt, w_ge, w_eq, w_ne, w_eqB, w_neB, w_neg, w_truB, w_truI, w_truN, w_truT, w_truF, w_truL, w_chn, w_ixT, w_ixF, w_ixI, w_ixS, w_setS, w_setI, w_app, w_pop, w_ext, w_mtTy, w_isiB, w_isiI, w_isiN, w_isiS, w_isiT, w_isiF, w_isiL, w_sub_int_int, w_sub_bl_int, w_sub_bl_bl, w_sub_int_bl, w_sub_tup_int, w_sub_tup_tup, w_sub_int_tup, w_sub_bl_tup, w_sub_lst_lst, w_itT, w_itF, w_itL, w_rng1, w_rng2, w_tgN, w_tg2, w_tg3, w_ifS0, w_ifS1, atI_0, atI_1, atI_2, atI_3, atI_4, sE, sEs, sB, sI, getE, setE]
  refine s_lspan _ hl ?_
  try simp only [w_asg, w_par, w_seti, w_aug, w_exp, w_ret, w_retn, w_ife, w_pas, w_brk, w_cnt, w_nil, w_cons, w_len_loc, w_len_tup, w_len_frl, w_abs, w_max, w_min, w_int, w_str, w_tup_tup, w_tup_frl, w_tup_loc, w_lst_tup, w_lst_frl, w_lst_loc, w_add, w_addT, w_addS, w_addL, w_sub, w_mul, w_mulT, w_mulL, w_div, w_mod, w_pow, w_shl, w_shr, w_aadd, w_asub, w_amul, w_lt, w_le, w_gt, w_ge, w_eq, w_ne, w_eqB, w_neB, w_neg, w_truB, w_truI, w_truN, w_truT, w_truF, w_truL, w_chn, w_ixT, w_ixF, w_ixI, w_ixS, w_setS, w_setI, w_app, w_pop, w_ext, w_mtTy, w_isiB, w_isiI, w_isiN, w_isiS, w_isiT, w_isiF, w_isiL, w_sub_int_int, w_sub_bl_int, w_sub_bl_bl, w_sub_int_bl, w_sub_tup_int, w_sub_tup_tup, w_sub_int_tup, w_sub_bl_tup, w_sub_lst_lst, w_itT, w_itF, w_itL, w_rng1, w_rng2, w_tgN, w_tg2, w_tg3, w_ifS0, w_ifS1, atI_0, atI_1, atI_2, atI_3, atI_4, sE, sEs, sB, sI, getE, setE]
  refine s_lspan _ hm ?_
  simp only [w_asg, w_par, w_seti, w_aug, w_exp, w_ret, w_retn, w_ife, w_pas, w_brk, w_cnt, w_nil, w_cons, w_len_loc, w_len_tup, w_len_frl, w_abs, w_max, w_min, w_int, w_str, w_tup_tup, w_tup_frl, w_tup_loc, w_lst_tup, w_lst_frl, w_lst_loc, w_add, w_addT, w_addS, w_addL, w_sub, w_mul, w_mulT, w_mulL, w_div, w_mod, w_pow, w_shl, w_shr, w_aadd, w_asub, w_amul, w_lt, w_le, w_gt, w_ge, w_eq, w_ne, w_eqB, w_neB, w_neg, w_truB, w_truI, w_truN, w_truT, w_truF, w_truL, w_chn, w_ixT, w_ixF, w_ixI, w_ixS, w_setS, w_setI, w_app, w_pop, w_ext, w_mtTy, w_isiB, w_isiI, w_isiN, w_isiS, w_isiT, w_isiF, w_isiL, w_sub_int_int, w_sub_bl_int, w_sub_bl_bl, w_sub_int_bl, w_sub_tup_int, w_sub_tup_tup, w_sub_int_tup, w_sub_bl_tup, w_sub_lst_lst, w_itT, w_itF, w_itL, w_rng1, w_rng2, w_tgN, w_tg2, w_tg3, w_ifS0, w_ifS1, atI_0, atI_1, atI_2, atI_3, atI_4, sE, sEs, sB, sI, getE, setE, decide_eq_true_eq]
  unfold meetB at hk
  split
  · rename_i h
    rw [decide_eq_true h, Bool.true_and] at hk
    refine s_lspan _ hm ?_
    try simp only [w_asg, w_par, w_seti, w_aug, w_exp, w_ret, w_retn, w_ife, w_pas, w_brk, w_cnt, w_nil, w_cons, w_len_loc, w_len_tup, w_len_frl, w_abs, w_max, w_min, w_int, w_str, w_tup_tup, w_tup_frl, w_tup_loc, w_lst_tup, w_lst_frl, w_lst_loc, w_add, w_addT, w_addS, w_addL, w_sub, w_mul, w_mulT, w_mulL, w_div, w_mod, w_pow, w_shl, w_shr, w_aadd, w_asub, w_amul, w_lt, w_le, w_gt, w_ge, w_eq, w_ne, w_eqB, w_neB, w_neg, w_truB, w_truI, w_truN, w_truT, w_truF, w_truL, w_chn, w_ixT, w_ixF, w_ixI, w_ixS, w_setS, w_setI, w_app, w_pop, w_ext, w_mtTy, w_isiB, w_isiI, w_isiN, w_isiS, w_isiT, w_isiF, w_isiL, w_sub_int_int, w_sub_bl_int, w_sub_bl_bl, w_sub_int_bl, w_sub_tup_int, w_sub_tup_tup, w_sub_int_tup, w_sub_bl_tup, w_sub_lst_lst, w_itT, w_itF, w_itL, w_rng1, w_rng2, w_tgN, w_tg2, w_tg3, w_ifS0, w_ifS1, atI_0, atI_1, atI_2, atI_3, atI_4, sE, sEs, sB, sI, getE, setE]
    refine s_lspan _ hl ?_
    try simp only [w_asg, w_par, w_seti, w_aug, w_exp, w_ret, w_retn, w_ife, w_pas, w_brk, w_cnt, w_nil, w_cons, w_len_loc, w_len_tup, w_len_frl, w_abs, w_max, w_min, w_int, w_str, w_tup_tup, w_tup_frl, w_tup_loc, w_lst_tup, w_lst_frl, w_lst_loc, w_add, w_addT, w_addS, w_addL, w_sub, w_mul, w_mulT, w_mulL, w_div, w_mod, w_pow, w_shl, w_shr, w_aadd, w_asub, w_amul, w_lt, w_le, w_gt, w_ge, w_eq, w_ne, w_eqB, w_neB, w_neg, w_truB, w_truI, w_truN, w_truT, w_truF, w_truL, w_chn, w_ixT, w_ixF, w_ixI, w_ixS, w_setS, w_setI, w_app, w_pop, w_ext, w_mtTy, w_isiB, w_isiI, w_isiN, w_isiS, w_isiT, w_isiF, w_isiL, w_sub_int_int, w_sub_bl_int, w_sub_bl_bl, w_sub_int_bl, w_sub_tup_int, w_sub_tup_tup, w_sub_int_tup, w_sub_bl_tup, w_sub_lst_lst, w_itT, w_itF, w_itL, w_rng1, w_rng2, w_tgN, w_tg2, w_tg3, w_ifS0, w_ifS1, atI_0, atI_1, atI_2, atI_3, atI_4, sE, sEs, sB, sI, getE, setE]
    exact ⟨_, sub_refl _, hk⟩
  · rename_i h
    rw [decide_eq_false h, Bool.false_and] at hk
    rw [decide_eq_false h]
    exact ⟨_, sub_refl _, hk⟩
end K01
namespace K01
open PySem PySem.Spec PyProof.Rows L2 PL
/-- typed, and so are its parts -/
def Typd (S : Store) : PV → Prop
  | .tup xs => ∀ p ∈ xs, ∃ a, tyP p S = some a
  | p => ∃ a, tyP p S = some a
def blkB : PV → Bool
  | .tup [.int u, .int l] => decide (0 ≤ u) && (decide (0 ≤ l) && decide (l < 41)) && (decide (u % 2 ^ l.toNat = 0) && decide (u + 2 ^ l.toNat ≤ 2 ^ 40))
  | _ => false
theorem num_t {u : PV} (h : numB u = true) : ∃ i : Nat, u = .int i := by
  cases u <;> simp only [numB, Bool.false_eq_true, decide_eq_true_eq] at h
  exact ⟨_, congrArg PV.int (Int.toNat_of_nonneg h).symm⟩
theorem bel_t {u : PV} {m : Nat} (h : belB m u = true) : ∃ i : Nat, u = .int i ∧ i < m := by
  cases u <;> simp only [belB, Bool.false_eq_true, Bool.and_eq_true, decide_eq_true_eq] at h
  refine ⟨_, congrArg PV.int (Int.toNat_of_nonneg h.1).symm, by omega⟩
theorem blk_f1 {u v : PV} (h : numB u = false) : blkB (.tup [u, v]) = false := by
  cases u <;> cases v <;> first | rfl | (simp only [numB] at h; simp only [blkB, h, Bool.false_and])
theorem blk_f2 {u v : PV} (h : belB 41 v = false) : blkB (.tup [u, v]) = false := by
  cases u <;> cases v <;> first | rfl | (simp only [belB] at h; simp only [blkB, h, Bool.false_and, Bool.and_false])
theorem blk_t (u l : Nat) (h : l < 41) : blkB (.tup [.int u, .int l]) = (decide ((u : Int) % 2 ^ l = 0) && decide ((u : Int) + 2 ^ l ≤ 2 ^ 40)) := by
  simp only [blkB, Int.toNat_natCast]
  rw [decide_eq_true (show (0 : Int) ≤ u by omega), decide_eq_true (show (0 : Int) ≤ l by omega), decide_eq_true (show (l : Int) < 41 by omega)]
  rfl
theorem con_L : con "LEVELS" = some (.int 41) := rfl
theorem con_W : con "WORLD" = some (.int 1099511627776) := rfl
theorem con_T (d : Nat) : (Tb Ds con d).con = con := con_Tb _ _ d
theorem s_isblk (d : Nat) {S : Store} {p : PV} {k : Kt} {x : Xt} (ht : Typd S p) (hk : k (.bl (blkB p)) S) : (Tb Ds con (d + 4)).fn 5 [p] S k x := by
  show fnS (Tb Ds con (d + 3)) D_is_block _ _ _ _
  refine ⟨rfl, ?_⟩
  show sSs _ _ [some p] _ _
  simp only [D_is_block, w_asg, w_par, w_seti, w_aug, w_exp, w_ret, w_retn, w_ife, w_pas, w_brk, w_cnt, w_nil, w_cons, w_len_loc, w_len_tup, w_len_frl, w_abs, w_max, w_min, w_int, w_str, w_tup_tup, w_tup_frl, w_tup_loc, w_lst_tup, w_lst_frl, w_lst_loc, w_add, w_addT, w_addS, w_addL, w_sub, w_mul, w_mulT, w_mulL, w_div, w_mod, w_pow, w_shl, w_shr, w_aadd, w_asub, w_amul, w_lt, w_le, w_gt, w_ge, w_eq, w_ne, w_eqB, w_neB, w_neg, w_truB, w_truI, w_truN, w_truT, w_truF, w_truL, w_chn, w_ixT, w_ixF, w_ixI, w_ixS, w_setS, w_setI, w_app, w_pop, w_ext, w_mtTy, w_isiB, w_isiI, w_isiN, w_isiS, w_isiT, w_isiF, w_isiL, w_sub_int_int, w_sub_bl_int, w_sub_bl_bl, w_sub_int_bl, w_sub_tup_int, w_sub_tup_tup, w_sub_int_tup, w_sub_bl_tup, w_sub_lst_lst, w_itT, w_itF, w_itL, w_rng1, w_rng2, w_tgN, w_tg2, w_tg3, w_ifS0, w_ifS1, atI_0, atI_1, atI_2, atI_3, atI_4, sE, sEs, sB, sI, getE, setE, con_T, con_L, con_W]
  by_cases hp : ∃ xs, p = .tup xs
  · obtain ⟨xs, rfl⟩ := hp
    simp only [w_asg, w_par, w_seti, w_aug, w_exp, w_ret, w_retn, w_ife, w_pas, w_brk, w_cnt, w_nil, w_cons, w_len_loc, w_len_tup, w_len_frl, w_abs, w_max, w_min, w_int, w_str, w_tup_tup, w_tup_frl, w_tup_loc, w_lst_tup, w_lst_frl, w_lst_loc, w_add, w_addT, w_addS, w_addL, w_sub, w_mul, w_mulT, w_mulL, w_div, w_mod, w_pow, w_shl, w_shr, w_aadd, w_asub, w_amul, w_lt, w_le, w_gt, w_ge, w_eq, w_ne, w_eqB, w_neB, w_neg, w_truB, w_truI, w_truN, w_truT, w_truF, w_truL, w_chn, w_ixT, w_ixF, w_ixI, w_ixS, w_setS, w_setI, w_app, w_pop, w_ext, w_mtTy, w_isiB, w_isiI, w_isiN, w_isiS, w_isiT, w_isiF, w_isiL, w_sub_int_int, w_sub_bl_int, w_sub_bl_bl, w_sub_int_bl, w_sub_tup_int, w_sub_tup_tup, w_sub_int_tup, w_sub_bl_tup, w_sub_lst_lst, w_itT, w_itF, w_itL, w_rng1, w_rng2, w_tgN, w_tg2, w_tg3, w_ifS0, w_ifS1, atI_0, atI_1, atI_2, atI_3, atI_4, sE, sEs, sB, sI, getE, setE, Bool.not_true, Bool.false_eq_true, if_false]
    match xs, ht, hk with
    | [], ht, hk => exact ⟨_, sub_refl _, hk⟩
    | [u1], ht, hk =>
      have e2 : blkB (.tup [u1]) = false := by cases u1 <;> rfl
      rw [e2] at hk
      exact ⟨_, sub_refl _, hk⟩
    | u :: v :: w :: r, ht, hk =>
      have e : decide (((u :: v :: w :: r).length : Int) = 2) = false := decide_eq_false (by simp only [List.length_cons]; omega)
      have e2 : blkB (.tup (u :: v :: w :: r)) = false := by cases u <;> cases v <;> rfl
      rw [e2] at hk
      simp only [e, Bool.not_false, if_true]
      exact ⟨_, sub_refl _, hk⟩
    | [u, v], ht, hk =>
      obtain ⟨tu, hu⟩ := ht u (by simp)
      obtain ⟨tv, hv⟩ := ht v (by simp)
      have e : decide ((([u, v] : List PV).length : Int) = 2) = true := rfl
      simp only [e, Bool.not_true, Bool.false_eq_true, if_false, if_true, w_asg, w_par, w_seti, w_aug, w_exp, w_ret, w_retn, w_ife, w_pas, w_brk, w_cnt, w_nil, w_cons, w_len_loc, w_len_tup, w_len_frl, w_abs, w_max, w_min, w_int, w_str, w_tup_tup, w_tup_frl, w_tup_loc, w_lst_tup, w_lst_frl, w_lst_loc, w_add, w_addT, w_addS, w_addL, w_sub, w_mul, w_mulT, w_mulL, w_div, w_mod, w_pow, w_shl, w_shr, w_aadd, w_asub, w_amul, w_lt, w_le, w_gt, w_ge, w_eq, w_ne, w_eqB, w_neB, w_neg, w_truB, w_truI, w_truN, w_truT, w_truF, w_truL, w_chn, w_ixT, w_ixF, w_ixI, w_ixS, w_setS, w_setI, w_app, w_pop, w_ext, w_mtTy, w_isiB, w_isiI, w_isiN, w_isiS, w_isiT, w_isiF, w_isiL, w_sub_int_int, w_sub_bl_int, w_sub_bl_bl, w_sub_int_bl, w_sub_tup_int, w_sub_tup_tup, w_sub_int_tup, w_sub_bl_tup, w_sub_lst_lst, w_itT, w_itF, w_itL, w_rng1, w_rng2, w_tgN, w_tg2, w_tg3, w_ifS0, w_ifS1, atI_0, atI_1, atI_2, atI_3, atI_4, sE, sEs, sB, sI, getE, setE]
      refine s_number _ hu ?_
      simp only [w_asg, w_par, w_seti, w_aug, w_exp, w_ret, w_retn, w_ife, w_pas, w_brk, w_cnt, w_nil, w_cons, w_len_loc, w_len_tup, w_len_frl, w_abs, w_max, w_min, w_int, w_str, w_tup_tup, w_tup_frl, w_tup_loc, w_lst_tup, w_lst_frl, w_lst_loc, w_add, w_addT, w_addS, w_addL, w_sub, w_mul, w_mulT, w_mulL, w_div, w_mod, w_pow, w_shl, w_shr, w_aadd, w_asub, w_amul, w_lt, w_le, w_gt, w_ge, w_eq, w_ne, w_eqB, w_neB, w_neg, w_truB, w_truI, w_truN, w_truT, w_truF, w_truL, w_chn, w_ixT, w_ixF, w_ixI, w_ixS, w_setS, w_setI, w_app, w_pop, w_ext, w_mtTy, w_isiB, w_isiI, w_isiN, w_isiS, w_isiT, w_isiF, w_isiL, w_sub_int_int, w_sub_bl_int, w_sub_bl_bl, w_sub_int_bl, w_sub_tup_int, w_sub_tup_tup, w_sub_int_tup, w_sub_bl_tup, w_sub_lst_lst, w_itT, w_itF, w_itL, w_rng1, w_rng2, w_tgN, w_tg2, w_tg3, w_ifS0, w_ifS1, atI_0, atI_1, atI_2, atI_3, atI_4, sE, sEs, sB, sI, getE, setE]
      cases e1 : numB u with
      | false =>
        rw [blk_f1 e1] at hk
        simp only [Bool.not_false, Bool.true_eq_false, if_true, if_false]
        exact ⟨_, sub_refl _, hk⟩
      | true =>
        simp only [Bool.not_true, Bool.false_eq_true, if_true, if_false]
        refine s_below _ hv ?_
        simp only [w_asg, w_par, w_seti, w_aug, w_exp, w_ret, w_retn, w_ife, w_pas, w_brk, w_cnt, w_nil, w_cons, w_len_loc, w_len_tup, w_len_frl, w_abs, w_max, w_min, w_int, w_str, w_tup_tup, w_tup_frl, w_tup_loc, w_lst_tup, w_lst_frl, w_lst_loc, w_add, w_addT, w_addS, w_addL, w_sub, w_mul, w_mulT, w_mulL, w_div, w_mod, w_pow, w_shl, w_shr, w_aadd, w_asub, w_amul, w_lt, w_le, w_gt, w_ge, w_eq, w_ne, w_eqB, w_neB, w_neg, w_truB, w_truI, w_truN, w_truT, w_truF, w_truL, w_chn, w_ixT, w_ixF, w_ixI, w_ixS, w_setS, w_setI, w_app, w_pop, w_ext, w_mtTy, w_isiB, w_isiI, w_isiN, w_isiS, w_isiT, w_isiF, w_isiL, w_sub_int_int, w_sub_bl_int, w_sub_bl_bl, w_sub_int_bl, w_sub_tup_int, w_sub_tup_tup, w_sub_int_tup, w_sub_bl_tup, w_sub_lst_lst, w_itT, w_itF, w_itL, w_rng1, w_rng2, w_tgN, w_tg2, w_tg3, w_ifS0, w_ifS1, atI_0, atI_1, atI_2, atI_3, atI_4, sE, sEs, sB, sI, getE, setE]
        cases e2 : belB 41 v with
        | false =>
          rw [blk_f2 e2] at hk
          simp only [Bool.not_false, Bool.true_eq_false, if_true, if_false]
          exact ⟨_, sub_refl _, hk⟩
        | true =>
          obtain ⟨u, rfl⟩ := num_t e1
          obtain ⟨l, rfl, hl⟩ := bel_t (m := 41) e2
          rw [blk_t u l hl] at hk
          have h2 := two_pow_one l
          simp only [Bool.not_true, Bool.false_eq_true, if_false, Int.toNat_natCast, Int.one_mul, w_asg, w_par, w_seti, w_aug, w_exp, w_ret, w_retn, w_ife, w_pas, w_brk, w_cnt, w_nil, w_cons, w_len_loc, w_len_tup, w_len_frl, w_abs, w_max, w_min, w_int, w_str, w_tup_tup, w_tup_frl, w_tup_loc, w_lst_tup, w_lst_frl, w_lst_loc, w_add, w_addT, w_addS, w_addL, w_sub, w_mul, w_mulT, w_mulL, w_div, w_mod, w_pow, w_shl, w_shr, w_aadd, w_asub, w_amul, w_lt, w_le, w_gt, w_ge, w_eq, w_ne, w_eqB, w_neB, w_neg, w_truB, w_truI, w_truN, w_truT, w_truF, w_truL, w_chn, w_ixT, w_ixF, w_ixI, w_ixS, w_setS, w_setI, w_app, w_pop, w_ext, w_mtTy, w_isiB, w_isiI, w_isiN, w_isiS, w_isiT, w_isiF, w_isiL, w_sub_int_int, w_sub_bl_int, w_sub_bl_bl, w_sub_int_bl, w_sub_tup_int, w_sub_tup_tup, w_sub_int_tup, w_sub_bl_tup, w_sub_lst_lst, w_itT, w_itF, w_itL, w_rng1, w_rng2, w_tgN, w_tg2, w_tg3, w_ifS0, w_ifS1, atI_0, atI_1, atI_2, atI_3, atI_4, sE, sEs, sB, sI, getE, setE, decide_eq_true_eq]
          refine ⟨cpow_ok (by omega) (by omega) (by decide), by omega, ?_⟩
          split
          · rename_i h3
            rw [decide_eq_true h3, Bool.true_and] at hk
            exact ⟨cpow_ok (by omega) (by omega) (by decide), _, sub_refl _, hk⟩
          · rename_i h3
            rw [decide_eq_false h3, Bool.false_and] at hk
            rw [decide_eq_false h3]
            exact ⟨_, sub_refl _, hk⟩
  · have h1 : Typd S p = ∃ a, tyP p S = some a := by cases p <;> first | rfl | exact absurd ⟨_, rfl⟩ hp
    rw [h1] at ht
    obtain ⟨a, ht⟩ := ht
    have e1 : subT a .tup = false := by
      cases p <;> simp only [tyP] at ht
      case tup xs => exact absurd ⟨_, rfl⟩ hp
      case loc c =>
        cases e : S c with
        | none => rw [e] at ht; cases ht
        | some o => rw [e] at ht; cases o <;> (cases ht; rfl)
      all_goals (cases ht; rfl)
    have e2 : blkB p = false := by cases p <;> first | rfl | exact absurd ⟨_, rfl⟩ hp
    simp only [w_isi ht, e1, w_asg, w_par, w_seti, w_aug, w_exp, w_ret, w_retn, w_ife, w_pas, w_brk, w_cnt, w_nil, w_cons, w_len_loc, w_len_tup, w_len_frl, w_abs, w_max, w_min, w_int, w_str, w_tup_tup, w_tup_frl, w_tup_loc, w_lst_tup, w_lst_frl, w_lst_loc, w_add, w_addT, w_addS, w_addL, w_sub, w_mul, w_mulT, w_mulL, w_div, w_mod, w_pow, w_shl, w_shr, w_aadd, w_asub, w_amul, w_lt, w_le, w_gt, w_ge, w_eq, w_ne, w_eqB, w_neB, w_neg, w_truB, w_truI, w_truN, w_truT, w_truF, w_truL, w_chn, w_ixT, w_ixF, w_ixI, w_ixS, w_setS, w_setI, w_app, w_pop, w_ext, w_mtTy, w_isiB, w_isiI, w_isiN, w_isiS, w_isiT, w_isiF, w_isiL, w_sub_int_int, w_sub_bl_int, w_sub_bl_bl, w_sub_int_bl, w_sub_tup_int, w_sub_tup_tup, w_sub_int_tup, w_sub_bl_tup, w_sub_lst_lst, w_itT, w_itF, w_itL, w_rng1, w_rng2, w_tgN, w_tg2, w_tg3, w_ifS0, w_ifS1, atI_0, atI_1, atI_2, atI_3, atI_4, sE, sEs, sB, sI, getE, setE, Bool.not_false, if_true]
    rw [e2] at hk
    exact ⟨_, sub_refl _, hk⟩
end K01
namespace K01
open PySem PySem.Spec PyProof.Rows L2 PL
theorem isI_t {u : PV} (h : isI u = true) : ∃ i, u = .int i := by cases u <;> first | exact ⟨_, rfl⟩ | cases h
theorem blk_g1 {u v : PV} (h : isI u = false) : blkB (.tup [u, v]) = false := by cases u <;> cases v <;> first | rfl | cases h
theorem blk_g2 {u v : PV} (h : isI v = false) : blkB (.tup [u, v]) = false := by cases u <;> cases v <;> first | rfl | cases h
theorem s_lisblk (d : Nat) {S : Store} {p : PV} {k : Kt} {x : Xt} (ht : Typd S p) (hk : k (.bl (blkB p)) S) : (Tb Ds con (d + 3)).fn 16 [p] S k x := by
  show fnS (Tb Ds con (d + 2)) D__law_is_block _ _ _ _
  refine ⟨rfl, ?_⟩
  show sSs _ _ [some p, none] _ _
  simp only [D__law_is_block, w_asg, w_par, w_seti, w_aug, w_exp, w_ret, w_retn, w_ife, w_pas, w_brk, w_cnt, w_nil, w_cons, w_len_loc, w_len_tup, w_len_frl, w_abs, w_max, w_min, w_int, w_str, w_tup_tup, w_tup_frl, w_tup_loc, w_lst_tup, w_lst_frl, w_lst_loc, w_add, w_addT, w_addS, w_addL, w_sub, w_mul, w_mulT, w_mulL, w_div, w_mod, w_pow, w_shl, w_shr, w_aadd, w_asub, w_amul, w_lt, w_le, w_gt, w_ge, w_eq, w_ne, w_eqB, w_neB, w_neg, w_truB, w_truI, w_truN, w_truT, w_truF, w_truL, w_chn, w_ixT, w_ixF, w_ixI, w_ixS, w_setS, w_setI, w_app, w_pop, w_ext, w_mtTy, w_isiB, w_isiI, w_isiN, w_isiS, w_isiT, w_isiF, w_isiL, w_sub_int_int, w_sub_bl_int, w_sub_bl_bl, w_sub_int_bl, w_sub_tup_int, w_sub_tup_tup, w_sub_int_tup, w_sub_bl_tup, w_sub_lst_lst, w_itT, w_itF, w_itL, w_rng1, w_rng2, w_tgN, w_tg2, w_tg3, w_ifS0, w_ifS1, atI_0, atI_1, atI_2, atI_3, atI_4, sE, sEs, sB, sI, getE, setE, con_T, con_L, con_W]
  by_cases hp : ∃ xs, p = .tup xs
  · obtain ⟨xs, rfl⟩ := hp
    simp only [w_asg, w_par, w_seti, w_aug, w_exp, w_ret, w_retn, w_ife, w_pas, w_brk, w_cnt, w_nil, w_cons, w_len_loc, w_len_tup, w_len_frl, w_abs, w_max, w_min, w_int, w_str, w_tup_tup, w_tup_frl, w_tup_loc, w_lst_tup, w_lst_frl, w_lst_loc, w_add, w_addT, w_addS, w_addL, w_sub, w_mul, w_mulT, w_mulL, w_div, w_mod, w_pow, w_shl, w_shr, w_aadd, w_asub, w_amul, w_lt, w_le, w_gt, w_ge, w_eq, w_ne, w_eqB, w_neB, w_neg, w_truB, w_truI, w_truN, w_truT, w_truF, w_truL, w_chn, w_ixT, w_ixF, w_ixI, w_ixS, w_setS, w_setI, w_app, w_pop, w_ext, w_mtTy, w_isiB, w_isiI, w_isiN, w_isiS, w_isiT, w_isiF, w_isiL, w_sub_int_int, w_sub_bl_int, w_sub_bl_bl, w_sub_int_bl, w_sub_tup_int, w_sub_tup_tup, w_sub_int_tup, w_sub_bl_tup, w_sub_lst_lst, w_itT, w_itF, w_itL, w_rng1, w_rng2, w_tgN, w_tg2, w_tg3, w_ifS0, w_ifS1, atI_0, atI_1, atI_2, atI_3, atI_4, sE, sEs, sB, sI, getE, setE, Bool.not_true, Bool.false_eq_true, if_false]
    match xs, ht, hk with
    | [], ht, hk => exact ⟨_, sub_refl _, hk⟩
    | [u1], ht, hk =>
      have e2 : blkB (.tup [u1]) = false := by cases u1 <;> rfl
      rw [e2] at hk
      exact ⟨_, sub_refl _, hk⟩
    | u :: v :: w :: r, ht, hk =>
      have e : decide (((u :: v :: w :: r).length : Int) = 2) = false := decide_eq_false (by simp only [List.length_cons]; omega)
      have e2 : blkB (.tup (u :: v :: w :: r)) = false := by cases u <;> cases v <;> rfl
      rw [e2] at hk
      simp only [e, Bool.not_false, Bool.true_eq_false, if_true, if_false]
      exact ⟨_, sub_refl _, hk⟩
    | [u, v], ht, hk =>
      obtain ⟨tu, hu⟩ := ht u (by simp)
      obtain ⟨tv, hv⟩ := ht v (by simp)
      have e : decide ((([u, v] : List PV).length : Int) = 2) = true := rfl
      simp only [e, Bool.not_true, Bool.false_eq_true, if_false, if_true, w_asg, w_par, w_seti, w_aug, w_exp, w_ret, w_retn, w_ife, w_pas, w_brk, w_cnt, w_nil, w_cons, w_len_loc, w_len_tup, w_len_frl, w_abs, w_max, w_min, w_int, w_str, w_tup_tup, w_tup_frl, w_tup_loc, w_lst_tup, w_lst_frl, w_lst_loc, w_add, w_addT, w_addS, w_addL, w_sub, w_mul, w_mulT, w_mulL, w_div, w_mod, w_pow, w_shl, w_shr, w_aadd, w_asub, w_amul, w_lt, w_le, w_gt, w_ge, w_eq, w_ne, w_eqB, w_neB, w_neg, w_truB, w_truI, w_truN, w_truT, w_truF, w_truL, w_chn, w_ixT, w_ixF, w_ixI, w_ixS, w_setS, w_setI, w_app, w_pop, w_ext, w_mtTy, w_isiB, w_isiI, w_isiN, w_isiS, w_isiT, w_isiF, w_isiL, w_sub_int_int, w_sub_bl_int, w_sub_bl_bl, w_sub_int_bl, w_sub_tup_int, w_sub_tup_tup, w_sub_int_tup, w_sub_bl_tup, w_sub_lst_lst, w_itT, w_itF, w_itL, w_rng1, w_rng2, w_tgN, w_tg2, w_tg3, w_ifS0, w_ifS1, atI_0, atI_1, atI_2, atI_3, atI_4, sE, sEs, sB, sI, getE, setE]
      refine s_integer _ hu ?_
      simp only [w_asg, w_par, w_seti, w_aug, w_exp, w_ret, w_retn, w_ife, w_pas, w_brk, w_cnt, w_nil, w_cons, w_len_loc, w_len_tup, w_len_frl, w_abs, w_max, w_min, w_int, w_str, w_tup_tup, w_tup_frl, w_tup_loc, w_lst_tup, w_lst_frl, w_lst_loc, w_add, w_addT, w_addS, w_addL, w_sub, w_mul, w_mulT, w_mulL, w_div, w_mod, w_pow, w_shl, w_shr, w_aadd, w_asub, w_amul, w_lt, w_le, w_gt, w_ge, w_eq, w_ne, w_eqB, w_neB, w_neg, w_truB, w_truI, w_truN, w_truT, w_truF, w_truL, w_chn, w_ixT, w_ixF, w_ixI, w_ixS, w_setS, w_setI, w_app, w_pop, w_ext, w_mtTy, w_isiB, w_isiI, w_isiN, w_isiS, w_isiT, w_isiF, w_isiL, w_sub_int_int, w_sub_bl_int, w_sub_bl_bl, w_sub_int_bl, w_sub_tup_int, w_sub_tup_tup, w_sub_int_tup, w_sub_bl_tup, w_sub_lst_lst, w_itT, w_itF, w_itL, w_rng1, w_rng2, w_tgN, w_tg2, w_tg3, w_ifS0, w_ifS1, atI_0, atI_1, atI_2, atI_3, atI_4, sE, sEs, sB, sI, getE, setE]
      cases e1 : isI u with
      | false =>
        rw [blk_g1 e1] at hk
        simp only [Bool.not_false, Bool.true_eq_false, if_true, if_false]
        exact ⟨_, sub_refl _, hk⟩
      | true =>
        simp only [Bool.not_true, Bool.false_eq_true, if_true, if_false]
        refine s_integer _ hv ?_
        simp only [w_asg, w_par, w_seti, w_aug, w_exp, w_ret, w_retn, w_ife, w_pas, w_brk, w_cnt, w_nil, w_cons, w_len_loc, w_len_tup, w_len_frl, w_abs, w_max, w_min, w_int, w_str, w_tup_tup, w_tup_frl, w_tup_loc, w_lst_tup, w_lst_frl, w_lst_loc, w_add, w_addT, w_addS, w_addL, w_sub, w_mul, w_mulT, w_mulL, w_div, w_mod, w_pow, w_shl, w_shr, w_aadd, w_asub, w_amul, w_lt, w_le, w_gt, w_ge, w_eq, w_ne, w_eqB, w_neB, w_neg, w_truB, w_truI, w_truN, w_truT, w_truF, w_truL, w_chn, w_ixT, w_ixF, w_ixI, w_ixS, w_setS, w_setI, w_app, w_pop, w_ext, w_mtTy, w_isiB, w_isiI, w_isiN, w_isiS, w_isiT, w_isiF, w_isiL, w_sub_int_int, w_sub_bl_int, w_sub_bl_bl, w_sub_int_bl, w_sub_tup_int, w_sub_tup_tup, w_sub_int_tup, w_sub_bl_tup, w_sub_lst_lst, w_itT, w_itF, w_itL, w_rng1, w_rng2, w_tgN, w_tg2, w_tg3, w_ifS0, w_ifS1, atI_0, atI_1, atI_2, atI_3, atI_4, sE, sEs, sB, sI, getE, setE]
        cases e2 : isI v with
        | false =>
          rw [blk_g2 e2] at hk
          simp only [Bool.not_false, Bool.true_eq_false, if_true, if_false]
          exact ⟨_, sub_refl _, hk⟩
        | true =>
          obtain ⟨u, rfl⟩ := isI_t e1
          obtain ⟨l, rfl⟩ := isI_t e2
          simp only [Bool.not_true, Bool.false_eq_true, if_false, w_asg, w_par, w_seti, w_aug, w_exp, w_ret, w_retn, w_ife, w_pas, w_brk, w_cnt, w_nil, w_cons, w_len_loc, w_len_tup, w_len_frl, w_abs, w_max, w_min, w_int, w_str, w_tup_tup, w_tup_frl, w_tup_loc, w_lst_tup, w_lst_frl, w_lst_loc, w_add, w_addT, w_addS, w_addL, w_sub, w_mul, w_mulT, w_mulL, w_div, w_mod, w_pow, w_shl, w_shr, w_aadd, w_asub, w_amul, w_lt, w_le, w_gt, w_ge, w_eq, w_ne, w_eqB, w_neB, w_neg, w_truB, w_truI, w_truN, w_truT, w_truF, w_truL, w_chn, w_ixT, w_ixF, w_ixI, w_ixS, w_setS, w_setI, w_app, w_pop, w_ext, w_mtTy, w_isiB, w_isiI, w_isiN, w_isiS, w_isiT, w_isiF, w_isiL, w_sub_int_int, w_sub_bl_int, w_sub_bl_bl, w_sub_int_bl, w_sub_tup_int, w_sub_tup_tup, w_sub_int_tup, w_sub_bl_tup, w_sub_lst_lst, w_itT, w_itF, w_itL, w_rng1, w_rng2, w_tgN, w_tg2, w_tg3, w_ifS0, w_ifS1, atI_0, atI_1, atI_2, atI_3, atI_4, sE, sEs, sB, sI, getE, setE, decide_eq_true_eq]
          by_cases h1 : 0 ≤ l ∧ l ≤ 40
          · obtain ⟨l, rfl⟩ := Int.eq_ofNat_of_zero_le h1.1
            simp only [h1.1, if_true, w_asg, w_par, w_seti, w_aug, w_exp, w_ret, w_retn, w_ife, w_pas, w_brk, w_cnt, w_nil, w_cons, w_len_loc, w_len_tup, w_len_frl, w_abs, w_max, w_min, w_int, w_str, w_tup_tup, w_tup_frl, w_tup_loc, w_lst_tup, w_lst_frl, w_lst_loc, w_add, w_addT, w_addS, w_addL, w_sub, w_mul, w_mulT, w_mulL, w_div, w_mod, w_pow, w_shl, w_shr, w_aadd, w_asub, w_amul, w_lt, w_le, w_gt, w_ge, w_eq, w_ne, w_eqB, w_neB, w_neg, w_truB, w_truI, w_truN, w_truT, w_truF, w_truL, w_chn, w_ixT, w_ixF, w_ixI, w_ixS, w_setS, w_setI, w_app, w_pop, w_ext, w_mtTy, w_isiB, w_isiI, w_isiN, w_isiS, w_isiT, w_isiF, w_isiL, w_sub_int_int, w_sub_bl_int, w_sub_bl_bl, w_sub_int_bl, w_sub_tup_int, w_sub_tup_tup, w_sub_int_tup, w_sub_bl_tup, w_sub_lst_lst, w_itT, w_itF, w_itL, w_rng1, w_rng2, w_tgN, w_tg2, w_tg3, w_ifS0, w_ifS1, atI_0, atI_1, atI_2, atI_3, atI_4, sE, sEs, sB, sI, getE, setE, decide_eq_true h1.2, Bool.not_true, decide_eq_true_eq]
            by_cases h2 : u < 0
            · have e3 : numB (.int u) = false := decide_eq_false (by omega)
              rw [blk_f1 e3] at hk
              simp only [h2, if_true]
              exact ⟨_, sub_refl _, hk⟩
            · obtain ⟨u, rfl⟩ := Int.eq_ofNat_of_zero_le (Int.not_lt.mp h2)
              simp only [h2, if_false]
              refine s_power _ (by omega) ?_
              simp only [w_asg, w_par, w_seti, w_aug, w_exp, w_ret, w_retn, w_ife, w_pas, w_brk, w_cnt, w_nil, w_cons, w_len_loc, w_len_tup, w_len_frl, w_abs, w_max, w_min, w_int, w_str, w_tup_tup, w_tup_frl, w_tup_loc, w_lst_tup, w_lst_frl, w_lst_loc, w_add, w_addT, w_addS, w_addL, w_sub, w_mul, w_mulT, w_mulL, w_div, w_mod, w_pow, w_shl, w_shr, w_aadd, w_asub, w_amul, w_lt, w_le, w_gt, w_ge, w_eq, w_ne, w_eqB, w_neB, w_neg, w_truB, w_truI, w_truN, w_truT, w_truF, w_truL, w_chn, w_ixT, w_ixF, w_ixI, w_ixS, w_setS, w_setI, w_app, w_pop, w_ext, w_mtTy, w_isiB, w_isiI, w_isiN, w_isiS, w_isiT, w_isiF, w_isiL, w_sub_int_int, w_sub_bl_int, w_sub_bl_bl, w_sub_int_bl, w_sub_tup_int, w_sub_tup_tup, w_sub_int_tup, w_sub_bl_tup, w_sub_lst_lst, w_itT, w_itF, w_itL, w_rng1, w_rng2, w_tgN, w_tg2, w_tg3, w_ifS0, w_ifS1, atI_0, atI_1, atI_2, atI_3, atI_4, sE, sEs, sB, sI, getE, setE, decide_eq_true_eq]
              rw [blk_t u l (by omega)] at hk
              have h3 := two_pow_one l
              refine ⟨by omega, ?_⟩
              split
              · rename_i h4
                rw [decide_eq_true h4, Bool.true_and] at hk
                refine s_power _ (n := 40) (by omega) ?_
                try simp only [w_asg, w_par, w_seti, w_aug, w_exp, w_ret, w_retn, w_ife, w_pas, w_brk, w_cnt, w_nil, w_cons, w_len_loc, w_len_tup, w_len_frl, w_abs, w_max, w_min, w_int, w_str, w_tup_tup, w_tup_frl, w_tup_loc, w_lst_tup, w_lst_frl, w_lst_loc, w_add, w_addT, w_addS, w_addL, w_sub, w_mul, w_mulT, w_mulL, w_div, w_mod, w_pow, w_shl, w_shr, w_aadd, w_asub, w_amul, w_lt, w_le, w_gt, w_ge, w_eq, w_ne, w_eqB, w_neB, w_neg, w_truB, w_truI, w_truN, w_truT, w_truF, w_truL, w_chn, w_ixT, w_ixF, w_ixI, w_ixS, w_setS, w_setI, w_app, w_pop, w_ext, w_mtTy, w_isiB, w_isiI, w_isiN, w_isiS, w_isiT, w_isiF, w_isiL, w_sub_int_int, w_sub_bl_int, w_sub_bl_bl, w_sub_int_bl, w_sub_tup_int, w_sub_tup_tup, w_sub_int_tup, w_sub_bl_tup, w_sub_lst_lst, w_itT, w_itF, w_itL, w_rng1, w_rng2, w_tgN, w_tg2, w_tg3, w_ifS0, w_ifS1, atI_0, atI_1, atI_2, atI_3, atI_4, sE, sEs, sB, sI, getE, setE]
                exact ⟨_, sub_refl _, hk⟩
              · rename_i h4
                rw [decide_eq_false h4, Bool.false_and] at hk
                rw [decide_eq_false h4]
                exact ⟨_, sub_refl _, hk⟩
          · have e3 : belB 41 (.int l) = false := by
              show (decide (0 ≤ l) && decide (l < 41)) = false
              rw [Bool.eq_false_iff]; intro z; apply h1; simp at z; omega
            rw [blk_f2 e3] at hk
            by_cases h2 : 0 ≤ l
            · have h3 : decide (l ≤ 40) = false := decide_eq_false (by omega)
              simp only [h2, if_true, h3, Bool.not_false, w_asg, w_par, w_seti, w_aug, w_exp, w_ret, w_retn, w_ife, w_pas, w_brk, w_cnt, w_nil, w_cons, w_len_loc, w_len_tup, w_len_frl, w_abs, w_max, w_min, w_int, w_str, w_tup_tup, w_tup_frl, w_tup_loc, w_lst_tup, w_lst_frl, w_lst_loc, w_add, w_addT, w_addS, w_addL, w_sub, w_mul, w_mulT, w_mulL, w_div, w_mod, w_pow, w_shl, w_shr, w_aadd, w_asub, w_amul, w_lt, w_le, w_gt, w_ge, w_eq, w_ne, w_eqB, w_neB, w_neg, w_truB, w_truI, w_truN, w_truT, w_truF, w_truL, w_chn, w_ixT, w_ixF, w_ixI, w_ixS, w_setS, w_setI, w_app, w_pop, w_ext, w_mtTy, w_isiB, w_isiI, w_isiN, w_isiS, w_isiT, w_isiF, w_isiL, w_sub_int_int, w_sub_bl_int, w_sub_bl_bl, w_sub_int_bl, w_sub_tup_int, w_sub_tup_tup, w_sub_int_tup, w_sub_bl_tup, w_sub_lst_lst, w_itT, w_itF, w_itL, w_rng1, w_rng2, w_tgN, w_tg2, w_tg3, w_ifS0, w_ifS1, atI_0, atI_1, atI_2, atI_3, atI_4, sE, sEs, sB, sI, getE, setE, Bool.true_eq_false, if_false]
              exact ⟨_, sub_refl _, hk⟩
            · simp only [h2, if_false, Bool.not_false, w_asg, w_par, w_seti, w_aug, w_exp, w_ret, w_retn, w_ife, w_pas, w_brk, w_cnt, w_nil, w_cons, w_len_loc, w_len_tup, w_len_frl, w_abs, w_max, w_min, w_int, w_str, w_tup_tup, w_tup_frl, w_tup_loc, w_lst_tup, w_lst_frl, w_lst_loc, w_add, w_addT, w_addS, w_addL, w_sub, w_mul, w_mulT, w_mulL, w_div, w_mod, w_pow, w_shl, w_shr, w_aadd, w_asub, w_amul, w_lt, w_le, w_gt, w_ge, w_eq, w_ne, w_eqB, w_neB, w_neg, w_truB, w_truI, w_truN, w_truT, w_truF, w_truL, w_chn, w_ixT, w_ixF, w_ixI, w_ixS, w_setS, w_setI, w_app, w_pop, w_ext, w_mtTy, w_isiB, w_isiI, w_isiN, w_isiS, w_isiT, w_isiF, w_isiL, w_sub_int_int, w_sub_bl_int, w_sub_bl_bl, w_sub_int_bl, w_sub_tup_int, w_sub_tup_tup, w_sub_int_tup, w_sub_bl_tup, w_sub_lst_lst, w_itT, w_itF, w_itL, w_rng1, w_rng2, w_tgN, w_tg2, w_tg3, w_ifS0, w_ifS1, atI_0, atI_1, atI_2, atI_3, atI_4, sE, sEs, sB, sI, getE, setE, Bool.true_eq_false, if_true]
              exact ⟨_, sub_refl _, hk⟩
  · have h1 : Typd S p = ∃ a, tyP p S = some a := by cases p <;> first | rfl | exact absurd ⟨_, rfl⟩ hp
    rw [h1] at ht
    obtain ⟨a, ht⟩ := ht
    have e1 : subT a .tup = false := by
      cases p <;> simp only [tyP] at ht
      case tup xs => exact absurd ⟨_, rfl⟩ hp
      case loc c =>
        cases e : S c with
        | none => rw [e] at ht; cases ht
        | some o => rw [e] at ht; cases o <;> (cases ht; rfl)
      all_goals (cases ht; rfl)
    have e2 : blkB p = false := by cases p <;> first | rfl | exact absurd ⟨_, rfl⟩ hp
    simp only [w_isi ht, e1, w_asg, w_par, w_seti, w_aug, w_exp, w_ret, w_retn, w_ife, w_pas, w_brk, w_cnt, w_nil, w_cons, w_len_loc, w_len_tup, w_len_frl, w_abs, w_max, w_min, w_int, w_str, w_tup_tup, w_tup_frl, w_tup_loc, w_lst_tup, w_lst_frl, w_lst_loc, w_add, w_addT, w_addS, w_addL, w_sub, w_mul, w_mulT, w_mulL, w_div, w_mod, w_pow, w_shl, w_shr, w_aadd, w_asub, w_amul, w_lt, w_le, w_gt, w_ge, w_eq, w_ne, w_eqB, w_neB, w_neg, w_truB, w_truI, w_truN, w_truT, w_truF, w_truL, w_chn, w_ixT, w_ixF, w_ixI, w_ixS, w_setS, w_setI, w_app, w_pop, w_ext, w_mtTy, w_isiB, w_isiI, w_isiN, w_isiS, w_isiT, w_isiF, w_isiL, w_sub_int_int, w_sub_bl_int, w_sub_bl_bl, w_sub_int_bl, w_sub_tup_int, w_sub_tup_tup, w_sub_int_tup, w_sub_bl_tup, w_sub_lst_lst, w_itT, w_itF, w_itL, w_rng1, w_rng2, w_tgN, w_tg2, w_tg3, w_ifS0, w_ifS1, atI_0, atI_1, atI_2, atI_3, atI_4, sE, sEs, sB, sI, getE, setE, Bool.not_false, if_true, Bool.true_eq_false, if_false]
    rw [e2] at hk
    exact ⟨_, sub_refl _, hk⟩
def nlB : PV → Bool
  | .loc _ => false
  | _ => true
def typB : PV → Bool
  | .loc _ => false
  | .tup xs => xs.all nlB
  | _ => true
theorem ty_nl {S : Store} {p : PV} (h : nlB p = true) : ∃ a, tyP p S = some a := by cases p <;> first | exact ⟨_, rfl⟩ | cases h
theorem typd_of {S : Store} {p : PV} (h : typB p = true) : Typd S p := by
  cases p <;> first | exact ⟨_, rfl⟩ | cases h | skip
  rename_i xs
  intro p hp
  exact ty_nl (List.all_eq_true.mp h p hp)
theorem s_bent (d : Nat) {S : Store} {a b : Addr} {u : Int} {l : Nat} {k : Kt} {x : Xt} (t : TileAt S a b) (hl : l ≤ 40) (hk : ∀ p S', TileAt S' a b → Typd S' p → k p S') :
    (Tb Ds con (d + 3)).fn 17 [.loc a, bk u l] S k x := by
  show fnS (Tb Ds con (d + 2)) D__law_bent _ _ _ _
  refine ⟨rfl, ?_⟩
  show sSs _ _ [some (.loc a), some (.tup [.int u, .int l]), none, none, none] _ _
  simp only [D__law_bent, w_asg, w_par, w_seti, w_aug, w_exp, w_ret, w_retn, w_ife, w_pas, w_brk, w_cnt, w_nil, w_cons, w_len_loc, w_len_tup, w_len_frl, w_abs, w_max, w_min, w_int, w_str, w_tup_tup, w_tup_frl, w_tup_loc, w_lst_tup, w_lst_frl, w_lst_loc, w_add, w_addT, w_addS, w_addL, w_sub, w_mul, w_mulT, w_mulL, w_div, w_mod, w_pow, w_shl, w_shr, w_aadd, w_asub, w_amul, w_lt, w_le, w_gt, w_ge, w_eq, w_ne, w_eqB, w_neB, w_neg, w_truB, w_truI, w_truN, w_truT, w_truF, w_truL, w_chn, w_ixT, w_ixF, w_ixI, w_ixS, w_setS, w_setI, w_app, w_pop, w_ext, w_mtTy, w_isiB, w_isiI, w_isiN, w_isiS, w_isiT, w_isiF, w_isiL, w_sub_int_int, w_sub_bl_int, w_sub_bl_bl, w_sub_int_bl, w_sub_tup_int, w_sub_tup_tup, w_sub_int_tup, w_sub_bl_tup, w_sub_lst_lst, w_itT, w_itF, w_itL, w_rng1, w_rng2, w_tgN, w_tg2, w_tg3, w_ifS0, w_ifS1, atI_0, atI_1, atI_2, atI_3, atI_4, sE, sEs, sB, sI, getE, setE]
  refine s_power _ (by omega) ?_
  simp only [w_asg, w_par, w_seti, w_aug, w_exp, w_ret, w_retn, w_ife, w_pas, w_brk, w_cnt, w_nil, w_cons, w_len_loc, w_len_tup, w_len_frl, w_abs, w_max, w_min, w_int, w_str, w_tup_tup, w_tup_frl, w_tup_loc, w_lst_tup, w_lst_frl, w_lst_loc, w_add, w_addT, w_addS, w_addL, w_sub, w_mul, w_mulT, w_mulL, w_div, w_mod, w_pow, w_shl, w_shr, w_aadd, w_asub, w_amul, w_lt, w_le, w_gt, w_ge, w_eq, w_ne, w_eqB, w_neB, w_neg, w_truB, w_truI, w_truN, w_truT, w_truF, w_truL, w_chn, w_ixT, w_ixF, w_ixI, w_ixS, w_setS, w_setI, w_app, w_pop, w_ext, w_mtTy, w_isiB, w_isiI, w_isiN, w_isiS, w_isiT, w_isiF, w_isiL, w_sub_int_int, w_sub_bl_int, w_sub_bl_bl, w_sub_int_bl, w_sub_tup_int, w_sub_tup_tup, w_sub_int_tup, w_sub_bl_tup, w_sub_lst_lst, w_itT, w_itF, w_itL, w_rng1, w_rng2, w_tgN, w_tg2, w_tg3, w_ifS0, w_ifS1, atI_0, atI_1, atI_2, atI_3, atI_4, sE, sEs, sB, sI, getE, setE]
  intro q hq
  have t' : ∀ o, TileAt (sup S q o) a b := fun o => by
    obtain ⟨ne, ⟨g, f, hd⟩, ns, hl, hn, hz⟩ := t
    have n1 : a ≠ q := fun z => by rw [z, hq] at hd; cases hd
    have n2 : b ≠ q := fun z => by rw [z, hq] at hl; cases hl
    exact ⟨ne, ⟨g, f, by rw [sup_ne n1, hd]⟩, ns, by rw [sup_ne n2, hl], hn, hz⟩
  have nq : q ≠ a ∧ q ≠ b := by
    obtain ⟨ne, ⟨g, f, hd⟩, ns, hl, hn, hz⟩ := t
    exact ⟨(fun z => by rw [z, hd] at hq; cases hq), (fun z => by rw [z, hl] at hq; cases hq)⟩
  have hs : ((l : Int)).natAbs.log2 < 1920 := by
    rw [Int.natAbs_natCast]
    rcases Nat.eq_zero_or_pos l with z | z
    · subst z; decide
    · exact (Nat.log2_lt (by omega)).mpr (Nat.lt_of_le_of_lt hl (Nat.lt_of_lt_of_le (by decide : 40 < 2 ^ 6) (Nat.pow_le_pow_right (by decide) (by decide))))
  refine ⟨hs, ?_⟩
  refine s_power _ (n := 40) (by omega) ?_
  try simp only [w_asg, w_par, w_seti, w_aug, w_exp, w_ret, w_retn, w_ife, w_pas, w_brk, w_cnt, w_nil, w_cons, w_len_loc, w_len_tup, w_len_frl, w_abs, w_max, w_min, w_int, w_str, w_tup_tup, w_tup_frl, w_tup_loc, w_lst_tup, w_lst_frl, w_lst_loc, w_add, w_addT, w_addS, w_addL, w_sub, w_mul, w_mulT, w_mulL, w_div, w_mod, w_pow, w_shl, w_shr, w_aadd, w_asub, w_amul, w_lt, w_le, w_gt, w_ge, w_eq, w_ne, w_eqB, w_neB, w_neg, w_truB, w_truI, w_truN, w_truT, w_truF, w_truL, w_chn, w_ixT, w_ixF, w_ixI, w_ixS, w_setS, w_setI, w_app, w_pop, w_ext, w_mtTy, w_isiB, w_isiI, w_isiN, w_isiS, w_isiT, w_isiF, w_isiL, w_sub_int_int, w_sub_bl_int, w_sub_bl_bl, w_sub_int_bl, w_sub_tup_int, w_sub_tup_tup, w_sub_int_tup, w_sub_bl_tup, w_sub_lst_lst, w_itT, w_itF, w_itL, w_rng1, w_rng2, w_tgN, w_tg2, w_tg3, w_ifS0, w_ifS1, atI_0, atI_1, atI_2, atI_3, atI_4, sE, sEs, sB, sI, getE, setE]
  refine ⟨⟨by decide, lt9000 (by decide)⟩, mulOk_l (by decide) (by decide), cpow_ok (by decide) (by decide) (by decide), cpow_ok (by decide) (by decide) (by decide), cpow_ok (by decide) (by decide) (by decide), ?_⟩
  refine s_of _ (t' _) (by simp) (by simp) fun p S' hp t2 fr => ?_
  refine ⟨_, sub_refl _, hk _ _ t2 ?_⟩
  by_cases hl : p = .loc q
  · subst hl
    exact ⟨.lst, by simp only [tyP]; rw [fr q nq.1 nq.2, sup_same]⟩
  · apply typd_of
    simp only [List.mem_cons, List.not_mem_nil, or_false] at hp
    rcases hp with rfl | rfl | rfl | rfl | rfl | rfl | rfl | rfl | rfl | rfl | rfl | rfl | rfl | rfl | rfl | rfl | rfl | rfl | rfl | rfl | rfl | rfl | rfl | rfl | rfl <;> first | rfl | exact absurd rfl hl
def plainB : Nat → PV → Bool
  | _, .int _ => true
  | _, .bl _ => true
  | n + 1, .tup xs => decide (xs.length ≤ 1000) && xs.all (plainB n)
  | _, _ => false
theorem s_same : ∀ (n d : Nat) {S : Store} {p : PV} {k : Kt} {x : Xt} (hp : plainB n p = true) (hk : k (.bl true) S), (Tb Ds con (d + n + 1)).fn 18 [p, p] S k x
  | n, d, S, .int i, k, x, hp, hk => by
    show fnS (Tb Ds con (d + n)) D__law_same _ _ _ _
    refine ⟨rfl, ?_⟩
    show sSs _ _ [some (.int i), some (.int i), none] _ _
    simp only [D__law_same, w_asg, w_par, w_seti, w_aug, w_exp, w_ret, w_retn, w_ife, w_pas, w_brk, w_cnt, w_nil, w_cons, w_len_loc, w_len_tup, w_len_frl, w_abs, w_max, w_min, w_int, w_str, w_tup_tup, w_tup_frl, w_tup_loc, w_lst_tup, w_lst_frl, w_lst_loc, w_add, w_addT, w_addS, w_addL, w_sub, w_mul, w_mulT, w_mulL, w_div, w_mod, w_pow, w_shl, w_shr, w_aadd, w_asub, w_amul, w_lt, w_le, w_gt, w_ge, w_eq, w_ne, w_eqB, w_neB, w_neg, w_truB, w_truI, w_truN, w_truT, w_truF, w_truL, w_chn, w_ixT, w_ixF, w_ixI, w_ixS, w_setS, w_setI, w_app, w_pop, w_ext, w_mtTy, w_isiB, w_isiI, w_isiN, w_isiS, w_isiT, w_isiF, w_isiL, w_sub_int_int, w_sub_bl_int, w_sub_bl_bl, w_sub_int_bl, w_sub_tup_int, w_sub_tup_tup, w_sub_int_tup, w_sub_bl_tup, w_sub_lst_lst, w_itT, w_itF, w_itL, w_rng1, w_rng2, w_tgN, w_tg2, w_tg3, w_ifS0, w_ifS1, atI_0, atI_1, atI_2, atI_3, atI_4, sE, sEs, sB, sI, getE, setE, Bool.false_eq_true, if_false, if_true, decide_true]
    exact ⟨_, sub_refl _, hk⟩
  | n, d, S, .bl i, k, x, hp, hk => by
    show fnS (Tb Ds con (d + n)) D__law_same _ _ _ _
    refine ⟨rfl, ?_⟩
    show sSs _ _ [some (.bl i), some (.bl i), none] _ _
    simp only [D__law_same, w_asg, w_par, w_seti, w_aug, w_exp, w_ret, w_retn, w_ife, w_pas, w_brk, w_cnt, w_nil, w_cons, w_len_loc, w_len_tup, w_len_frl, w_abs, w_max, w_min, w_int, w_str, w_tup_tup, w_tup_frl, w_tup_loc, w_lst_tup, w_lst_frl, w_lst_loc, w_add, w_addT, w_addS, w_addL, w_sub, w_mul, w_mulT, w_mulL, w_div, w_mod, w_pow, w_shl, w_shr, w_aadd, w_asub, w_amul, w_lt, w_le, w_gt, w_ge, w_eq, w_ne, w_eqB, w_neB, w_neg, w_truB, w_truI, w_truN, w_truT, w_truF, w_truL, w_chn, w_ixT, w_ixF, w_ixI, w_ixS, w_setS, w_setI, w_app, w_pop, w_ext, w_mtTy, w_isiB, w_isiI, w_isiN, w_isiS, w_isiT, w_isiF, w_isiL, w_sub_int_int, w_sub_bl_int, w_sub_bl_bl, w_sub_int_bl, w_sub_tup_int, w_sub_tup_tup, w_sub_int_tup, w_sub_bl_tup, w_sub_lst_lst, w_itT, w_itF, w_itL, w_rng1, w_rng2, w_tgN, w_tg2, w_tg3, w_ifS0, w_ifS1, atI_0, atI_1, atI_2, atI_3, atI_4, sE, sEs, sB, sI, getE, setE, Bool.false_eq_true, if_false, if_true, decide_true]
    exact ⟨_, sub_refl _, hk⟩
  | 0, d, S, .tup xs, k, x, hp, hk => by cases hp
  | n + 1, d, S, .tup xs, k, x, hp, hk => by
    simp only [plainB, Bool.and_eq_true, decide_eq_true_eq, List.all_eq_true] at hp
    show fnS (Tb Ds con (d + n + 1)) D__law_same _ _ _ _
    refine ⟨rfl, ?_⟩
    show sSs _ _ [some (.tup xs), some (.tup xs), none] _ _
    simp only [D__law_same, w_asg, w_par, w_seti, w_aug, w_exp, w_ret, w_retn, w_ife, w_pas, w_brk, w_cnt, w_nil, w_cons, w_len_loc, w_len_tup, w_len_frl, w_abs, w_max, w_min, w_int, w_str, w_tup_tup, w_tup_frl, w_tup_loc, w_lst_tup, w_lst_frl, w_lst_loc, w_add, w_addT, w_addS, w_addL, w_sub, w_mul, w_mulT, w_mulL, w_div, w_mod, w_pow, w_shl, w_shr, w_aadd, w_asub, w_amul, w_lt, w_le, w_gt, w_ge, w_eq, w_ne, w_eqB, w_neB, w_neg, w_truB, w_truI, w_truN, w_truT, w_truF, w_truL, w_chn, w_ixT, w_ixF, w_ixI, w_ixS, w_setS, w_setI, w_app, w_pop, w_ext, w_mtTy, w_isiB, w_isiI, w_isiN, w_isiS, w_isiT, w_isiF, w_isiL, w_sub_int_int, w_sub_bl_int, w_sub_bl_bl, w_sub_int_bl, w_sub_tup_int, w_sub_tup_tup, w_sub_int_tup, w_sub_bl_tup, w_sub_lst_lst, w_itT, w_itF, w_itL, w_rng1, w_rng2, w_tgN, w_tg2, w_tg3, w_ifS0, w_ifS1, atI_0, atI_1, atI_2, atI_3, atI_4, sE, sEs, sB, sI, getE, setE, if_true, decide_true]
    refine ⟨⟨by omega, by omega⟩, by rw [rngL_len, Int.toNat_natCast]; exact Nat.le_trans hp.1 (by decide), ?_⟩
    refine loopC_inv0 (fun i acc S' => acc = [] ∧ S' = S) ⟨rfl, rfl⟩ ?_ ?_
    · rintro i p acc S' hi ⟨rfl, rfl⟩
      obtain ⟨hi2, rfl⟩ := rngL_get hi
      rw [Int.toNat_natCast] at hi2
      refine ⟨trivial, fun nxt hn => ?_⟩
      have e : atI xs (0 + (i : Int)) = some (xs[i]'hi2) := by rw [Int.zero_add]; exact atI_nat (by simp [hi2])
      simp only [wipeE, w_asg, w_par, w_seti, w_aug, w_exp, w_ret, w_retn, w_ife, w_pas, w_brk, w_cnt, w_nil, w_cons, w_len_loc, w_len_tup, w_len_frl, w_abs, w_max, w_min, w_int, w_str, w_tup_tup, w_tup_frl, w_tup_loc, w_lst_tup, w_lst_frl, w_lst_loc, w_add, w_addT, w_addS, w_addL, w_sub, w_mul, w_mulT, w_mulL, w_div, w_mod, w_pow, w_shl, w_shr, w_aadd, w_asub, w_amul, w_lt, w_le, w_gt, w_ge, w_eq, w_ne, w_eqB, w_neB, w_neg, w_truB, w_truI, w_truN, w_truT, w_truF, w_truL, w_chn, w_ixT, w_ixF, w_ixI, w_ixS, w_setS, w_setI, w_app, w_pop, w_ext, w_mtTy, w_isiB, w_isiI, w_isiN, w_isiS, w_isiT, w_isiF, w_isiL, w_sub_int_int, w_sub_bl_int, w_sub_bl_bl, w_sub_int_bl, w_sub_tup_int, w_sub_tup_tup, w_sub_int_tup, w_sub_bl_tup, w_sub_lst_lst, w_itT, w_itF, w_itL, w_rng1, w_rng2, w_tgN, w_tg2, w_tg3, w_ifS0, w_ifS1, atI_0, atI_1, atI_2, atI_3, atI_4, sE, sEs, sB, sI, getE, setE, e]
      refine s_same n d (hp.2 _ (List.getElem_mem hi2)) ?_
      simp only [w_asg, w_par, w_seti, w_aug, w_exp, w_ret, w_retn, w_ife, w_pas, w_brk, w_cnt, w_nil, w_cons, w_len_loc, w_len_tup, w_len_frl, w_abs, w_max, w_min, w_int, w_str, w_tup_tup, w_tup_frl, w_tup_loc, w_lst_tup, w_lst_frl, w_lst_loc, w_add, w_addT, w_addS, w_addL, w_sub, w_mul, w_mulT, w_mulL, w_div, w_mod, w_pow, w_shl, w_shr, w_aadd, w_asub, w_amul, w_lt, w_le, w_gt, w_ge, w_eq, w_ne, w_eqB, w_neB, w_neg, w_truB, w_truI, w_truN, w_truT, w_truF, w_truL, w_chn, w_ixT, w_ixF, w_ixI, w_ixS, w_setS, w_setI, w_app, w_pop, w_ext, w_mtTy, w_isiB, w_isiI, w_isiN, w_isiS, w_isiT, w_isiF, w_isiL, w_sub_int_int, w_sub_bl_int, w_sub_bl_bl, w_sub_int_bl, w_sub_tup_int, w_sub_tup_tup, w_sub_int_tup, w_sub_bl_tup, w_sub_lst_lst, w_itT, w_itF, w_itL, w_rng1, w_rng2, w_tgN, w_tg2, w_tg3, w_ifS0, w_ifS1, atI_0, atI_1, atI_2, atI_3, atI_4, sE, sEs, sB, sI, getE, setE, Bool.not_true, Bool.false_eq_true, if_false]
      exact hn none _ ⟨rfl, rfl⟩
    · rintro acc S' ⟨rfl, rfl⟩
      refine ⟨trivial, fun q hq => ?_⟩
      simp only [w_asg, w_par, w_seti, w_aug, w_exp, w_ret, w_retn, w_ife, w_pas, w_brk, w_cnt, w_nil, w_cons, w_len_loc, w_len_tup, w_len_frl, w_abs, w_max, w_min, w_int, w_str, w_tup_tup, w_tup_frl, w_tup_loc, w_lst_tup, w_lst_frl, w_lst_loc, w_add, w_addT, w_addS, w_addL, w_sub, w_mul, w_mulT, w_mulL, w_div, w_mod, w_pow, w_shl, w_shr, w_aadd, w_asub, w_amul, w_lt, w_le, w_gt, w_ge, w_eq, w_ne, w_eqB, w_neB, w_neg, w_truB, w_truI, w_truN, w_truT, w_truF, w_truL, w_chn, w_ixT, w_ixF, w_ixI, w_ixS, w_setS, w_setI, w_app, w_pop, w_ext, w_mtTy, w_isiB, w_isiI, w_isiN, w_isiS, w_isiT, w_isiF, w_isiL, w_sub_int_int, w_sub_bl_int, w_sub_bl_bl, w_sub_int_bl, w_sub_tup_int, w_sub_tup_tup, w_sub_int_tup, w_sub_bl_tup, w_sub_lst_lst, w_itT, w_itF, w_itL, w_rng1, w_rng2, w_tgN, w_tg2, w_tg3, w_ifS0, w_ifS1, atI_0, atI_1, atI_2, atI_3, atI_4, sE, sEs, sB, sI, getE, setE, sup_same, List.length_nil]
      exact ⟨_, sub_sup hq, hk⟩
  | n, d, S, .non, k, x, hp, hk => by simp [plainB] at hp
  | n, d, S, .str _, k, x, hp, hk => by simp [plainB] at hp
  | n, d, S, .frl _, k, x, hp, hk => by simp [plainB] at hp
  | n, d, S, .loc _, k, x, hp, hk => by simp [plainB] at hp
end K01
namespace K01
open PySem PySem.Spec PyProof.Rows L2 PL
theorem s_tile (d : Nat) {S : Store} {ns : List Int} {k : Kt} {x : Xt} (hz : ns.length ≤ 63) (hk : ∀ a b S', TileAt S' a b → k (.loc a) S') : (Tb Ds con (d + 1)).fn 9 [.frl (ns.map .int)] S k x := by
  show fnS (Tb Ds con d) D__law_tile _ _ _ _
  refine ⟨rfl, ?_⟩
  show sSs _ _ [some (.frl (ns.map .int)), none, none, none] _ _
  simp only [D__law_tile, w_for, w_asg, w_par, w_seti, w_aug, w_exp, w_ret, w_retn, w_ife, w_pas, w_brk, w_cnt, w_nil, w_cons, w_len_loc, w_len_tup, w_len_frl, w_abs, w_max, w_min, w_int, w_str, w_tup_tup, w_tup_frl, w_tup_loc, w_lst_tup, w_lst_frl, w_lst_loc, w_add, w_addT, w_addS, w_addL, w_sub, w_mul, w_mulT, w_mulL, w_div, w_mod, w_pow, w_shl, w_shr, w_aadd, w_asub, w_amul, w_lt, w_le, w_gt, w_ge, w_eq, w_ne, w_eqB, w_neB, w_neg, w_truB, w_truI, w_truN, w_truT, w_truF, w_truL, w_chn, w_ixT, w_ixF, w_ixI, w_ixS, w_setS, w_setI, w_app, w_pop, w_ext, w_mtTy, w_isiB, w_isiI, w_isiN, w_isiS, w_isiT, w_isiF, w_isiL, w_sub_int_int, w_sub_bl_int, w_sub_bl_bl, w_sub_int_bl, w_sub_tup_int, w_sub_tup_tup, w_sub_int_tup, w_sub_bl_tup, w_sub_lst_lst, w_itT, w_itF, w_itL, w_rng1, w_rng2, w_tgN, w_tg2, w_tg3, w_ifS0, w_ifS1, atI_0, atI_1, atI_2, atI_3, atI_4, sE, sEs, sB, sI, getE, setE]
  intro b hb a ha
  have ne : a ≠ b := fun z => by rw [z, sup_same] at ha; cases ha
  simp only [w_asg, w_par, w_seti, w_aug, w_exp, w_ret, w_retn, w_ife, w_pas, w_brk, w_cnt, w_nil, w_cons, w_len_loc, w_len_tup, w_len_frl, w_abs, w_max, w_min, w_int, w_str, w_tup_tup, w_tup_frl, w_tup_loc, w_lst_tup, w_lst_frl, w_lst_loc, w_add, w_addT, w_addS, w_addL, w_sub, w_mul, w_mulT, w_mulL, w_div, w_mod, w_pow, w_shl, w_shr, w_aadd, w_asub, w_amul, w_lt, w_le, w_gt, w_ge, w_eq, w_ne, w_eqB, w_neB, w_neg, w_truB, w_truI, w_truN, w_truT, w_truF, w_truL, w_chn, w_ixT, w_ixF, w_ixI, w_ixS, w_setS, w_setI, w_app, w_pop, w_ext, w_mtTy, w_isiB, w_isiI, w_isiN, w_isiS, w_isiT, w_isiF, w_isiL, w_sub_int_int, w_sub_bl_int, w_sub_bl_bl, w_sub_int_bl, w_sub_tup_int, w_sub_tup_tup, w_sub_int_tup, w_sub_bl_tup, w_sub_lst_lst, w_itT, w_itF, w_itL, w_rng1, w_rng2, w_tgN, w_tg2, w_tg3, w_ifS0, w_ifS1, atI_0, atI_1, atI_2, atI_3, atI_4, sE, sEs, sB, sI, getE, setE, List.length_map]
  refine ⟨by constructor <;> split <;> omega, ?_⟩
  generalize hm : (if ((ns.length : Nat) : Int) < 60 then ((ns.length : Nat) : Int) else 60) = m
  obtain ⟨m, rfl⟩ : ∃ n : Nat, m = n := ⟨m.toNat, by rw [← hm]; split <;> omega⟩
  have hm1 : m ≤ 60 ∧ m ≤ ns.length := by split at hm <;> omega
  rw [Int.toNat_natCast]
  refine runFor_inv0 (fun i env S' => (∃ o o', env = [some (.frl (ns.map .int)), some (.loc a), o, o']) ∧ (∃ g f, S' a = some (dicT b g f)) ∧ ∃ ms : List Int, S' b = some (.lst (ms.map .int)) ∧ (∀ n ∈ ms, 0 ≤ n) ∧ ms.length ≤ i) ⟨⟨_, _, rfl⟩, ⟨_, _, sup_same⟩, [], by rw [sup_ne ne.symm, sup_same]; rfl, by simp, by simp⟩ ?_ ?_
  · rintro i p env S' hi ⟨⟨o, o', rfl⟩, ⟨g, f, hd⟩, ms, hl, hn, hms⟩
    obtain ⟨hi, rfl⟩ := rngL_get hi
    refine ⟨trivial, fun nxt hx => ?_⟩
    have e : atI (List.map PV.int ns) (0 + (i : Int)) = some (.int (ns[i]'(by omega))) := by rw [Int.zero_add]; exact atI_nat (by simp [show i < ns.length by omega])
    simp only [w_asg, w_par, w_seti, w_aug, w_exp, w_ret, w_retn, w_ife, w_pas, w_brk, w_cnt, w_nil, w_cons, w_len_loc, w_len_tup, w_len_frl, w_abs, w_max, w_min, w_int, w_str, w_tup_tup, w_tup_frl, w_tup_loc, w_lst_tup, w_lst_frl, w_lst_loc, w_add, w_addT, w_addS, w_addL, w_sub, w_mul, w_mulT, w_mulL, w_div, w_mod, w_pow, w_shl, w_shr, w_aadd, w_asub, w_amul, w_lt, w_le, w_gt, w_ge, w_eq, w_ne, w_eqB, w_neB, w_neg, w_truB, w_truI, w_truN, w_truT, w_truF, w_truL, w_chn, w_ixT, w_ixF, w_ixI, w_ixS, w_setS, w_setI, w_app, w_pop, w_ext, w_mtTy, w_isiB, w_isiI, w_isiN, w_isiS, w_isiT, w_isiF, w_isiL, w_sub_int_int, w_sub_bl_int, w_sub_bl_bl, w_sub_int_bl, w_sub_tup_int, w_sub_tup_tup, w_sub_int_tup, w_sub_bl_tup, w_sub_lst_lst, w_itT, w_itF, w_itL, w_rng1, w_rng2, w_tgN, w_tg2, w_tg3, w_ifS0, w_ifS1, atI_0, atI_1, atI_2, atI_3, atI_4, sE, sEs, sB, sI, getE, setE, e, hd, k_kiln, k_glaze, k_fires, p_glaze, p_fires, sup_same, decide_eq_true_eq]
    generalize ns[i]'(by omega) = z
    generalize (if z < 0 then -z else z) = z
    refine ⟨mulOk_r (by decide) (by decide), by decide, mulOk_l (by decide) (by decide), by decide, len3, cpow_ok (by decide) (by decide) (by decide), ?_⟩
    split
    · simp only [sup_ne ne.symm, hl]
      refine ⟨trivial, cpow_ok (by decide) (by decide) (by decide), ?_, ?_, ?_⟩
      · rw [show (1 : Int) * 2 ^ Int.toNat 640 = 2 ^ 640 from Int.one_mul _]
        have := two_pow_one 640
        omega
      · rw [List.length_map]; exact Nat.lt_of_le_of_lt (by omega : ms.length ≤ 60) (by decide)
      · refine hx _ _ ⟨⟨_, _, rfl⟩, ⟨_, _, by rw [sup_ne ne, sup_same]⟩, ms ++ [_], by rw [sup_same, PL.ints_snoc], ?_, by simp; omega⟩
        intro n h
        rcases List.mem_append.mp h with h | h
        · exact hn n h
        · rw [List.mem_singleton.mp h]
          refine Int.emod_nonneg _ ?_
          rw [show (1 : Int) * 2 ^ Int.toNat 640 = 2 ^ 640 from Int.one_mul _]
          have := two_pow_one 640
          omega
    · exact hx _ _ ⟨⟨_, _, rfl⟩, ⟨_, _, sup_same⟩, ms, by rw [sup_ne ne.symm, hl], hn, by omega⟩
  · rintro env S' ⟨⟨o, o', rfl⟩, ⟨g, f, hd⟩, ms, hl, hn, hms⟩
    refine ⟨trivial, ?_⟩
    try simp only [w_asg, w_par, w_seti, w_aug, w_exp, w_ret, w_retn, w_ife, w_pas, w_brk, w_cnt, w_nil, w_cons, w_len_loc, w_len_tup, w_len_frl, w_abs, w_max, w_min, w_int, w_str, w_tup_tup, w_tup_frl, w_tup_loc, w_lst_tup, w_lst_frl, w_lst_loc, w_add, w_addT, w_addS, w_addL, w_sub, w_mul, w_mulT, w_mulL, w_div, w_mod, w_pow, w_shl, w_shr, w_aadd, w_asub, w_amul, w_lt, w_le, w_gt, w_ge, w_eq, w_ne, w_eqB, w_neB, w_neg, w_truB, w_truI, w_truN, w_truT, w_truF, w_truL, w_chn, w_ixT, w_ixF, w_ixI, w_ixS, w_setS, w_setI, w_app, w_pop, w_ext, w_mtTy, w_isiB, w_isiI, w_isiN, w_isiS, w_isiT, w_isiF, w_isiL, w_sub_int_int, w_sub_bl_int, w_sub_bl_bl, w_sub_int_bl, w_sub_tup_int, w_sub_tup_tup, w_sub_int_tup, w_sub_bl_tup, w_sub_lst_lst, w_itT, w_itF, w_itL, w_rng1, w_rng2, w_tgN, w_tg2, w_tg3, w_ifS0, w_ifS1, atI_0, atI_1, atI_2, atI_3, atI_4, sE, sEs, sB, sI, getE, setE]
    rw [rngL_len] at hms
    exact ⟨_, sub_refl _, hk a b _ ⟨ne, ⟨g, f, hd⟩, ms, hl, hn, by omega⟩⟩
theorem lv (sz : Int) (h1 : 1 ≤ sz) (h2 : sz ≤ 2 ^ 40) : ∃ L : Nat, L ≤ 40 ∧ (∀ i < L, (2 : Int) ^ i < sz) ∧ sz ≤ 2 ^ L := by
  have key : ∀ n : Nat, n ≤ 40 → (∃ L : Nat, L ≤ n ∧ (∀ i < L, (2 : Int) ^ i < sz) ∧ sz ≤ 2 ^ L) ∨ ∀ i ≤ n, (2 : Int) ^ i < sz := by
    intro n
    induction n with
    | zero =>
      intro _
      by_cases h : sz ≤ 2 ^ 0
      · exact .inl ⟨0, Nat.le_refl _, by simp, h⟩
      · exact .inr fun i hi => by rw [Nat.le_zero.mp hi]; omega
    | succ n ih =>
      intro hn
      rcases ih (by omega) with ⟨L, a, b, c⟩ | h
      · exact .inl ⟨L, by omega, b, c⟩
      · by_cases h' : sz ≤ 2 ^ (n + 1)
        · exact .inl ⟨n + 1, Nat.le_refl _, fun i hi => h i (by omega), h'⟩
        · refine .inr fun i hi => ?_
          rcases Nat.lt_or_ge i (n + 1) with z | z
          · exact h i (by omega)
          · rw [show i = n + 1 by omega]; omega
  rcases key 40 (Nat.le_refl _) with h | h
  · exact h
  · exact absurd (h 40 (Nat.le_refl _)) (by omega)
theorem s_sizes (d : Nat) {S : Store} {a b : Addr} {k : Kt} {x : Xt} (t : TileAt S a b) (hk : ∀ S', TileAt S' a b → k (.bl true) S') : (Tb Ds con (d + 4)).fn 21 [.loc a] S k x := by
  show fnS (Tb Ds con (d + 3)) D__law_sizes _ _ _ _
  refine ⟨rfl, ?_⟩
  show sSs _ _ [some (.loc a), none, none, none, none] _ _
  simp only [D__law_sizes, w_for, w_asg, w_par, w_seti, w_aug, w_exp, w_ret, w_retn, w_ife, w_pas, w_brk, w_cnt, w_nil, w_cons, w_len_loc, w_len_tup, w_len_frl, w_abs, w_max, w_min, w_int, w_str, w_tup_tup, w_tup_frl, w_tup_loc, w_lst_tup, w_lst_frl, w_lst_loc, w_add, w_addT, w_addS, w_addL, w_sub, w_mul, w_mulT, w_mulL, w_div, w_mod, w_pow, w_shl, w_shr, w_aadd, w_asub, w_amul, w_lt, w_le, w_gt, w_ge, w_eq, w_ne, w_eqB, w_neB, w_neg, w_truB, w_truI, w_truN, w_truT, w_truF, w_truL, w_chn, w_ixT, w_ixF, w_ixI, w_ixS, w_setS, w_setI, w_app, w_pop, w_ext, w_mtTy, w_isiB, w_isiI, w_isiN, w_isiS, w_isiT, w_isiF, w_isiL, w_sub_int_int, w_sub_bl_int, w_sub_bl_bl, w_sub_int_bl, w_sub_tup_int, w_sub_tup_tup, w_sub_int_tup, w_sub_bl_tup, w_sub_lst_lst, w_itT, w_itF, w_itL, w_rng1, w_rng2, w_tgN, w_tg2, w_tg3, w_ifS0, w_ifS1, atI_0, atI_1, atI_2, atI_3, atI_4, sE, sEs, sB, sI, getE, setE]
  refine s_glow _ t (by decide) (lt9000 (by decide)) fun n S1 t1 fr1 h2 h3 => ?_
  obtain ⟨l, rfl⟩ := Int.eq_ofNat_of_zero_le h2
  try simp only [w_asg, w_par, w_seti, w_aug, w_exp, w_ret, w_retn, w_ife, w_pas, w_brk, w_cnt, w_nil, w_cons, w_len_loc, w_len_tup, w_len_frl, w_abs, w_max, w_min, w_int, w_str, w_tup_tup, w_tup_frl, w_tup_loc, w_lst_tup, w_lst_frl, w_lst_loc, w_add, w_addT, w_addS, w_addL, w_sub, w_mul, w_mulT, w_mulL, w_div, w_mod, w_pow, w_shl, w_shr, w_aadd, w_asub, w_amul, w_lt, w_le, w_gt, w_ge, w_eq, w_ne, w_eqB, w_neB, w_neg, w_truB, w_truI, w_truN, w_truT, w_truF, w_truL, w_chn, w_ixT, w_ixF, w_ixI, w_ixS, w_setS, w_setI, w_app, w_pop, w_ext, w_mtTy, w_isiB, w_isiI, w_isiN, w_isiS, w_isiT, w_isiF, w_isiL, w_sub_int_int, w_sub_bl_int, w_sub_bl_bl, w_sub_int_bl, w_sub_tup_int, w_sub_tup_tup, w_sub_int_tup, w_sub_bl_tup, w_sub_lst_lst, w_itT, w_itF, w_itL, w_rng1, w_rng2, w_tgN, w_tg2, w_tg3, w_ifS0, w_ifS1, atI_0, atI_1, atI_2, atI_3, atI_4, sE, sEs, sB, sI, getE, setE]
  refine s_power _ (by omega) ?_
  have p1 := two_pow_one l
  have p2 : (2 : Int) ^ l ≤ 2 ^ 40 := two_pow_le (by omega)
  try simp only [w_asg, w_par, w_seti, w_aug, w_exp, w_ret, w_retn, w_ife, w_pas, w_brk, w_cnt, w_nil, w_cons, w_len_loc, w_len_tup, w_len_frl, w_abs, w_max, w_min, w_int, w_str, w_tup_tup, w_tup_frl, w_tup_loc, w_lst_tup, w_lst_frl, w_lst_loc, w_add, w_addT, w_addS, w_addL, w_sub, w_mul, w_mulT, w_mulL, w_div, w_mod, w_pow, w_shl, w_shr, w_aadd, w_asub, w_amul, w_lt, w_le, w_gt, w_ge, w_eq, w_ne, w_eqB, w_neB, w_neg, w_truB, w_truI, w_truN, w_truT, w_truF, w_truL, w_chn, w_ixT, w_ixF, w_ixI, w_ixS, w_setS, w_setI, w_app, w_pop, w_ext, w_mtTy, w_isiB, w_isiI, w_isiN, w_isiS, w_isiT, w_isiF, w_isiL, w_sub_int_int, w_sub_bl_int, w_sub_bl_bl, w_sub_int_bl, w_sub_tup_int, w_sub_tup_tup, w_sub_int_tup, w_sub_bl_tup, w_sub_lst_lst, w_itT, w_itF, w_itL, w_rng1, w_rng2, w_tgN, w_tg2, w_tg3, w_ifS0, w_ifS1, atI_0, atI_1, atI_2, atI_3, atI_4, sE, sEs, sB, sI, getE, setE]
  refine s_power _ (n := 40) (by omega) ?_
  simp only [w_asg, w_par, w_seti, w_aug, w_exp, w_ret, w_retn, w_ife, w_pas, w_brk, w_cnt, w_nil, w_cons, w_len_loc, w_len_tup, w_len_frl, w_abs, w_max, w_min, w_int, w_str, w_tup_tup, w_tup_frl, w_tup_loc, w_lst_tup, w_lst_frl, w_lst_loc, w_add, w_addT, w_addS, w_addL, w_sub, w_mul, w_mulT, w_mulL, w_div, w_mod, w_pow, w_shl, w_shr, w_aadd, w_asub, w_amul, w_lt, w_le, w_gt, w_ge, w_eq, w_ne, w_eqB, w_neB, w_neg, w_truB, w_truI, w_truN, w_truT, w_truF, w_truL, w_chn, w_ixT, w_ixF, w_ixI, w_ixS, w_setS, w_setI, w_app, w_pop, w_ext, w_mtTy, w_isiB, w_isiI, w_isiN, w_isiS, w_isiT, w_isiF, w_isiL, w_sub_int_int, w_sub_bl_int, w_sub_bl_bl, w_sub_int_bl, w_sub_tup_int, w_sub_tup_tup, w_sub_int_tup, w_sub_bl_tup, w_sub_lst_lst, w_itT, w_itF, w_itL, w_rng1, w_rng2, w_tgN, w_tg2, w_tg3, w_ifS0, w_ifS1, atI_0, atI_1, atI_2, atI_3, atI_4, sE, sEs, sB, sI, getE, setE]
  refine s_glow _ t1 (by omega) (lt9000 (by omega)) fun n2 S2 t2 fr2 h4 h5 => ?_
  try simp only [w_asg, w_par, w_seti, w_aug, w_exp, w_ret, w_retn, w_ife, w_pas, w_brk, w_cnt, w_nil, w_cons, w_len_loc, w_len_tup, w_len_frl, w_abs, w_max, w_min, w_int, w_str, w_tup_tup, w_tup_frl, w_tup_loc, w_lst_tup, w_lst_frl, w_lst_loc, w_add, w_addT, w_addS, w_addL, w_sub, w_mul, w_mulT, w_mulL, w_div, w_mod, w_pow, w_shl, w_shr, w_aadd, w_asub, w_amul, w_lt, w_le, w_gt, w_ge, w_eq, w_ne, w_eqB, w_neB, w_neg, w_truB, w_truI, w_truN, w_truT, w_truF, w_truL, w_chn, w_ixT, w_ixF, w_ixI, w_ixS, w_setS, w_setI, w_app, w_pop, w_ext, w_mtTy, w_isiB, w_isiI, w_isiN, w_isiS, w_isiT, w_isiF, w_isiL, w_sub_int_int, w_sub_bl_int, w_sub_bl_bl, w_sub_int_bl, w_sub_tup_int, w_sub_tup_tup, w_sub_int_tup, w_sub_bl_tup, w_sub_lst_lst, w_itT, w_itF, w_itL, w_rng1, w_rng2, w_tgN, w_tg2, w_tg3, w_ifS0, w_ifS1, atI_0, atI_1, atI_2, atI_3, atI_4, sE, sEs, sB, sI, getE, setE]
  refine s_power _ (n := 40) (by omega) ?_
  try simp only [w_asg, w_par, w_seti, w_aug, w_exp, w_ret, w_retn, w_ife, w_pas, w_brk, w_cnt, w_nil, w_cons, w_len_loc, w_len_tup, w_len_frl, w_abs, w_max, w_min, w_int, w_str, w_tup_tup, w_tup_frl, w_tup_loc, w_lst_tup, w_lst_frl, w_lst_loc, w_add, w_addT, w_addS, w_addL, w_sub, w_mul, w_mulT, w_mulL, w_div, w_mod, w_pow, w_shl, w_shr, w_aadd, w_asub, w_amul, w_lt, w_le, w_gt, w_ge, w_eq, w_ne, w_eqB, w_neB, w_neg, w_truB, w_truI, w_truN, w_truT, w_truF, w_truL, w_chn, w_ixT, w_ixF, w_ixI, w_ixS, w_setS, w_setI, w_app, w_pop, w_ext, w_mtTy, w_isiB, w_isiI, w_isiN, w_isiS, w_isiT, w_isiF, w_isiL, w_sub_int_int, w_sub_bl_int, w_sub_bl_bl, w_sub_int_bl, w_sub_tup_int, w_sub_tup_tup, w_sub_int_tup, w_sub_bl_tup, w_sub_lst_lst, w_itT, w_itF, w_itL, w_rng1, w_rng2, w_tgN, w_tg2, w_tg3, w_ifS0, w_ifS1, atI_0, atI_1, atI_2, atI_3, atI_4, sE, sEs, sB, sI, getE, setE]
  refine runFor_inv0 (fun i env S' => TileAt S' a b ∧ ∃ o o', env = [some (.loc a), some (.int l), some (.int (2 ^ l)), o, o']) ⟨t2, _, _, rfl⟩ ?_ ?_
  · rintro i p env S' hi ⟨t', o, o', rfl⟩
    have hp := List.mem_of_getElem? hi
    obtain ⟨sz, rfl, z1, z2⟩ : ∃ sz : Int, p = .int sz ∧ 1 ≤ sz ∧ sz ≤ 2 ^ 40 := by
      simp only [List.mem_cons, List.not_mem_nil, or_false] at hp
      rcases hp with rfl | rfl | rfl | rfl | rfl | rfl | rfl
      · exact ⟨_, rfl, by omega, by omega⟩
      · exact ⟨_, rfl, by omega, by omega⟩
      · exact ⟨_, rfl, by omega, by omega⟩
      · exact ⟨_, rfl, by split <;> omega, by split <;> omega⟩
      · exact ⟨_, rfl, by split <;> omega, by split <;> omega⟩
      · exact ⟨_, rfl, by omega, by omega⟩
      · exact ⟨_, rfl, by omega, by omega⟩
    obtain ⟨L, hL, g1, g2⟩ := lv sz z1 z2
    refine ⟨trivial, fun nxt hx => ?_⟩
    simp only [w_whl, w_asg, w_par, w_seti, w_aug, w_exp, w_ret, w_retn, w_ife, w_pas, w_brk, w_cnt, w_nil, w_cons, w_len_loc, w_len_tup, w_len_frl, w_abs, w_max, w_min, w_int, w_str, w_tup_tup, w_tup_frl, w_tup_loc, w_lst_tup, w_lst_frl, w_lst_loc, w_add, w_addT, w_addS, w_addL, w_sub, w_mul, w_mulT, w_mulL, w_div, w_mod, w_pow, w_shl, w_shr, w_aadd, w_asub, w_amul, w_lt, w_le, w_gt, w_ge, w_eq, w_ne, w_eqB, w_neB, w_neg, w_truB, w_truI, w_truN, w_truT, w_truF, w_truL, w_chn, w_ixT, w_ixF, w_ixI, w_ixS, w_setS, w_setI, w_app, w_pop, w_ext, w_mtTy, w_isiB, w_isiI, w_isiN, w_isiS, w_isiT, w_isiF, w_isiL, w_sub_int_int, w_sub_bl_int, w_sub_bl_bl, w_sub_int_bl, w_sub_tup_int, w_sub_tup_tup, w_sub_int_tup, w_sub_bl_tup, w_sub_lst_lst, w_itT, w_itF, w_itL, w_rng1, w_rng2, w_tgN, w_tg2, w_tg3, w_ifS0, w_ifS1, atI_0, atI_1, atI_2, atI_3, atI_4, sE, sEs, sB, sI, getE, setE]
    refine ⟨fun m env S'' => S'' = S' ∧ ∃ i : Nat, i ≤ L ∧ m = L - i ∧ env = [some (.loc a), some (.int l), some (.int (2 ^ l)), some (.int sz), some (.int i)], ⟨L, rfl, 0, Nat.zero_le _, rfl, rfl⟩, ?_⟩
    rintro m env S'' ⟨rfl, i, hi, rfl, rfl⟩
    simp only [w_asg, w_par, w_seti, w_aug, w_exp, w_ret, w_retn, w_ife, w_pas, w_brk, w_cnt, w_nil, w_cons, w_len_loc, w_len_tup, w_len_frl, w_abs, w_max, w_min, w_int, w_str, w_tup_tup, w_tup_frl, w_tup_loc, w_lst_tup, w_lst_frl, w_lst_loc, w_add, w_addT, w_addS, w_addL, w_sub, w_mul, w_mulT, w_mulL, w_div, w_mod, w_pow, w_shl, w_shr, w_aadd, w_asub, w_amul, w_lt, w_le, w_gt, w_ge, w_eq, w_ne, w_eqB, w_neB, w_neg, w_truB, w_truI, w_truN, w_truT, w_truF, w_truL, w_chn, w_ixT, w_ixF, w_ixI, w_ixS, w_setS, w_setI, w_app, w_pop, w_ext, w_mtTy, w_isiB, w_isiI, w_isiN, w_isiS, w_isiT, w_isiF, w_isiL, w_sub_int_int, w_sub_bl_int, w_sub_bl_bl, w_sub_int_bl, w_sub_tup_int, w_sub_tup_tup, w_sub_int_tup, w_sub_bl_tup, w_sub_lst_lst, w_itT, w_itF, w_itL, w_rng1, w_rng2, w_tgN, w_tg2, w_tg3, w_ifS0, w_ifS1, atI_0, atI_1, atI_2, atI_3, atI_4, sE, sEs, sB, sI, getE, setE]
    refine s_power _ (by omega) ?_
    simp only [w_asg, w_par, w_seti, w_aug, w_exp, w_ret, w_retn, w_ife, w_pas, w_brk, w_cnt, w_nil, w_cons, w_len_loc, w_len_tup, w_len_frl, w_abs, w_max, w_min, w_int, w_str, w_tup_tup, w_tup_frl, w_tup_loc, w_lst_tup, w_lst_frl, w_lst_loc, w_add, w_addT, w_addS, w_addL, w_sub, w_mul, w_mulT, w_mulL, w_div, w_mod, w_pow, w_shl, w_shr, w_aadd, w_asub, w_amul, w_lt, w_le, w_gt, w_ge, w_eq, w_ne, w_eqB, w_neB, w_neg, w_truB, w_truI, w_truN, w_truT, w_truF, w_truL, w_chn, w_ixT, w_ixF, w_ixI, w_ixS, w_setS, w_setI, w_app, w_pop, w_ext, w_mtTy, w_isiB, w_isiI, w_isiN, w_isiS, w_isiT, w_isiF, w_isiL, w_sub_int_int, w_sub_bl_int, w_sub_bl_bl, w_sub_int_bl, w_sub_tup_int, w_sub_tup_tup, w_sub_int_tup, w_sub_bl_tup, w_sub_lst_lst, w_itT, w_itF, w_itL, w_rng1, w_rng2, w_tgN, w_tg2, w_tg3, w_ifS0, w_ifS1, atI_0, atI_1, atI_2, atI_3, atI_4, sE, sEs, sB, sI, getE, setE, decide_eq_true_eq]
    split
    · rename_i hlt
      have hne : i ≠ L := fun z => by subst z; omega
      exact ⟨L - (i + 1), by omega, trivial, i + 1, by omega, rfl, rfl⟩
    · rename_i hlt
      have e : i = L := by
        rcases Nat.lt_or_ge i L with z | z
        · exact absurd (g1 i z) hlt
        · omega
      subst e
      refine s_level _ (by omega) g1 g2 ?_
      try simp only [w_asg, w_par, w_seti, w_aug, w_exp, w_ret, w_retn, w_ife, w_pas, w_brk, w_cnt, w_nil, w_cons, w_len_loc, w_len_tup, w_len_frl, w_abs, w_max, w_min, w_int, w_str, w_tup_tup, w_tup_frl, w_tup_loc, w_lst_tup, w_lst_frl, w_lst_loc, w_add, w_addT, w_addS, w_addL, w_sub, w_mul, w_mulT, w_mulL, w_div, w_mod, w_pow, w_shl, w_shr, w_aadd, w_asub, w_amul, w_lt, w_le, w_gt, w_ge, w_eq, w_ne, w_eqB, w_neB, w_neg, w_truB, w_truI, w_truN, w_truT, w_truF, w_truL, w_chn, w_ixT, w_ixF, w_ixI, w_ixS, w_setS, w_setI, w_app, w_pop, w_ext, w_mtTy, w_isiB, w_isiI, w_isiN, w_isiS, w_isiT, w_isiF, w_isiL, w_sub_int_int, w_sub_bl_int, w_sub_bl_bl, w_sub_int_bl, w_sub_tup_int, w_sub_tup_tup, w_sub_int_tup, w_sub_bl_tup, w_sub_lst_lst, w_itT, w_itF, w_itL, w_rng1, w_rng2, w_tgN, w_tg2, w_tg3, w_ifS0, w_ifS1, atI_0, atI_1, atI_2, atI_3, atI_4, sE, sEs, sB, sI, getE, setE]
      refine s_level _ (by omega) g1 g2 ?_
      try simp only [w_asg, w_par, w_seti, w_aug, w_exp, w_ret, w_retn, w_ife, w_pas, w_brk, w_cnt, w_nil, w_cons, w_len_loc, w_len_tup, w_len_frl, w_abs, w_max, w_min, w_int, w_str, w_tup_tup, w_tup_frl, w_tup_loc, w_lst_tup, w_lst_frl, w_lst_loc, w_add, w_addT, w_addS, w_addL, w_sub, w_mul, w_mulT, w_mulL, w_div, w_mod, w_pow, w_shl, w_shr, w_aadd, w_asub, w_amul, w_lt, w_le, w_gt, w_ge, w_eq, w_ne, w_eqB, w_neB, w_neg, w_truB, w_truI, w_truN, w_truT, w_truF, w_truL, w_chn, w_ixT, w_ixF, w_ixI, w_ixS, w_setS, w_setI, w_app, w_pop, w_ext, w_mtTy, w_isiB, w_isiI, w_isiN, w_isiS, w_isiT, w_isiF, w_isiL, w_sub_int_int, w_sub_bl_int, w_sub_bl_bl, w_sub_int_bl, w_sub_tup_int, w_sub_tup_tup, w_sub_int_tup, w_sub_bl_tup, w_sub_lst_lst, w_itT, w_itF, w_itL, w_rng1, w_rng2, w_tgN, w_tg2, w_tg3, w_ifS0, w_ifS1, atI_0, atI_1, atI_2, atI_3, atI_4, sE, sEs, sB, sI, getE, setE]
      refine s_same 1 _ (p := .tup [.int i, .int i]) rfl ?_
      simp only [w_asg, w_par, w_seti, w_aug, w_exp, w_ret, w_retn, w_ife, w_pas, w_brk, w_cnt, w_nil, w_cons, w_len_loc, w_len_tup, w_len_frl, w_abs, w_max, w_min, w_int, w_str, w_tup_tup, w_tup_frl, w_tup_loc, w_lst_tup, w_lst_frl, w_lst_loc, w_add, w_addT, w_addS, w_addL, w_sub, w_mul, w_mulT, w_mulL, w_div, w_mod, w_pow, w_shl, w_shr, w_aadd, w_asub, w_amul, w_lt, w_le, w_gt, w_ge, w_eq, w_ne, w_eqB, w_neB, w_neg, w_truB, w_truI, w_truN, w_truT, w_truF, w_truL, w_chn, w_ixT, w_ixF, w_ixI, w_ixS, w_setS, w_setI, w_app, w_pop, w_ext, w_mtTy, w_isiB, w_isiI, w_isiN, w_isiS, w_isiT, w_isiF, w_isiL, w_sub_int_int, w_sub_bl_int, w_sub_bl_bl, w_sub_int_bl, w_sub_tup_int, w_sub_tup_tup, w_sub_int_tup, w_sub_bl_tup, w_sub_lst_lst, w_itT, w_itF, w_itL, w_rng1, w_rng2, w_tgN, w_tg2, w_tg3, w_ifS0, w_ifS1, atI_0, atI_1, atI_2, atI_3, atI_4, sE, sEs, sB, sI, getE, setE, Bool.not_true, Bool.false_eq_true, if_false]
      exact hx _ _ ⟨t', _, _, rfl⟩
  · rintro env S' ⟨t', o, o', rfl⟩
    exact ⟨trivial, _, sub_refl _, hk _ t'⟩
end K01
namespace K01
open PySem PySem.Spec PyProof.Rows L2 PL
structure Hi (u : Int) (h : Nat) : Prop where
  a : u / 2 ^ h * 2 ^ h ≤ u
  b : u < u / 2 ^ h * 2 ^ h + 2 ^ h
  c : 0 ≤ u / 2 ^ h * 2 ^ h
  d : u / 2 ^ h * 2 ^ h + 2 ^ h ≤ 2 ^ 40
  e : u / 2 ^ h * 2 ^ h % 2 ^ h = 0
  f : u / 2 ^ h * 2 ^ h / 2 ^ 40 * 2 ^ 40 = 0
theorem hi_of {u : Int} {h : Nat} (h0 : 0 ≤ u) (h1 : u < 2 ^ 40) (hh : h ≤ 40) : Hi u h := by
  have p1 := two_pow_one h
  have e1 := Int.emod_add_mul_ediv u (2 ^ h)
  have e2 := Int.emod_nonneg u (show (2 : Int) ^ h ≠ 0 by omega)
  have e3 := Int.emod_lt_of_pos u (show (0 : Int) < 2 ^ h by omega)
  have e4 : (2 : Int) ^ h * (u / 2 ^ h) = u / 2 ^ h * 2 ^ h := Int.mul_comm _ _
  have e5 : 0 ≤ u / 2 ^ h := Int.ediv_nonneg h0 (by omega)
  have e6 : (2 : Int) ^ 40 = 2 ^ (40 - h) * 2 ^ h := by rw [← Int.pow_add]; congr 1; omega
  have e7 : u / 2 ^ h < 2 ^ (40 - h) := Int.ediv_lt_of_lt_mul (by omega) (by rw [← e6]; exact h1)
  have c : 0 ≤ u / 2 ^ h * 2 ^ h := Int.mul_nonneg e5 (by omega)
  have d : u / 2 ^ h * 2 ^ h + 2 ^ h ≤ 2 ^ 40 := by
    have : (u / 2 ^ h + 1) * 2 ^ h ≤ 2 ^ (40 - h) * 2 ^ h := Int.mul_le_mul_of_nonneg_right (by omega) (by omega)
    rw [Int.add_mul, Int.one_mul, ← e6] at this
    exact this
  refine ⟨by omega, by omega, c, d, Int.mul_emod_left _ _, ?_⟩
  rw [Int.ediv_eq_zero_of_lt c (by omega), Int.zero_mul]
theorem s_held (d : Nat) {S : Store} {a b : Addr} {q l : Nat} {k : Kt} {x : Xt} (t : TileAt S a b) (hl : l ≤ 40) (hq : q < 2 ^ (40 - l)) (hk : ∀ S', TileAt S' a b → k (.bl true) S') : (Tb Ds con (d + 9)).fn 22 [.loc a, blk q l] S k x := by
  obtain ⟨u, hu⟩ : ∃ u : Int, u = ((q * 2 ^ l : Nat) : Int) := ⟨_, rfl⟩
  have eb : blk q l = bk u l := by rw [hu]; rfl
  rw [eb]
  have hp : (2 : Int) ^ l ≤ 2 ^ 40 := two_pow_le hl
  have hp1 := two_pow_one l
  have u0 : 0 ≤ u := by omega
  have hum : u = (q : Int) * 2 ^ l := by rw [hu]; push_cast; rfl
  have u1 : u + 2 ^ l ≤ 2 ^ 40 := by
    have h := Nat.mul_le_mul_right (2 ^ l) (show q + 1 ≤ 2 ^ (40 - l) from hq)
    rw [← Nat.pow_add, show 40 - l + l = 40 by omega, Nat.add_mul, Nat.one_mul] at h
    rw [hum]
    exact_mod_cast h
  show fnS (Tb Ds con (d + 8)) D__law_held _ _ _ _
  refine ⟨rfl, ?_⟩
  show sSs _ _ [some (.loc a), some (.tup [.int u, .int l]), none, none, none, none, none, none] _ _
  simp only [D__law_held, w_for, w_asg, w_par, w_seti, w_aug, w_exp, w_ret, w_retn, w_ife, w_pas, w_brk, w_cnt, w_nil, w_cons, w_len_loc, w_len_tup, w_len_frl, w_abs, w_max, w_min, w_int, w_str, w_tup_tup, w_tup_frl, w_tup_loc, w_lst_tup, w_lst_frl, w_lst_loc, w_add, w_addT, w_addS, w_addL, w_sub, w_mul, w_mulT, w_mulL, w_div, w_mod, w_pow, w_shl, w_shr, w_aadd, w_asub, w_amul, w_lt, w_le, w_gt, w_ge, w_eq, w_ne, w_eqB, w_neB, w_neg, w_truB, w_truI, w_truN, w_truT, w_truF, w_truL, w_chn, w_ixT, w_ixF, w_ixI, w_ixS, w_setS, w_setI, w_app, w_pop, w_ext, w_mtTy, w_isiB, w_isiI, w_isiN, w_isiS, w_isiT, w_isiF, w_isiL, w_sub_int_int, w_sub_bl_int, w_sub_bl_bl, w_sub_int_bl, w_sub_tup_int, w_sub_tup_tup, w_sub_int_tup, w_sub_bl_tup, w_sub_lst_lst, w_itT, w_itF, w_itL, w_rng1, w_rng2, w_tgN, w_tg2, w_tg3, w_ifS0, w_ifS1, atI_0, atI_1, atI_2, atI_3, atI_4, sE, sEs, sB, sI, getE, setE]
  refine s_bspan _ (by omega) ?_
  try simp only [w_asg, w_par, w_seti, w_aug, w_exp, w_ret, w_retn, w_ife, w_pas, w_brk, w_cnt, w_nil, w_cons, w_len_loc, w_len_tup, w_len_frl, w_abs, w_max, w_min, w_int, w_str, w_tup_tup, w_tup_frl, w_tup_loc, w_lst_tup, w_lst_frl, w_lst_loc, w_add, w_addT, w_addS, w_addL, w_sub, w_mul, w_mulT, w_mulL, w_div, w_mod, w_pow, w_shl, w_shr, w_aadd, w_asub, w_amul, w_lt, w_le, w_gt, w_ge, w_eq, w_ne, w_eqB, w_neB, w_neg, w_truB, w_truI, w_truN, w_truT, w_truF, w_truL, w_chn, w_ixT, w_ixF, w_ixI, w_ixS, w_setS, w_setI, w_app, w_pop, w_ext, w_mtTy, w_isiB, w_isiI, w_isiN, w_isiS, w_isiT, w_isiF, w_isiL, w_sub_int_int, w_sub_bl_int, w_sub_bl_bl, w_sub_int_bl, w_sub_tup_int, w_sub_tup_tup, w_sub_int_tup, w_sub_bl_tup, w_sub_lst_lst, w_itT, w_itF, w_itL, w_rng1, w_rng2, w_tgN, w_tg2, w_tg3, w_ifS0, w_ifS1, atI_0, atI_1, atI_2, atI_3, atI_4, sE, sEs, sB, sI, getE, setE]
  refine s_bspan _ (by omega) ?_
  try simp only [w_asg, w_par, w_seti, w_aug, w_exp, w_ret, w_retn, w_ife, w_pas, w_brk, w_cnt, w_nil, w_cons, w_len_loc, w_len_tup, w_len_frl, w_abs, w_max, w_min, w_int, w_str, w_tup_tup, w_tup_frl, w_tup_loc, w_lst_tup, w_lst_frl, w_lst_loc, w_add, w_addT, w_addS, w_addL, w_sub, w_mul, w_mulT, w_mulL, w_div, w_mod, w_pow, w_shl, w_shr, w_aadd, w_asub, w_amul, w_lt, w_le, w_gt, w_ge, w_eq, w_ne, w_eqB, w_neB, w_neg, w_truB, w_truI, w_truN, w_truT, w_truF, w_truL, w_chn, w_ixT, w_ixF, w_ixI, w_ixS, w_setS, w_setI, w_app, w_pop, w_ext, w_mtTy, w_isiB, w_isiI, w_isiN, w_isiS, w_isiT, w_isiF, w_isiL, w_sub_int_int, w_sub_bl_int, w_sub_bl_bl, w_sub_int_bl, w_sub_tup_int, w_sub_tup_tup, w_sub_int_tup, w_sub_bl_tup, w_sub_lst_lst, w_itT, w_itF, w_itL, w_rng1, w_rng2, w_tgN, w_tg2, w_tg3, w_ifS0, w_ifS1, atI_0, atI_1, atI_2, atI_3, atI_4, sE, sEs, sB, sI, getE, setE]
  refine s_lspan _ (by omega) ?_
  try simp only [w_asg, w_par, w_seti, w_aug, w_exp, w_ret, w_retn, w_ife, w_pas, w_brk, w_cnt, w_nil, w_cons, w_len_loc, w_len_tup, w_len_frl, w_abs, w_max, w_min, w_int, w_str, w_tup_tup, w_tup_frl, w_tup_loc, w_lst_tup, w_lst_frl, w_lst_loc, w_add, w_addT, w_addS, w_addL, w_sub, w_mul, w_mulT, w_mulL, w_div, w_mod, w_pow, w_shl, w_shr, w_aadd, w_asub, w_amul, w_lt, w_le, w_gt, w_ge, w_eq, w_ne, w_eqB, w_neB, w_neg, w_truB, w_truI, w_truN, w_truT, w_truF, w_truL, w_chn, w_ixT, w_ixF, w_ixI, w_ixS, w_setS, w_setI, w_app, w_pop, w_ext, w_mtTy, w_isiB, w_isiI, w_isiN, w_isiS, w_isiT, w_isiF, w_isiL, w_sub_int_int, w_sub_bl_int, w_sub_bl_bl, w_sub_int_bl, w_sub_tup_int, w_sub_tup_tup, w_sub_int_tup, w_sub_bl_tup, w_sub_lst_lst, w_itT, w_itF, w_itL, w_rng1, w_rng2, w_tgN, w_tg2, w_tg3, w_ifS0, w_ifS1, atI_0, atI_1, atI_2, atI_3, atI_4, sE, sEs, sB, sI, getE, setE]
  refine s_lspan _ (by omega) ?_
  try simp only [w_asg, w_par, w_seti, w_aug, w_exp, w_ret, w_retn, w_ife, w_pas, w_brk, w_cnt, w_nil, w_cons, w_len_loc, w_len_tup, w_len_frl, w_abs, w_max, w_min, w_int, w_str, w_tup_tup, w_tup_frl, w_tup_loc, w_lst_tup, w_lst_frl, w_lst_loc, w_add, w_addT, w_addS, w_addL, w_sub, w_mul, w_mulT, w_mulL, w_div, w_mod, w_pow, w_shl, w_shr, w_aadd, w_asub, w_amul, w_lt, w_le, w_gt, w_ge, w_eq, w_ne, w_eqB, w_neB, w_neg, w_truB, w_truI, w_truN, w_truT, w_truF, w_truL, w_chn, w_ixT, w_ixF, w_ixI, w_ixS, w_setS, w_setI, w_app, w_pop, w_ext, w_mtTy, w_isiB, w_isiI, w_isiN, w_isiS, w_isiT, w_isiF, w_isiL, w_sub_int_int, w_sub_bl_int, w_sub_bl_bl, w_sub_int_bl, w_sub_tup_int, w_sub_tup_tup, w_sub_int_tup, w_sub_bl_tup, w_sub_lst_lst, w_itT, w_itF, w_itL, w_rng1, w_rng2, w_tgN, w_tg2, w_tg3, w_ifS0, w_ifS1, atI_0, atI_1, atI_2, atI_3, atI_4, sE, sEs, sB, sI, getE, setE]
  refine s_same 2 _ (p := .tup [.tup [.int u, .int (u + 2 ^ l)], .tup [.int u, .int (u + 2 ^ l)]]) rfl ?_
  simp only [w_asg, w_par, w_seti, w_aug, w_exp, w_ret, w_retn, w_ife, w_pas, w_brk, w_cnt, w_nil, w_cons, w_len_loc, w_len_tup, w_len_frl, w_abs, w_max, w_min, w_int, w_str, w_tup_tup, w_tup_frl, w_tup_loc, w_lst_tup, w_lst_frl, w_lst_loc, w_add, w_addT, w_addS, w_addL, w_sub, w_mul, w_mulT, w_mulL, w_div, w_mod, w_pow, w_shl, w_shr, w_aadd, w_asub, w_amul, w_lt, w_le, w_gt, w_ge, w_eq, w_ne, w_eqB, w_neB, w_neg, w_truB, w_truI, w_truN, w_truT, w_truF, w_truL, w_chn, w_ixT, w_ixF, w_ixI, w_ixS, w_setS, w_setI, w_app, w_pop, w_ext, w_mtTy, w_isiB, w_isiI, w_isiN, w_isiS, w_isiT, w_isiF, w_isiL, w_sub_int_int, w_sub_bl_int, w_sub_bl_bl, w_sub_int_bl, w_sub_tup_int, w_sub_tup_tup, w_sub_int_tup, w_sub_bl_tup, w_sub_lst_lst, w_itT, w_itF, w_itL, w_rng1, w_rng2, w_tgN, w_tg2, w_tg3, w_ifS0, w_ifS1, atI_0, atI_1, atI_2, atI_3, atI_4, sE, sEs, sB, sI, getE, setE, Bool.not_true, Bool.false_eq_true, if_false, decide_eq_true_eq]
  split
  all_goals try (
    rename_i h0
    have l0 : 0 < l := by omega
    have e1 : (l : Int) - 1 = ((l - 1 : Nat) : Int) := by omega
    have e2 : (2 : Int) ^ l = 2 ^ (l - 1) * 2 := by rw [← Int.pow_succ]; congr 1; omega
    have hp2 := two_pow_one (l - 1)
    have ed : u / 2 ^ l * 2 ^ l = u := by rw [hum, Int.mul_ediv_cancel _ (by omega)]
    have ed2 : (u + 2 ^ (l - 1)) / 2 ^ l * 2 ^ l = u := by
      have : (u + 2 ^ (l - 1)) / 2 ^ l = q := by
        rw [hum, Int.add_comm, Int.add_mul_ediv_right _ _ (by omega), Int.ediv_eq_zero_of_lt (by omega) (by omega), Int.zero_add]
      rw [this, hum]
    simp only [e1]
    refine s_power _ (by omega) ?_
    try simp only [w_asg, w_par, w_seti, w_aug, w_exp, w_ret, w_retn, w_ife, w_pas, w_brk, w_cnt, w_nil, w_cons, w_len_loc, w_len_tup, w_len_frl, w_abs, w_max, w_min, w_int, w_str, w_tup_tup, w_tup_frl, w_tup_loc, w_lst_tup, w_lst_frl, w_lst_loc, w_add, w_addT, w_addS, w_addL, w_sub, w_mul, w_mulT, w_mulL, w_div, w_mod, w_pow, w_shl, w_shr, w_aadd, w_asub, w_amul, w_lt, w_le, w_gt, w_ge, w_eq, w_ne, w_eqB, w_neB, w_neg, w_truB, w_truI, w_truN, w_truT, w_truF, w_truL, w_chn, w_ixT, w_ixF, w_ixI, w_ixS, w_setS, w_setI, w_app, w_pop, w_ext, w_mtTy, w_isiB, w_isiI, w_isiN, w_isiS, w_isiT, w_isiF, w_isiL, w_sub_int_int, w_sub_bl_int, w_sub_bl_bl, w_sub_int_bl, w_sub_tup_int, w_sub_tup_tup, w_sub_int_tup, w_sub_bl_tup, w_sub_lst_lst, w_itT, w_itF, w_itL, w_rng1, w_rng2, w_tgN, w_tg2, w_tg3, w_ifS0, w_ifS1, atI_0, atI_1, atI_2, atI_3, atI_4, sE, sEs, sB, sI, getE, setE]
    refine s_halves _ l0 (by omega) ?_
    try simp only [w_asg, w_par, w_seti, w_aug, w_exp, w_ret, w_retn, w_ife, w_pas, w_brk, w_cnt, w_nil, w_cons, w_len_loc, w_len_tup, w_len_frl, w_abs, w_max, w_min, w_int, w_str, w_tup_tup, w_tup_frl, w_tup_loc, w_lst_tup, w_lst_frl, w_lst_loc, w_add, w_addT, w_addS, w_addL, w_sub, w_mul, w_mulT, w_mulL, w_div, w_mod, w_pow, w_shl, w_shr, w_aadd, w_asub, w_amul, w_lt, w_le, w_gt, w_ge, w_eq, w_ne, w_eqB, w_neB, w_neg, w_truB, w_truI, w_truN, w_truT, w_truF, w_truL, w_chn, w_ixT, w_ixF, w_ixI, w_ixS, w_setS, w_setI, w_app, w_pop, w_ext, w_mtTy, w_isiB, w_isiI, w_isiN, w_isiS, w_isiT, w_isiF, w_isiL, w_sub_int_int, w_sub_bl_int, w_sub_bl_bl, w_sub_int_bl, w_sub_tup_int, w_sub_tup_tup, w_sub_int_tup, w_sub_bl_tup, w_sub_lst_lst, w_itT, w_itF, w_itL, w_rng1, w_rng2, w_tgN, w_tg2, w_tg3, w_ifS0, w_ifS1, atI_0, atI_1, atI_2, atI_3, atI_4, sE, sEs, sB, sI, getE, setE]
    refine s_halves _ l0 (by omega) ?_
    try simp only [w_asg, w_par, w_seti, w_aug, w_exp, w_ret, w_retn, w_ife, w_pas, w_brk, w_cnt, w_nil, w_cons, w_len_loc, w_len_tup, w_len_frl, w_abs, w_max, w_min, w_int, w_str, w_tup_tup, w_tup_frl, w_tup_loc, w_lst_tup, w_lst_frl, w_lst_loc, w_add, w_addT, w_addS, w_addL, w_sub, w_mul, w_mulT, w_mulL, w_div, w_mod, w_pow, w_shl, w_shr, w_aadd, w_asub, w_amul, w_lt, w_le, w_gt, w_ge, w_eq, w_ne, w_eqB, w_neB, w_neg, w_truB, w_truI, w_truN, w_truT, w_truF, w_truL, w_chn, w_ixT, w_ixF, w_ixI, w_ixS, w_setS, w_setI, w_app, w_pop, w_ext, w_mtTy, w_isiB, w_isiI, w_isiN, w_isiS, w_isiT, w_isiF, w_isiL, w_sub_int_int, w_sub_bl_int, w_sub_bl_bl, w_sub_int_bl, w_sub_tup_int, w_sub_tup_tup, w_sub_int_tup, w_sub_bl_tup, w_sub_lst_lst, w_itT, w_itF, w_itL, w_rng1, w_rng2, w_tgN, w_tg2, w_tg3, w_ifS0, w_ifS1, atI_0, atI_1, atI_2, atI_3, atI_4, sE, sEs, sB, sI, getE, setE]
    refine ⟨⟨by simp, by decide, by decide, by simp⟩, ?_⟩
    refine s_same 4 _ (p := .tup [.tup [bk u (l - 1), bk (u + 2 ^ (l - 1)) (l - 1)], .tup [bk u (l - 1), bk (u + 2 ^ (l - 1)) (l - 1)]]) rfl ?_
    simp only [w_asg, w_par, w_seti, w_aug, w_exp, w_ret, w_retn, w_ife, w_pas, w_brk, w_cnt, w_nil, w_cons, w_len_loc, w_len_tup, w_len_frl, w_abs, w_max, w_min, w_int, w_str, w_tup_tup, w_tup_frl, w_tup_loc, w_lst_tup, w_lst_frl, w_lst_loc, w_add, w_addT, w_addS, w_addL, w_sub, w_mul, w_mulT, w_mulL, w_div, w_mod, w_pow, w_shl, w_shr, w_aadd, w_asub, w_amul, w_lt, w_le, w_gt, w_ge, w_eq, w_ne, w_eqB, w_neB, w_neg, w_truB, w_truI, w_truN, w_truT, w_truF, w_truL, w_chn, w_ixT, w_ixF, w_ixI, w_ixS, w_setS, w_setI, w_app, w_pop, w_ext, w_mtTy, w_isiB, w_isiI, w_isiN, w_isiS, w_isiT, w_isiF, w_isiL, w_sub_int_int, w_sub_bl_int, w_sub_bl_bl, w_sub_int_bl, w_sub_tup_int, w_sub_tup_tup, w_sub_int_tup, w_sub_bl_tup, w_sub_lst_lst, w_itT, w_itF, w_itL, w_rng1, w_rng2, w_tgN, w_tg2, w_tg3, w_ifS0, w_ifS1, atI_0, atI_1, atI_2, atI_3, atI_4, sE, sEs, sB, sI, getE, setE, Bool.not_true, Bool.false_eq_true, if_false]
    refine s_holder _ (by omega) ?_
    simp only [ed, w_asg, w_par, w_seti, w_aug, w_exp, w_ret, w_retn, w_ife, w_pas, w_brk, w_cnt, w_nil, w_cons, w_len_loc, w_len_tup, w_len_frl, w_abs, w_max, w_min, w_int, w_str, w_tup_tup, w_tup_frl, w_tup_loc, w_lst_tup, w_lst_frl, w_lst_loc, w_add, w_addT, w_addS, w_addL, w_sub, w_mul, w_mulT, w_mulL, w_div, w_mod, w_pow, w_shl, w_shr, w_aadd, w_asub, w_amul, w_lt, w_le, w_gt, w_ge, w_eq, w_ne, w_eqB, w_neB, w_neg, w_truB, w_truI, w_truN, w_truT, w_truF, w_truL, w_chn, w_ixT, w_ixF, w_ixI, w_ixS, w_setS, w_setI, w_app, w_pop, w_ext, w_mtTy, w_isiB, w_isiI, w_isiN, w_isiS, w_isiT, w_isiF, w_isiL, w_sub_int_int, w_sub_bl_int, w_sub_bl_bl, w_sub_int_bl, w_sub_tup_int, w_sub_tup_tup, w_sub_int_tup, w_sub_bl_tup, w_sub_lst_lst, w_itT, w_itF, w_itL, w_rng1, w_rng2, w_tgN, w_tg2, w_tg3, w_ifS0, w_ifS1, atI_0, atI_1, atI_2, atI_3, atI_4, sE, sEs, sB, sI, getE, setE]
    refine s_holder _ (by omega) ?_
    simp only [ed2, w_asg, w_par, w_seti, w_aug, w_exp, w_ret, w_retn, w_ife, w_pas, w_brk, w_cnt, w_nil, w_cons, w_len_loc, w_len_tup, w_len_frl, w_abs, w_max, w_min, w_int, w_str, w_tup_tup, w_tup_frl, w_tup_loc, w_lst_tup, w_lst_frl, w_lst_loc, w_add, w_addT, w_addS, w_addL, w_sub, w_mul, w_mulT, w_mulL, w_div, w_mod, w_pow, w_shl, w_shr, w_aadd, w_asub, w_amul, w_lt, w_le, w_gt, w_ge, w_eq, w_ne, w_eqB, w_neB, w_neg, w_truB, w_truI, w_truN, w_truT, w_truF, w_truL, w_chn, w_ixT, w_ixF, w_ixI, w_ixS, w_setS, w_setI, w_app, w_pop, w_ext, w_mtTy, w_isiB, w_isiI, w_isiN, w_isiS, w_isiT, w_isiF, w_isiL, w_sub_int_int, w_sub_bl_int, w_sub_bl_bl, w_sub_int_bl, w_sub_tup_int, w_sub_tup_tup, w_sub_int_tup, w_sub_bl_tup, w_sub_lst_lst, w_itT, w_itF, w_itL, w_rng1, w_rng2, w_tgN, w_tg2, w_tg3, w_ifS0, w_ifS1, atI_0, atI_1, atI_2, atI_3, atI_4, sE, sEs, sB, sI, getE, setE]
    refine s_bmeet _ (by omega) (by omega) ?_
    have em : meetB u (l - 1) (u + 2 ^ (l - 1)) (l - 1) = false := by
      unfold meetB
      rw [show decide (u + 2 ^ (l - 1) < u + 2 ^ (l - 1)) = false from decide_eq_false (by omega), Bool.and_false]
    simp only [em, w_asg, w_par, w_seti, w_aug, w_exp, w_ret, w_retn, w_ife, w_pas, w_brk, w_cnt, w_nil, w_cons, w_len_loc, w_len_tup, w_len_frl, w_abs, w_max, w_min, w_int, w_str, w_tup_tup, w_tup_frl, w_tup_loc, w_lst_tup, w_lst_frl, w_lst_loc, w_add, w_addT, w_addS, w_addL, w_sub, w_mul, w_mulT, w_mulL, w_div, w_mod, w_pow, w_shl, w_shr, w_aadd, w_asub, w_amul, w_lt, w_le, w_gt, w_ge, w_eq, w_ne, w_eqB, w_neB, w_neg, w_truB, w_truI, w_truN, w_truT, w_truF, w_truL, w_chn, w_ixT, w_ixF, w_ixI, w_ixS, w_setS, w_setI, w_app, w_pop, w_ext, w_mtTy, w_isiB, w_isiI, w_isiN, w_isiS, w_isiT, w_isiF, w_isiL, w_sub_int_int, w_sub_bl_int, w_sub_bl_bl, w_sub_int_bl, w_sub_tup_int, w_sub_tup_tup, w_sub_int_tup, w_sub_bl_tup, w_sub_lst_lst, w_itT, w_itF, w_itL, w_rng1, w_rng2, w_tgN, w_tg2, w_tg3, w_ifS0, w_ifS1, atI_0, atI_1, atI_2, atI_3, atI_4, sE, sEs, sB, sI, getE, setE]
    refine s_same 3 _ (p := .tup [bk u l, bk u l, .bl false]) rfl ?_
    simp only [w_asg, w_par, w_seti, w_aug, w_exp, w_ret, w_retn, w_ife, w_pas, w_brk, w_cnt, w_nil, w_cons, w_len_loc, w_len_tup, w_len_frl, w_abs, w_max, w_min, w_int, w_str, w_tup_tup, w_tup_frl, w_tup_loc, w_lst_tup, w_lst_frl, w_lst_loc, w_add, w_addT, w_addS, w_addL, w_sub, w_mul, w_mulT, w_mulL, w_div, w_mod, w_pow, w_shl, w_shr, w_aadd, w_asub, w_amul, w_lt, w_le, w_gt, w_ge, w_eq, w_ne, w_eqB, w_neB, w_neg, w_truB, w_truI, w_truN, w_truT, w_truF, w_truL, w_chn, w_ixT, w_ixF, w_ixI, w_ixS, w_setS, w_setI, w_app, w_pop, w_ext, w_mtTy, w_isiB, w_isiI, w_isiN, w_isiS, w_isiT, w_isiF, w_isiL, w_sub_int_int, w_sub_bl_int, w_sub_bl_bl, w_sub_int_bl, w_sub_tup_int, w_sub_tup_tup, w_sub_int_tup, w_sub_bl_tup, w_sub_lst_lst, w_itT, w_itF, w_itL, w_rng1, w_rng2, w_tgN, w_tg2, w_tg3, w_ifS0, w_ifS1, atI_0, atI_1, atI_2, atI_3, atI_4, sE, sEs, sB, sI, getE, setE, Bool.not_true, Bool.false_eq_true, if_false])
  all_goals (
    refine s_glow _ t (by omega) (lt9000 (by omega)) fun n S1 t1 fr1 h2 h3 => ?_
    obtain ⟨e, rfl⟩ := Int.eq_ofNat_of_zero_le h2
    simp only [w_asg, w_par, w_seti, w_aug, w_exp, w_ret, w_retn, w_ife, w_pas, w_brk, w_cnt, w_nil, w_cons, w_len_loc, w_len_tup, w_len_frl, w_abs, w_max, w_min, w_int, w_str, w_tup_tup, w_tup_frl, w_tup_loc, w_lst_tup, w_lst_frl, w_lst_loc, w_add, w_addT, w_addS, w_addL, w_sub, w_mul, w_mulT, w_mulL, w_div, w_mod, w_pow, w_shl, w_shr, w_aadd, w_asub, w_amul, w_lt, w_le, w_gt, w_ge, w_eq, w_ne, w_eqB, w_neB, w_neg, w_truB, w_truI, w_truN, w_truT, w_truF, w_truL, w_chn, w_ixT, w_ixF, w_ixI, w_ixS, w_setS, w_setI, w_app, w_pop, w_ext, w_mtTy, w_isiB, w_isiI, w_isiN, w_isiS, w_isiT, w_isiF, w_isiL, w_sub_int_int, w_sub_bl_int, w_sub_bl_bl, w_sub_int_bl, w_sub_tup_int, w_sub_tup_tup, w_sub_int_tup, w_sub_bl_tup, w_sub_lst_lst, w_itT, w_itF, w_itL, w_rng1, w_rng2, w_tgN, w_tg2, w_tg3, w_ifS0, w_ifS1, atI_0, atI_1, atI_2, atI_3, atI_4, sE, sEs, sB, sI, getE, setE]
    refine runFor_inv0 (fun i env S' => TileAt S' a b ∧ ∃ o4 o5 o6 o7, env = [some (.loc a), some (bk u l), some (.int u), some (.int l), o4, o5, o6, o7]) ⟨t1, _, _, _, _, rfl⟩ ?_ ?_
    · rintro i p env S' hi ⟨t', o4, o5, o6, o7, rfl⟩
      have hp := List.mem_of_getElem? hi
      obtain ⟨h, rfl, z1, z2⟩ : ∃ h : Nat, p = .int h ∧ l ≤ h ∧ h ≤ 40 := by
        simp only [List.mem_cons, List.not_mem_nil, or_false] at hp
        rcases hp with rfl | rfl | rfl
        · exact ⟨l, rfl, by omega, by omega⟩
        · exact ⟨40, rfl, by omega, by omega⟩
        · exact ⟨l + e, by simp, by omega, by omega⟩
      have H := hi_of u0 (by omega) z2
      have g1 := two_pow_one h
      have g2 : (2 : Int) ^ h ≤ 2 ^ 40 := two_pow_le z2
      refine ⟨trivial, fun nxt hx => ?_⟩
      simp only [w_asg, w_par, w_seti, w_aug, w_exp, w_ret, w_retn, w_ife, w_pas, w_brk, w_cnt, w_nil, w_cons, w_len_loc, w_len_tup, w_len_frl, w_abs, w_max, w_min, w_int, w_str, w_tup_tup, w_tup_frl, w_tup_loc, w_lst_tup, w_lst_frl, w_lst_loc, w_add, w_addT, w_addS, w_addL, w_sub, w_mul, w_mulT, w_mulL, w_div, w_mod, w_pow, w_shl, w_shr, w_aadd, w_asub, w_amul, w_lt, w_le, w_gt, w_ge, w_eq, w_ne, w_eqB, w_neB, w_neg, w_truB, w_truI, w_truN, w_truT, w_truF, w_truL, w_chn, w_ixT, w_ixF, w_ixI, w_ixS, w_setS, w_setI, w_app, w_pop, w_ext, w_mtTy, w_isiB, w_isiI, w_isiN, w_isiS, w_isiT, w_isiF, w_isiL, w_sub_int_int, w_sub_bl_int, w_sub_bl_bl, w_sub_int_bl, w_sub_tup_int, w_sub_tup_tup, w_sub_int_tup, w_sub_bl_tup, w_sub_lst_lst, w_itT, w_itF, w_itL, w_rng1, w_rng2, w_tgN, w_tg2, w_tg3, w_ifS0, w_ifS1, atI_0, atI_1, atI_2, atI_3, atI_4, sE, sEs, sB, sI, getE, setE]
      refine s_power _ (by omega) ?_
      try simp only [w_asg, w_par, w_seti, w_aug, w_exp, w_ret, w_retn, w_ife, w_pas, w_brk, w_cnt, w_nil, w_cons, w_len_loc, w_len_tup, w_len_frl, w_abs, w_max, w_min, w_int, w_str, w_tup_tup, w_tup_frl, w_tup_loc, w_lst_tup, w_lst_frl, w_lst_loc, w_add, w_addT, w_addS, w_addL, w_sub, w_mul, w_mulT, w_mulL, w_div, w_mod, w_pow, w_shl, w_shr, w_aadd, w_asub, w_amul, w_lt, w_le, w_gt, w_ge, w_eq, w_ne, w_eqB, w_neB, w_neg, w_truB, w_truI, w_truN, w_truT, w_truF, w_truL, w_chn, w_ixT, w_ixF, w_ixI, w_ixS, w_setS, w_setI, w_app, w_pop, w_ext, w_mtTy, w_isiB, w_isiI, w_isiN, w_isiS, w_isiT, w_isiF, w_isiL, w_sub_int_int, w_sub_bl_int, w_sub_bl_bl, w_sub_int_bl, w_sub_tup_int, w_sub_tup_tup, w_sub_int_tup, w_sub_bl_tup, w_sub_lst_lst, w_itT, w_itF, w_itL, w_rng1, w_rng2, w_tgN, w_tg2, w_tg3, w_ifS0, w_ifS1, atI_0, atI_1, atI_2, atI_3, atI_4, sE, sEs, sB, sI, getE, setE]
      refine ⟨⟨by omega, lt9000 (by omega)⟩, ?_⟩
      refine s_power _ (by omega) ?_
      try simp only [w_asg, w_par, w_seti, w_aug, w_exp, w_ret, w_retn, w_ife, w_pas, w_brk, w_cnt, w_nil, w_cons, w_len_loc, w_len_tup, w_len_frl, w_abs, w_max, w_min, w_int, w_str, w_tup_tup, w_tup_frl, w_tup_loc, w_lst_tup, w_lst_frl, w_lst_loc, w_add, w_addT, w_addS, w_addL, w_sub, w_mul, w_mulT, w_mulL, w_div, w_mod, w_pow, w_shl, w_shr, w_aadd, w_asub, w_amul, w_lt, w_le, w_gt, w_ge, w_eq, w_ne, w_eqB, w_neB, w_neg, w_truB, w_truI, w_truN, w_truT, w_truF, w_truL, w_chn, w_ixT, w_ixF, w_ixI, w_ixS, w_setS, w_setI, w_app, w_pop, w_ext, w_mtTy, w_isiB, w_isiI, w_isiN, w_isiS, w_isiT, w_isiF, w_isiL, w_sub_int_int, w_sub_bl_int, w_sub_bl_bl, w_sub_int_bl, w_sub_tup_int, w_sub_tup_tup, w_sub_int_tup, w_sub_bl_tup, w_sub_lst_lst, w_itT, w_itF, w_itL, w_rng1, w_rng2, w_tgN, w_tg2, w_tg3, w_ifS0, w_ifS1, atI_0, atI_1, atI_2, atI_3, atI_4, sE, sEs, sB, sI, getE, setE]
      refine ⟨mulOk_r (by omega) (by omega), ?_⟩
      refine s_holder _ (by omega) ?_
      try simp only [w_asg, w_par, w_seti, w_aug, w_exp, w_ret, w_retn, w_ife, w_pas, w_brk, w_cnt, w_nil, w_cons, w_len_loc, w_len_tup, w_len_frl, w_abs, w_max, w_min, w_int, w_str, w_tup_tup, w_tup_frl, w_tup_loc, w_lst_tup, w_lst_frl, w_lst_loc, w_add, w_addT, w_addS, w_addL, w_sub, w_mul, w_mulT, w_mulL, w_div, w_mod, w_pow, w_shl, w_shr, w_aadd, w_asub, w_amul, w_lt, w_le, w_gt, w_ge, w_eq, w_ne, w_eqB, w_neB, w_neg, w_truB, w_truI, w_truN, w_truT, w_truF, w_truL, w_chn, w_ixT, w_ixF, w_ixI, w_ixS, w_setS, w_setI, w_app, w_pop, w_ext, w_mtTy, w_isiB, w_isiI, w_isiN, w_isiS, w_isiT, w_isiF, w_isiL, w_sub_int_int, w_sub_bl_int, w_sub_bl_bl, w_sub_int_bl, w_sub_tup_int, w_sub_tup_tup, w_sub_int_tup, w_sub_bl_tup, w_sub_lst_lst, w_itT, w_itF, w_itL, w_rng1, w_rng2, w_tgN, w_tg2, w_tg3, w_ifS0, w_ifS1, atI_0, atI_1, atI_2, atI_3, atI_4, sE, sEs, sB, sI, getE, setE]
      refine s_holder _ (by omega) ?_
      try simp only [w_asg, w_par, w_seti, w_aug, w_exp, w_ret, w_retn, w_ife, w_pas, w_brk, w_cnt, w_nil, w_cons, w_len_loc, w_len_tup, w_len_frl, w_abs, w_max, w_min, w_int, w_str, w_tup_tup, w_tup_frl, w_tup_loc, w_lst_tup, w_lst_frl, w_lst_loc, w_add, w_addT, w_addS, w_addL, w_sub, w_mul, w_mulT, w_mulL, w_div, w_mod, w_pow, w_shl, w_shr, w_aadd, w_asub, w_amul, w_lt, w_le, w_gt, w_ge, w_eq, w_ne, w_eqB, w_neB, w_neg, w_truB, w_truI, w_truN, w_truT, w_truF, w_truL, w_chn, w_ixT, w_ixF, w_ixI, w_ixS, w_setS, w_setI, w_app, w_pop, w_ext, w_mtTy, w_isiB, w_isiI, w_isiN, w_isiS, w_isiT, w_isiF, w_isiL, w_sub_int_int, w_sub_bl_int, w_sub_bl_bl, w_sub_int_bl, w_sub_tup_int, w_sub_tup_tup, w_sub_int_tup, w_sub_bl_tup, w_sub_lst_lst, w_itT, w_itF, w_itL, w_rng1, w_rng2, w_tgN, w_tg2, w_tg3, w_ifS0, w_ifS1, atI_0, atI_1, atI_2, atI_3, atI_4, sE, sEs, sB, sI, getE, setE]
      refine s_same 2 _ (p := .tup [bk (u / 2 ^ h * 2 ^ h) h, bk (u / 2 ^ h * 2 ^ h) h]) rfl ?_
      simp only [w_asg, w_par, w_seti, w_aug, w_exp, w_ret, w_retn, w_ife, w_pas, w_brk, w_cnt, w_nil, w_cons, w_len_loc, w_len_tup, w_len_frl, w_abs, w_max, w_min, w_int, w_str, w_tup_tup, w_tup_frl, w_tup_loc, w_lst_tup, w_lst_frl, w_lst_loc, w_add, w_addT, w_addS, w_addL, w_sub, w_mul, w_mulT, w_mulL, w_div, w_mod, w_pow, w_shl, w_shr, w_aadd, w_asub, w_amul, w_lt, w_le, w_gt, w_ge, w_eq, w_ne, w_eqB, w_neB, w_neg, w_truB, w_truI, w_truN, w_truT, w_truF, w_truL, w_chn, w_ixT, w_ixF, w_ixI, w_ixS, w_setS, w_setI, w_app, w_pop, w_ext, w_mtTy, w_isiB, w_isiI, w_isiN, w_isiS, w_isiT, w_isiF, w_isiL, w_sub_int_int, w_sub_bl_int, w_sub_bl_bl, w_sub_int_bl, w_sub_tup_int, w_sub_tup_tup, w_sub_int_tup, w_sub_bl_tup, w_sub_lst_lst, w_itT, w_itF, w_itL, w_rng1, w_rng2, w_tgN, w_tg2, w_tg3, w_ifS0, w_ifS1, atI_0, atI_1, atI_2, atI_3, atI_4, sE, sEs, sB, sI, getE, setE, Bool.not_true, Bool.false_eq_true, if_false]
      refine s_bmeet _ (by omega) (by omega) ?_
      have em : meetB (u / 2 ^ h * 2 ^ h) h u l = true := by
        unfold meetB
        rw [decide_eq_true (show u / 2 ^ h * 2 ^ h < u + 2 ^ l by have := H.a; omega), decide_eq_true H.b]
        rfl
      simp only [em, w_asg, w_par, w_seti, w_aug, w_exp, w_ret, w_retn, w_ife, w_pas, w_brk, w_cnt, w_nil, w_cons, w_len_loc, w_len_tup, w_len_frl, w_abs, w_max, w_min, w_int, w_str, w_tup_tup, w_tup_frl, w_tup_loc, w_lst_tup, w_lst_frl, w_lst_loc, w_add, w_addT, w_addS, w_addL, w_sub, w_mul, w_mulT, w_mulL, w_div, w_mod, w_pow, w_shl, w_shr, w_aadd, w_asub, w_amul, w_lt, w_le, w_gt, w_ge, w_eq, w_ne, w_eqB, w_neB, w_neg, w_truB, w_truI, w_truN, w_truT, w_truF, w_truL, w_chn, w_ixT, w_ixF, w_ixI, w_ixS, w_setS, w_setI, w_app, w_pop, w_ext, w_mtTy, w_isiB, w_isiI, w_isiN, w_isiS, w_isiT, w_isiF, w_isiL, w_sub_int_int, w_sub_bl_int, w_sub_bl_bl, w_sub_int_bl, w_sub_tup_int, w_sub_tup_tup, w_sub_int_tup, w_sub_bl_tup, w_sub_lst_lst, w_itT, w_itF, w_itL, w_rng1, w_rng2, w_tgN, w_tg2, w_tg3, w_ifS0, w_ifS1, atI_0, atI_1, atI_2, atI_3, atI_4, sE, sEs, sB, sI, getE, setE]
      refine s_holder (m := 40) _ (by omega) ?_
      simp only [H.f, w_asg, w_par, w_seti, w_aug, w_exp, w_ret, w_retn, w_ife, w_pas, w_brk, w_cnt, w_nil, w_cons, w_len_loc, w_len_tup, w_len_frl, w_abs, w_max, w_min, w_int, w_str, w_tup_tup, w_tup_frl, w_tup_loc, w_lst_tup, w_lst_frl, w_lst_loc, w_add, w_addT, w_addS, w_addL, w_sub, w_mul, w_mulT, w_mulL, w_div, w_mod, w_pow, w_shl, w_shr, w_aadd, w_asub, w_amul, w_lt, w_le, w_gt, w_ge, w_eq, w_ne, w_eqB, w_neB, w_neg, w_truB, w_truI, w_truN, w_truT, w_truF, w_truL, w_chn, w_ixT, w_ixF, w_ixI, w_ixS, w_setS, w_setI, w_app, w_pop, w_ext, w_mtTy, w_isiB, w_isiI, w_isiN, w_isiS, w_isiT, w_isiF, w_isiL, w_sub_int_int, w_sub_bl_int, w_sub_bl_bl, w_sub_int_bl, w_sub_tup_int, w_sub_tup_tup, w_sub_int_tup, w_sub_bl_tup, w_sub_lst_lst, w_itT, w_itF, w_itL, w_rng1, w_rng2, w_tgN, w_tg2, w_tg3, w_ifS0, w_ifS1, atI_0, atI_1, atI_2, atI_3, atI_4, sE, sEs, sB, sI, getE, setE]
      refine s_isblk _ (p := bk (u / 2 ^ h * 2 ^ h) h) (typd_of rfl) ?_
      have eb : blkB (bk (u / 2 ^ h * 2 ^ h) h) = true := by
        obtain ⟨w, hw⟩ := Int.eq_ofNat_of_zero_le H.c
        have e1 := H.e
        have e2 := H.d
        rw [hw] at e1 e2 ⊢
        show blkB (.tup [.int w, .int h]) = true
        rw [blk_t w h (by omega), decide_eq_true e1, decide_eq_true e2]
        rfl
      simp only [eb, w_asg, w_par, w_seti, w_aug, w_exp, w_ret, w_retn, w_ife, w_pas, w_brk, w_cnt, w_nil, w_cons, w_len_loc, w_len_tup, w_len_frl, w_abs, w_max, w_min, w_int, w_str, w_tup_tup, w_tup_frl, w_tup_loc, w_lst_tup, w_lst_frl, w_lst_loc, w_add, w_addT, w_addS, w_addL, w_sub, w_mul, w_mulT, w_mulL, w_div, w_mod, w_pow, w_shl, w_shr, w_aadd, w_asub, w_amul, w_lt, w_le, w_gt, w_ge, w_eq, w_ne, w_eqB, w_neB, w_neg, w_truB, w_truI, w_truN, w_truT, w_truF, w_truL, w_chn, w_ixT, w_ixF, w_ixI, w_ixS, w_setS, w_setI, w_app, w_pop, w_ext, w_mtTy, w_isiB, w_isiI, w_isiN, w_isiS, w_isiT, w_isiF, w_isiL, w_sub_int_int, w_sub_bl_int, w_sub_bl_bl, w_sub_int_bl, w_sub_tup_int, w_sub_tup_tup, w_sub_int_tup, w_sub_bl_tup, w_sub_lst_lst, w_itT, w_itF, w_itL, w_rng1, w_rng2, w_tgN, w_tg2, w_tg3, w_ifS0, w_ifS1, atI_0, atI_1, atI_2, atI_3, atI_4, sE, sEs, sB, sI, getE, setE]
      refine s_same 2 _ (p := .tup [.bl true, bk 0 40, .bl true]) rfl ?_
      simp only [w_asg, w_par, w_seti, w_aug, w_exp, w_ret, w_retn, w_ife, w_pas, w_brk, w_cnt, w_nil, w_cons, w_len_loc, w_len_tup, w_len_frl, w_abs, w_max, w_min, w_int, w_str, w_tup_tup, w_tup_frl, w_tup_loc, w_lst_tup, w_lst_frl, w_lst_loc, w_add, w_addT, w_addS, w_addL, w_sub, w_mul, w_mulT, w_mulL, w_div, w_mod, w_pow, w_shl, w_shr, w_aadd, w_asub, w_amul, w_lt, w_le, w_gt, w_ge, w_eq, w_ne, w_eqB, w_neB, w_neg, w_truB, w_truI, w_truN, w_truT, w_truF, w_truL, w_chn, w_ixT, w_ixF, w_ixI, w_ixS, w_setS, w_setI, w_app, w_pop, w_ext, w_mtTy, w_isiB, w_isiI, w_isiN, w_isiS, w_isiT, w_isiF, w_isiL, w_sub_int_int, w_sub_bl_int, w_sub_bl_bl, w_sub_int_bl, w_sub_tup_int, w_sub_tup_tup, w_sub_int_tup, w_sub_bl_tup, w_sub_lst_lst, w_itT, w_itF, w_itL, w_rng1, w_rng2, w_tgN, w_tg2, w_tg3, w_ifS0, w_ifS1, atI_0, atI_1, atI_2, atI_3, atI_4, sE, sEs, sB, sI, getE, setE, Bool.not_true, Bool.false_eq_true, if_false]
      exact hx _ _ ⟨t', _, _, _, _, rfl⟩
    · rintro env S' ⟨t', o4, o5, o6, o7, rfl⟩
      exact ⟨trivial, _, sub_refl _, hk _ t'⟩)
theorem law_holds : PL.LawG (PL.fnS (PL.Tb Ds con 60) D_law) 63 := by
  intro ns hz
  refine ⟨rfl, ?_⟩
  show sSs _ _ [some (.frl (ns.map .int)), none, none, none, none, none, none, none] _ _
  simp only [D_law, w_for, w_asg, w_par, w_seti, w_aug, w_exp, w_ret, w_retn, w_ife, w_pas, w_brk, w_cnt, w_nil, w_cons, w_len_loc, w_len_tup, w_len_frl, w_abs, w_max, w_min, w_int, w_str, w_tup_tup, w_tup_frl, w_tup_loc, w_lst_tup, w_lst_frl, w_lst_loc, w_add, w_addT, w_addS, w_addL, w_sub, w_mul, w_mulT, w_mulL, w_div, w_mod, w_pow, w_shl, w_shr, w_aadd, w_asub, w_amul, w_lt, w_le, w_gt, w_ge, w_eq, w_ne, w_eqB, w_neB, w_neg, w_truB, w_truI, w_truN, w_truT, w_truF, w_truL, w_chn, w_ixT, w_ixF, w_ixI, w_ixS, w_setS, w_setI, w_app, w_pop, w_ext, w_mtTy, w_isiB, w_isiI, w_isiN, w_isiS, w_isiT, w_isiF, w_isiL, w_sub_int_int, w_sub_bl_int, w_sub_bl_bl, w_sub_int_bl, w_sub_tup_int, w_sub_tup_tup, w_sub_int_tup, w_sub_bl_tup, w_sub_lst_lst, w_itT, w_itF, w_itL, w_rng1, w_rng2, w_tgN, w_tg2, w_tg3, w_ifS0, w_ifS1, atI_0, atI_1, atI_2, atI_3, atI_4, sE, sEs, sB, sI, getE, setE]
  refine s_tile 59 hz fun a b S t => ?_
  try simp only [w_asg, w_par, w_seti, w_aug, w_exp, w_ret, w_retn, w_ife, w_pas, w_brk, w_cnt, w_nil, w_cons, w_len_loc, w_len_tup, w_len_frl, w_abs, w_max, w_min, w_int, w_str, w_tup_tup, w_tup_frl, w_tup_loc, w_lst_tup, w_lst_frl, w_lst_loc, w_add, w_addT, w_addS, w_addL, w_sub, w_mul, w_mulT, w_mulL, w_div, w_mod, w_pow, w_shl, w_shr, w_aadd, w_asub, w_amul, w_lt, w_le, w_gt, w_ge, w_eq, w_ne, w_eqB, w_neB, w_neg, w_truB, w_truI, w_truN, w_truT, w_truF, w_truL, w_chn, w_ixT, w_ixF, w_ixI, w_ixS, w_setS, w_setI, w_app, w_pop, w_ext, w_mtTy, w_isiB, w_isiI, w_isiN, w_isiS, w_isiT, w_isiF, w_isiL, w_sub_int_int, w_sub_bl_int, w_sub_bl_bl, w_sub_int_bl, w_sub_tup_int, w_sub_tup_tup, w_sub_int_tup, w_sub_bl_tup, w_sub_lst_lst, w_itT, w_itF, w_itL, w_rng1, w_rng2, w_tgN, w_tg2, w_tg3, w_ifS0, w_ifS1, atI_0, atI_1, atI_2, atI_3, atI_4, sE, sEs, sB, sI, getE, setE]
  refine s_sizes 56 t fun S1 t1 => ?_
  simp only [w_asg, w_par, w_seti, w_aug, w_exp, w_ret, w_retn, w_ife, w_pas, w_brk, w_cnt, w_nil, w_cons, w_len_loc, w_len_tup, w_len_frl, w_abs, w_max, w_min, w_int, w_str, w_tup_tup, w_tup_frl, w_tup_loc, w_lst_tup, w_lst_frl, w_lst_loc, w_add, w_addT, w_addS, w_addL, w_sub, w_mul, w_mulT, w_mulL, w_div, w_mod, w_pow, w_shl, w_shr, w_aadd, w_asub, w_amul, w_lt, w_le, w_gt, w_ge, w_eq, w_ne, w_eqB, w_neB, w_neg, w_truB, w_truI, w_truN, w_truT, w_truF, w_truL, w_chn, w_ixT, w_ixF, w_ixI, w_ixS, w_setS, w_setI, w_app, w_pop, w_ext, w_mtTy, w_isiB, w_isiI, w_isiN, w_isiS, w_isiT, w_isiF, w_isiL, w_sub_int_int, w_sub_bl_int, w_sub_bl_bl, w_sub_int_bl, w_sub_tup_int, w_sub_tup_tup, w_sub_int_tup, w_sub_bl_tup, w_sub_lst_lst, w_itT, w_itF, w_itL, w_rng1, w_rng2, w_tgN, w_tg2, w_tg3, w_ifS0, w_ifS1, atI_0, atI_1, atI_2, atI_3, atI_4, sE, sEs, sB, sI, getE, setE, Bool.not_true, Bool.false_eq_true, if_false]
  refine ⟨⟨by decide, by decide⟩, ?_⟩
  refine runFor_inv0 (fun i env S' => TileAt S' a b ∧ ∃ o1 o2 o3 o4 o5 o6, env = [some (.frl (ns.map .int)), some (.loc a), o1, o2, o3, o4, o5, o6]) ⟨t1, _, _, _, _, _, _, rfl⟩ ?_ ?_
  · rintro i p env S' hi ⟨t', o1, o2, o3, o4, o5, o6, rfl⟩
    refine ⟨trivial, fun nxt hx => ?_⟩
    simp only [w_asg, w_par, w_seti, w_aug, w_exp, w_ret, w_retn, w_ife, w_pas, w_brk, w_cnt, w_nil, w_cons, w_len_loc, w_len_tup, w_len_frl, w_abs, w_max, w_min, w_int, w_str, w_tup_tup, w_tup_frl, w_tup_loc, w_lst_tup, w_lst_frl, w_lst_loc, w_add, w_addT, w_addS, w_addL, w_sub, w_mul, w_mulT, w_mulL, w_div, w_mod, w_pow, w_shl, w_shr, w_aadd, w_asub, w_amul, w_lt, w_le, w_gt, w_ge, w_eq, w_ne, w_eqB, w_neB, w_neg, w_truB, w_truI, w_truN, w_truT, w_truF, w_truL, w_chn, w_ixT, w_ixF, w_ixI, w_ixS, w_setS, w_setI, w_app, w_pop, w_ext, w_mtTy, w_isiB, w_isiI, w_isiN, w_isiS, w_isiT, w_isiF, w_isiL, w_sub_int_int, w_sub_bl_int, w_sub_bl_bl, w_sub_int_bl, w_sub_tup_int, w_sub_tup_tup, w_sub_int_tup, w_sub_bl_tup, w_sub_lst_lst, w_itT, w_itF, w_itL, w_rng1, w_rng2, w_tgN, w_tg2, w_tg3, w_ifS0, w_ifS1, atI_0, atI_1, atI_2, atI_3, atI_4, sE, sEs, sB, sI, getE, setE]
    refine s_block 57 t' fun q l S2 t2 hl hq => ?_
    try simp only [w_asg, w_par, w_seti, w_aug, w_exp, w_ret, w_retn, w_ife, w_pas, w_brk, w_cnt, w_nil, w_cons, w_len_loc, w_len_tup, w_len_frl, w_abs, w_max, w_min, w_int, w_str, w_tup_tup, w_tup_frl, w_tup_loc, w_lst_tup, w_lst_frl, w_lst_loc, w_add, w_addT, w_addS, w_addL, w_sub, w_mul, w_mulT, w_mulL, w_div, w_mod, w_pow, w_shl, w_shr, w_aadd, w_asub, w_amul, w_lt, w_le, w_gt, w_ge, w_eq, w_ne, w_eqB, w_neB, w_neg, w_truB, w_truI, w_truN, w_truT, w_truF, w_truL, w_chn, w_ixT, w_ixF, w_ixI, w_ixS, w_setS, w_setI, w_app, w_pop, w_ext, w_mtTy, w_isiB, w_isiI, w_isiN, w_isiS, w_isiT, w_isiF, w_isiL, w_sub_int_int, w_sub_bl_int, w_sub_bl_bl, w_sub_int_bl, w_sub_tup_int, w_sub_tup_tup, w_sub_int_tup, w_sub_bl_tup, w_sub_lst_lst, w_itT, w_itF, w_itL, w_rng1, w_rng2, w_tgN, w_tg2, w_tg3, w_ifS0, w_ifS1, atI_0, atI_1, atI_2, atI_3, atI_4, sE, sEs, sB, sI, getE, setE]
    refine s_beside 56 t2 hl hq fun q' l' S3 t3 hl' hq' => ?_
    try simp only [w_asg, w_par, w_seti, w_aug, w_exp, w_ret, w_retn, w_ife, w_pas, w_brk, w_cnt, w_nil, w_cons, w_len_loc, w_len_tup, w_len_frl, w_abs, w_max, w_min, w_int, w_str, w_tup_tup, w_tup_frl, w_tup_loc, w_lst_tup, w_lst_frl, w_lst_loc, w_add, w_addT, w_addS, w_addL, w_sub, w_mul, w_mulT, w_mulL, w_div, w_mod, w_pow, w_shl, w_shr, w_aadd, w_asub, w_amul, w_lt, w_le, w_gt, w_ge, w_eq, w_ne, w_eqB, w_neB, w_neg, w_truB, w_truI, w_truN, w_truT, w_truF, w_truL, w_chn, w_ixT, w_ixF, w_ixI, w_ixS, w_setS, w_setI, w_app, w_pop, w_ext, w_mtTy, w_isiB, w_isiI, w_isiN, w_isiS, w_isiT, w_isiF, w_isiL, w_sub_int_int, w_sub_bl_int, w_sub_bl_bl, w_sub_int_bl, w_sub_tup_int, w_sub_tup_tup, w_sub_int_tup, w_sub_bl_tup, w_sub_lst_lst, w_itT, w_itF, w_itL, w_rng1, w_rng2, w_tgN, w_tg2, w_tg3, w_ifS0, w_ifS1, atI_0, atI_1, atI_2, atI_3, atI_4, sE, sEs, sB, sI, getE, setE]
    refine s_lmeet 57 (u := ((q * 2 ^ l : Nat) : Int)) (v := ((q' * 2 ^ l' : Nat) : Int)) (l := l) (m := l') (by omega) (by omega) ?_
    try simp only [w_asg, w_par, w_seti, w_aug, w_exp, w_ret, w_retn, w_ife, w_pas, w_brk, w_cnt, w_nil, w_cons, w_len_loc, w_len_tup, w_len_frl, w_abs, w_max, w_min, w_int, w_str, w_tup_tup, w_tup_frl, w_tup_loc, w_lst_tup, w_lst_frl, w_lst_loc, w_add, w_addT, w_addS, w_addL, w_sub, w_mul, w_mulT, w_mulL, w_div, w_mod, w_pow, w_shl, w_shr, w_aadd, w_asub, w_amul, w_lt, w_le, w_gt, w_ge, w_eq, w_ne, w_eqB, w_neB, w_neg, w_truB, w_truI, w_truN, w_truT, w_truF, w_truL, w_chn, w_ixT, w_ixF, w_ixI, w_ixS, w_setS, w_setI, w_app, w_pop, w_ext, w_mtTy, w_isiB, w_isiI, w_isiN, w_isiS, w_isiT, w_isiF, w_isiL, w_sub_int_int, w_sub_bl_int, w_sub_bl_bl, w_sub_int_bl, w_sub_tup_int, w_sub_tup_tup, w_sub_int_tup, w_sub_bl_tup, w_sub_lst_lst, w_itT, w_itF, w_itL, w_rng1, w_rng2, w_tgN, w_tg2, w_tg3, w_ifS0, w_ifS1, atI_0, atI_1, atI_2, atI_3, atI_4, sE, sEs, sB, sI, getE, setE]
    refine s_bmeet 59 (u := ((q * 2 ^ l : Nat) : Int)) (v := ((q' * 2 ^ l' : Nat) : Int)) (l := l) (m := l') (by omega) (by omega) ?_
    try simp only [w_asg, w_par, w_seti, w_aug, w_exp, w_ret, w_retn, w_ife, w_pas, w_brk, w_cnt, w_nil, w_cons, w_len_loc, w_len_tup, w_len_frl, w_abs, w_max, w_min, w_int, w_str, w_tup_tup, w_tup_frl, w_tup_loc, w_lst_tup, w_lst_frl, w_lst_loc, w_add, w_addT, w_addS, w_addL, w_sub, w_mul, w_mulT, w_mulL, w_div, w_mod, w_pow, w_shl, w_shr, w_aadd, w_asub, w_amul, w_lt, w_le, w_gt, w_ge, w_eq, w_ne, w_eqB, w_neB, w_neg, w_truB, w_truI, w_truN, w_truT, w_truF, w_truL, w_chn, w_ixT, w_ixF, w_ixI, w_ixS, w_setS, w_setI, w_app, w_pop, w_ext, w_mtTy, w_isiB, w_isiI, w_isiN, w_isiS, w_isiT, w_isiF, w_isiL, w_sub_int_int, w_sub_bl_int, w_sub_bl_bl, w_sub_int_bl, w_sub_tup_int, w_sub_tup_tup, w_sub_int_tup, w_sub_bl_tup, w_sub_lst_lst, w_itT, w_itF, w_itL, w_rng1, w_rng2, w_tgN, w_tg2, w_tg3, w_ifS0, w_ifS1, atI_0, atI_1, atI_2, atI_3, atI_4, sE, sEs, sB, sI, getE, setE]
    refine s_bmeet 59 (u := ((q' * 2 ^ l' : Nat) : Int)) (v := ((q * 2 ^ l : Nat) : Int)) (l := l') (m := l) (by omega) (by omega) ?_
    try simp only [w_asg, w_par, w_seti, w_aug, w_exp, w_ret, w_retn, w_ife, w_pas, w_brk, w_cnt, w_nil, w_cons, w_len_loc, w_len_tup, w_len_frl, w_abs, w_max, w_min, w_int, w_str, w_tup_tup, w_tup_frl, w_tup_loc, w_lst_tup, w_lst_frl, w_lst_loc, w_add, w_addT, w_addS, w_addL, w_sub, w_mul, w_mulT, w_mulL, w_div, w_mod, w_pow, w_shl, w_shr, w_aadd, w_asub, w_amul, w_lt, w_le, w_gt, w_ge, w_eq, w_ne, w_eqB, w_neB, w_neg, w_truB, w_truI, w_truN, w_truT, w_truF, w_truL, w_chn, w_ixT, w_ixF, w_ixI, w_ixS, w_setS, w_setI, w_app, w_pop, w_ext, w_mtTy, w_isiB, w_isiI, w_isiN, w_isiS, w_isiT, w_isiF, w_isiL, w_sub_int_int, w_sub_bl_int, w_sub_bl_bl, w_sub_int_bl, w_sub_tup_int, w_sub_tup_tup, w_sub_int_tup, w_sub_bl_tup, w_sub_lst_lst, w_itT, w_itF, w_itL, w_rng1, w_rng2, w_tgN, w_tg2, w_tg3, w_ifS0, w_ifS1, atI_0, atI_1, atI_2, atI_3, atI_4, sE, sEs, sB, sI, getE, setE]
    refine s_bmeet 59 (u := ((q * 2 ^ l : Nat) : Int)) (v := ((q * 2 ^ l : Nat) : Int)) (l := l) (m := l) (by omega) (by omega) ?_
    have m1 : meetB ((q' * 2 ^ l' : Nat) : Int) l' ((q * 2 ^ l : Nat) : Int) l = meetB ((q * 2 ^ l : Nat) : Int) l ((q' * 2 ^ l' : Nat) : Int) l' := Bool.and_comm _ _
    have m2 : meetB ((q * 2 ^ l : Nat) : Int) l ((q * 2 ^ l : Nat) : Int) l = true := by
      unfold meetB
      have := two_pow_one l
      rw [decide_eq_true (show ((q * 2 ^ l : Nat) : Int) < ((q * 2 ^ l : Nat) : Int) + 2 ^ l by omega)]
      rfl
    rw [m1, m2]
    refine s_same 1 58 (p := .tup [.bl _, .bl _, .bl true]) rfl ?_
    simp only [w_asg, w_par, w_seti, w_aug, w_exp, w_ret, w_retn, w_ife, w_pas, w_brk, w_cnt, w_nil, w_cons, w_len_loc, w_len_tup, w_len_frl, w_abs, w_max, w_min, w_int, w_str, w_tup_tup, w_tup_frl, w_tup_loc, w_lst_tup, w_lst_frl, w_lst_loc, w_add, w_addT, w_addS, w_addL, w_sub, w_mul, w_mulT, w_mulL, w_div, w_mod, w_pow, w_shl, w_shr, w_aadd, w_asub, w_amul, w_lt, w_le, w_gt, w_ge, w_eq, w_ne, w_eqB, w_neB, w_neg, w_truB, w_truI, w_truN, w_truT, w_truF, w_truL, w_chn, w_ixT, w_ixF, w_ixI, w_ixS, w_setS, w_setI, w_app, w_pop, w_ext, w_mtTy, w_isiB, w_isiI, w_isiN, w_isiS, w_isiT, w_isiF, w_isiL, w_sub_int_int, w_sub_bl_int, w_sub_bl_bl, w_sub_int_bl, w_sub_tup_int, w_sub_tup_tup, w_sub_int_tup, w_sub_bl_tup, w_sub_lst_lst, w_itT, w_itF, w_itL, w_rng1, w_rng2, w_tgN, w_tg2, w_tg3, w_ifS0, w_ifS1, atI_0, atI_1, atI_2, atI_3, atI_4, sE, sEs, sB, sI, getE, setE, Bool.not_true, Bool.false_eq_true, if_false]
    have bb : ∀ q l : Nat, l ≤ 40 → q < 2 ^ (40 - l) → blkB (blk q l) = true := fun q l hl hq => by
      show blkB (.tup [.int ((q * 2 ^ l : Nat) : Int), .int l]) = true
      rw [blk_t _ l (by omega), decide_eq_true (show ((q * 2 ^ l : Nat) : Int) % 2 ^ l = 0 by push_cast; exact Int.mul_emod_left _ _), decide_eq_true ?_]
      · rfl
      · have h := Nat.mul_le_mul_right (2 ^ l) (show q + 1 ≤ 2 ^ (40 - l) from hq)
        rw [← Nat.pow_add, show 40 - l + l = 40 by omega, Nat.add_mul, Nat.one_mul] at h
        exact_mod_cast h
    refine s_isblk 56 (p := blk q l) (typd_of rfl) ?_
    rw [bb q l hl hq]
    refine s_isblk 56 (p := blk q' l') (typd_of rfl) ?_
    rw [bb q' l' hl' hq']
    refine s_same 1 58 (p := .tup [.bl true, .bl true]) rfl ?_
    simp only [w_asg, w_par, w_seti, w_aug, w_exp, w_ret, w_retn, w_ife, w_pas, w_brk, w_cnt, w_nil, w_cons, w_len_loc, w_len_tup, w_len_frl, w_abs, w_max, w_min, w_int, w_str, w_tup_tup, w_tup_frl, w_tup_loc, w_lst_tup, w_lst_frl, w_lst_loc, w_add, w_addT, w_addS, w_addL, w_sub, w_mul, w_mulT, w_mulL, w_div, w_mod, w_pow, w_shl, w_shr, w_aadd, w_asub, w_amul, w_lt, w_le, w_gt, w_ge, w_eq, w_ne, w_eqB, w_neB, w_neg, w_truB, w_truI, w_truN, w_truT, w_truF, w_truL, w_chn, w_ixT, w_ixF, w_ixI, w_ixS, w_setS, w_setI, w_app, w_pop, w_ext, w_mtTy, w_isiB, w_isiI, w_isiN, w_isiS, w_isiT, w_isiF, w_isiL, w_sub_int_int, w_sub_bl_int, w_sub_bl_bl, w_sub_int_bl, w_sub_tup_int, w_sub_tup_tup, w_sub_int_tup, w_sub_bl_tup, w_sub_lst_lst, w_itT, w_itF, w_itL, w_rng1, w_rng2, w_tgN, w_tg2, w_tg3, w_ifS0, w_ifS1, atI_0, atI_1, atI_2, atI_3, atI_4, sE, sEs, sB, sI, getE, setE, Bool.not_true, Bool.false_eq_true, if_false, if_true]
    refine s_held 51 t3 hl hq fun S4 t4 => ?_
    simp only [w_asg, w_par, w_seti, w_aug, w_exp, w_ret, w_retn, w_ife, w_pas, w_brk, w_cnt, w_nil, w_cons, w_len_loc, w_len_tup, w_len_frl, w_abs, w_max, w_min, w_int, w_str, w_tup_tup, w_tup_frl, w_tup_loc, w_lst_tup, w_lst_frl, w_lst_loc, w_add, w_addT, w_addS, w_addL, w_sub, w_mul, w_mulT, w_mulL, w_div, w_mod, w_pow, w_shl, w_shr, w_aadd, w_asub, w_amul, w_lt, w_le, w_gt, w_ge, w_eq, w_ne, w_eqB, w_neB, w_neg, w_truB, w_truI, w_truN, w_truT, w_truF, w_truL, w_chn, w_ixT, w_ixF, w_ixI, w_ixS, w_setS, w_setI, w_app, w_pop, w_ext, w_mtTy, w_isiB, w_isiI, w_isiN, w_isiS, w_isiT, w_isiF, w_isiL, w_sub_int_int, w_sub_bl_int, w_sub_bl_bl, w_sub_int_bl, w_sub_tup_int, w_sub_tup_tup, w_sub_int_tup, w_sub_bl_tup, w_sub_lst_lst, w_itT, w_itF, w_itL, w_rng1, w_rng2, w_tgN, w_tg2, w_tg3, w_ifS0, w_ifS1, atI_0, atI_1, atI_2, atI_3, atI_4, sE, sEs, sB, sI, getE, setE, Bool.not_true, Bool.false_eq_true, if_false, if_true]
    refine s_held 51 t4 hl' hq' fun S5 t5 => ?_
    simp only [w_asg, w_par, w_seti, w_aug, w_exp, w_ret, w_retn, w_ife, w_pas, w_brk, w_cnt, w_nil, w_cons, w_len_loc, w_len_tup, w_len_frl, w_abs, w_max, w_min, w_int, w_str, w_tup_tup, w_tup_frl, w_tup_loc, w_lst_tup, w_lst_frl, w_lst_loc, w_add, w_addT, w_addS, w_addL, w_sub, w_mul, w_mulT, w_mulL, w_div, w_mod, w_pow, w_shl, w_shr, w_aadd, w_asub, w_amul, w_lt, w_le, w_gt, w_ge, w_eq, w_ne, w_eqB, w_neB, w_neg, w_truB, w_truI, w_truN, w_truT, w_truF, w_truL, w_chn, w_ixT, w_ixF, w_ixI, w_ixS, w_setS, w_setI, w_app, w_pop, w_ext, w_mtTy, w_isiB, w_isiI, w_isiN, w_isiS, w_isiT, w_isiF, w_isiL, w_sub_int_int, w_sub_bl_int, w_sub_bl_bl, w_sub_int_bl, w_sub_tup_int, w_sub_tup_tup, w_sub_int_tup, w_sub_bl_tup, w_sub_lst_lst, w_itT, w_itF, w_itL, w_rng1, w_rng2, w_tgN, w_tg2, w_tg3, w_ifS0, w_ifS1, atI_0, atI_1, atI_2, atI_3, atI_4, sE, sEs, sB, sI, getE, setE, Bool.not_true, Bool.false_eq_true, if_false, if_true]
    refine ⟨⟨by decide, by decide⟩, ?_⟩
    refine runFor_inv0 (fun i env S' => TileAt S' a b ∧ ∃ o1 o4 o5 o6, env = [some (.frl (ns.map .int)), some (.loc a), o1, some (blk q l), some (blk q' l'), o4, o5, o6]) ⟨t5, _, _, _, _, rfl⟩ ?_ ?_
    · rintro i p env S' hi ⟨t6, o1, o4, o5, o6, rfl⟩
      refine ⟨trivial, fun nxt hx => ?_⟩
      simp only [w_asg, w_par, w_seti, w_aug, w_exp, w_ret, w_retn, w_ife, w_pas, w_brk, w_cnt, w_nil, w_cons, w_len_loc, w_len_tup, w_len_frl, w_abs, w_max, w_min, w_int, w_str, w_tup_tup, w_tup_frl, w_tup_loc, w_lst_tup, w_lst_frl, w_lst_loc, w_add, w_addT, w_addS, w_addL, w_sub, w_mul, w_mulT, w_mulL, w_div, w_mod, w_pow, w_shl, w_shr, w_aadd, w_asub, w_amul, w_lt, w_le, w_gt, w_ge, w_eq, w_ne, w_eqB, w_neB, w_neg, w_truB, w_truI, w_truN, w_truT, w_truF, w_truL, w_chn, w_ixT, w_ixF, w_ixI, w_ixS, w_setS, w_setI, w_app, w_pop, w_ext, w_mtTy, w_isiB, w_isiI, w_isiN, w_isiS, w_isiT, w_isiF, w_isiL, w_sub_int_int, w_sub_bl_int, w_sub_bl_bl, w_sub_int_bl, w_sub_tup_int, w_sub_tup_tup, w_sub_int_tup, w_sub_bl_tup, w_sub_lst_lst, w_itT, w_itF, w_itL, w_rng1, w_rng2, w_tgN, w_tg2, w_tg3, w_ifS0, w_ifS1, atI_0, atI_1, atI_2, atI_3, atI_4, sE, sEs, sB, sI, getE, setE]
      refine s_bent 57 (u := ((q * 2 ^ l : Nat) : Int)) (l := l) t6 hl fun p S7 t7 ht => ?_
      try simp only [w_asg, w_par, w_seti, w_aug, w_exp, w_ret, w_retn, w_ife, w_pas, w_brk, w_cnt, w_nil, w_cons, w_len_loc, w_len_tup, w_len_frl, w_abs, w_max, w_min, w_int, w_str, w_tup_tup, w_tup_frl, w_tup_loc, w_lst_tup, w_lst_frl, w_lst_loc, w_add, w_addT, w_addS, w_addL, w_sub, w_mul, w_mulT, w_mulL, w_div, w_mod, w_pow, w_shl, w_shr, w_aadd, w_asub, w_amul, w_lt, w_le, w_gt, w_ge, w_eq, w_ne, w_eqB, w_neB, w_neg, w_truB, w_truI, w_truN, w_truT, w_truF, w_truL, w_chn, w_ixT, w_ixF, w_ixI, w_ixS, w_setS, w_setI, w_app, w_pop, w_ext, w_mtTy, w_isiB, w_isiI, w_isiN, w_isiS, w_isiT, w_isiF, w_isiL, w_sub_int_int, w_sub_bl_int, w_sub_bl_bl, w_sub_int_bl, w_sub_tup_int, w_sub_tup_tup, w_sub_int_tup, w_sub_bl_tup, w_sub_lst_lst, w_itT, w_itF, w_itL, w_rng1, w_rng2, w_tgN, w_tg2, w_tg3, w_ifS0, w_ifS1, atI_0, atI_1, atI_2, atI_3, atI_4, sE, sEs, sB, sI, getE, setE]
      refine s_isblk 56 ht ?_
      try simp only [w_asg, w_par, w_seti, w_aug, w_exp, w_ret, w_retn, w_ife, w_pas, w_brk, w_cnt, w_nil, w_cons, w_len_loc, w_len_tup, w_len_frl, w_abs, w_max, w_min, w_int, w_str, w_tup_tup, w_tup_frl, w_tup_loc, w_lst_tup, w_lst_frl, w_lst_loc, w_add, w_addT, w_addS, w_addL, w_sub, w_mul, w_mulT, w_mulL, w_div, w_mod, w_pow, w_shl, w_shr, w_aadd, w_asub, w_amul, w_lt, w_le, w_gt, w_ge, w_eq, w_ne, w_eqB, w_neB, w_neg, w_truB, w_truI, w_truN, w_truT, w_truF, w_truL, w_chn, w_ixT, w_ixF, w_ixI, w_ixS, w_setS, w_setI, w_app, w_pop, w_ext, w_mtTy, w_isiB, w_isiI, w_isiN, w_isiS, w_isiT, w_isiF, w_isiL, w_sub_int_int, w_sub_bl_int, w_sub_bl_bl, w_sub_int_bl, w_sub_tup_int, w_sub_tup_tup, w_sub_int_tup, w_sub_bl_tup, w_sub_lst_lst, w_itT, w_itF, w_itL, w_rng1, w_rng2, w_tgN, w_tg2, w_tg3, w_ifS0, w_ifS1, atI_0, atI_1, atI_2, atI_3, atI_4, sE, sEs, sB, sI, getE, setE]
      refine s_lisblk 57 ht ?_
      refine s_same 0 59 (p := .bl _) rfl ?_
      simp only [w_asg, w_par, w_seti, w_aug, w_exp, w_ret, w_retn, w_ife, w_pas, w_brk, w_cnt, w_nil, w_cons, w_len_loc, w_len_tup, w_len_frl, w_abs, w_max, w_min, w_int, w_str, w_tup_tup, w_tup_frl, w_tup_loc, w_lst_tup, w_lst_frl, w_lst_loc, w_add, w_addT, w_addS, w_addL, w_sub, w_mul, w_mulT, w_mulL, w_div, w_mod, w_pow, w_shl, w_shr, w_aadd, w_asub, w_amul, w_lt, w_le, w_gt, w_ge, w_eq, w_ne, w_eqB, w_neB, w_neg, w_truB, w_truI, w_truN, w_truT, w_truF, w_truL, w_chn, w_ixT, w_ixF, w_ixI, w_ixS, w_setS, w_setI, w_app, w_pop, w_ext, w_mtTy, w_isiB, w_isiI, w_isiN, w_isiS, w_isiT, w_isiF, w_isiL, w_sub_int_int, w_sub_bl_int, w_sub_bl_bl, w_sub_int_bl, w_sub_tup_int, w_sub_tup_tup, w_sub_int_tup, w_sub_bl_tup, w_sub_lst_lst, w_itT, w_itF, w_itL, w_rng1, w_rng2, w_tgN, w_tg2, w_tg3, w_ifS0, w_ifS1, atI_0, atI_1, atI_2, atI_3, atI_4, sE, sEs, sB, sI, getE, setE, Bool.not_true, Bool.false_eq_true, if_false, if_true]
      exact hx _ _ ⟨t7, _, _, _, _, rfl⟩
    · rintro env S' ⟨t6, o1, o4, o5, o6, rfl⟩
      exact ⟨trivial, hx _ _ ⟨t6, _, _, _, _, _, _, rfl⟩⟩
  · rintro env S' ⟨t', o1, o2, o3, o4, o5, o6, rfl⟩
    refine ⟨trivial, ?_⟩
    try simp only [w_asg, w_par, w_seti, w_aug, w_exp, w_ret, w_retn, w_ife, w_pas, w_brk, w_cnt, w_nil, w_cons, w_len_loc, w_len_tup, w_len_frl, w_abs, w_max, w_min, w_int, w_str, w_tup_tup, w_tup_frl, w_tup_loc, w_lst_tup, w_lst_frl, w_lst_loc, w_add, w_addT, w_addS, w_addL, w_sub, w_mul, w_mulT, w_mulL, w_div, w_mod, w_pow, w_shl, w_shr, w_aadd, w_asub, w_amul, w_lt, w_le, w_gt, w_ge, w_eq, w_ne, w_eqB, w_neB, w_neg, w_truB, w_truI, w_truN, w_truT, w_truF, w_truL, w_chn, w_ixT, w_ixF, w_ixI, w_ixS, w_setS, w_setI, w_app, w_pop, w_ext, w_mtTy, w_isiB, w_isiI, w_isiN, w_isiS, w_isiT, w_isiF, w_isiL, w_sub_int_int, w_sub_bl_int, w_sub_bl_bl, w_sub_int_bl, w_sub_tup_int, w_sub_tup_tup, w_sub_int_tup, w_sub_bl_tup, w_sub_lst_lst, w_itT, w_itF, w_itL, w_rng1, w_rng2, w_tgN, w_tg2, w_tg3, w_ifS0, w_ifS1, atI_0, atI_1, atI_2, atI_3, atI_4, sE, sEs, sB, sI, getE, setE]
    exact ⟨_, sub_refl _, trivial⟩
end K01
open PySem PySem.W PyProof.Rows
set_option maxHeartbeats 0 in
theorem PySem.Challenge.cw_nevermoved_k01_blocks_holds : PySem.Challenge.rw_nevermoved_k01_blocks.Holds := by
  w_on; o_law; k_head; (case hw => w_witness2)
  k_fill
  refine L2.walk_of (l := PySem.Challenge.rw_nevermoved_k01_blocks) (n := 63) (k := 60 + 1) (x := "script") (CX := fun w => L2.CX PySem.Challenge.pw_nevermoved_k01_blocks w) (sp := fun w => PL.lawSp _ (PL.fnS (PL.Tb K01.Ds K01.con 60) K01.D_law) 1) rfl (by decide) rfl ⟨rfl, by decide, by decide⟩ (fun w h Y => PySem.W.kIn_of Y) ?F (fun _ _ a ns hl ho hS => PL.law_spG K01.law_holds hl ho hS) (fun w H s e s' h => PL.cx_no H s e s' h)
  case F =>
    intro w mg fa h KX G hmg
    refine' K01.all_mk KX G hmg 60 ?d_is_whole ?d_is_number ?d_is_below ?d_level_of ?d_block_span ?d_is_block ?d_blocks_meet ?d_halves ?d_holder_of ?d__law_tile ?d__law_glow ?d__law_of ?d__law_power ?d__law_block ?d__law_beside ?d__law_integer ?d__law_is_block ?d__law_bent ?d__law_same ?d__law_span ?d__law_meet ?d__law_sizes ?d__law_held ?d_law ?z_isinstance ?z_bool ?z_int ?z_len ?z_tuple ?z_range ?z_min ?z_abs ?z_str ?z_max ?c_WORLD ?c_LEVELS
    (case d_is_whole => (refine' PL.def_in ?a ?l ?c ?k; (case a => k_is); (case l => k_is); (case c => k_is); (case k => k_is)))
    (case d_is_number => (refine' PL.def_in ?a ?l ?c ?k; (case a => k_is); (case l => k_is); (case c => k_is); (case k => k_is)))
    (case d_is_below => (refine' PL.def_in ?a ?l ?c ?k; (case a => k_is); (case l => k_is); (case c => k_is); (case k => k_is)))
    (case d_level_of => (refine' PL.def_in ?a ?l ?c ?k; (case a => k_is); (case l => k_is); (case c => k_is); (case k => k_is)))
    (case d_block_span => (refine' PL.def_in ?a ?l ?c ?k; (case a => k_is); (case l => k_is); (case c => k_is); (case k => k_is)))
    (case d_is_block => (refine' PL.def_in ?a ?l ?c ?k; (case a => k_is); (case l => k_is); (case c => k_is); (case k => k_is)))
    (case d_blocks_meet => (refine' PL.def_in ?a ?l ?c ?k; (case a => k_is); (case l => k_is); (case c => k_is); (case k => k_is)))
    (case d_halves => (refine' PL.def_in ?a ?l ?c ?k; (case a => k_is); (case l => k_is); (case c => k_is); (case k => k_is)))
    (case d_holder_of => (refine' PL.def_in ?a ?l ?c ?k; (case a => k_is); (case l => k_is); (case c => k_is); (case k => k_is)))
    (case d__law_tile => (refine' PL.def_in ?a ?l ?c ?k; (case a => k_is); (case l => k_is); (case c => k_is); (case k => k_is)))
    (case d__law_glow => (refine' PL.def_in ?a ?l ?c ?k; (case a => k_is); (case l => k_is); (case c => k_is); (case k => k_is)))
    (case d__law_of => (refine' PL.def_in ?a ?l ?c ?k; (case a => k_is); (case l => k_is); (case c => k_is); (case k => k_is)))
    (case d__law_power => (refine' PL.def_in ?a ?l ?c ?k; (case a => k_is); (case l => k_is); (case c => k_is); (case k => k_is)))
    (case d__law_block => (refine' PL.def_in ?a ?l ?c ?k; (case a => k_is); (case l => k_is); (case c => k_is); (case k => k_is)))
    (case d__law_beside => (refine' PL.def_in ?a ?l ?c ?k; (case a => k_is); (case l => k_is); (case c => k_is); (case k => k_is)))
    (case d__law_integer => (refine' PL.def_in ?a ?l ?c ?k; (case a => k_is); (case l => k_is); (case c => k_is); (case k => k_is)))
    (case d__law_is_block => (refine' PL.def_in ?a ?l ?c ?k; (case a => k_is); (case l => k_is); (case c => k_is); (case k => k_is)))
    (case d__law_bent => (refine' PL.def_in ?a ?l ?c ?k; (case a => k_is); (case l => k_is); (case c => k_is); (case k => k_is)))
    (case d__law_same => (refine' PL.def_in ?a ?l ?c ?k; (case a => k_is); (case l => k_is); (case c => k_is); (case k => k_is)))
    (case d__law_span => (refine' PL.def_in ?a ?l ?c ?k; (case a => k_is); (case l => k_is); (case c => k_is); (case k => k_is)))
    (case d__law_meet => (refine' PL.def_in ?a ?l ?c ?k; (case a => k_is); (case l => k_is); (case c => k_is); (case k => k_is)))
    (case d__law_sizes => (refine' PL.def_in ?a ?l ?c ?k; (case a => k_is); (case l => k_is); (case c => k_is); (case k => k_is)))
    (case d__law_held => (refine' PL.def_in ?a ?l ?c ?k; (case a => k_is); (case l => k_is); (case c => k_is); (case k => k_is)))
    (case d_law => (refine' PL.def_in ?a ?l ?c ?k; (case a => k_is); (case l => k_is); (case c => k_is); (case k => k_is)))
    (case z_isinstance => k_is)
    (case z_bool => k_is)
    (case z_int => k_is)
    (case z_len => k_is)
    (case z_tuple => k_is)
    (case z_range => k_is)
    (case z_min => k_is)
    (case z_abs => k_is)
    (case z_str => k_is)
    (case z_max => k_is)
    (case c_WORLD => (refine' PL.int_in ?a; (case a => k_is)))
    (case c_LEVELS => (refine' PL.int_in ?a; (case a => k_is)))
