import PyProof.Rows.All
import Wide.All
import OpenK.AllK
import Wide.FinOn
import HandS.ForMost
import HandS.Exc
import HandS.ExcInit
import HandS.ExcOwn
import HandS.TryOnly
import HandS.WordsExc
import HandS.Flow
import HandS.Defaults
import HandS.Zip
import HandS.HeadHook4
import HandS.TupAny
import HandS.Deep
import HandS.IsInst
import HandS.RaiseMore
import HandS.Conv
import HandS.Ends
import HandS.Head0
import HandS.Head1
import HandS.Head2
import HandS.HeadEnd
import KE.IntTextLaws
import Lean
import PySem.Challenge.RW_likewise_k81_beginnings_written
set_option Elab.async false
set_option linter.all false
set_option maxRecDepth 100000
set_option maxHeartbeats 0
/-! Av1: values with tuples as plain data; judgements over the hand layer's. -/
namespace Av
open PySem PySem.Spec PyProof.Rows L2

/-- a value; tuples are data, lists, dicts and instances stand in the heap -/
inductive AV where
  | non | bl (b : Bool) | int (i : Int) | str (x : Str) | tup (xs : List AV) | ref (a : Addr) | ty (n : String)
/-- what stands at an address: a list, a list that is only read, a dict with int and text keys, an instance -/
inductive AO where
  | lst (xs : List AV) | rls (xs : List AV) | dK (kvs : List (Key × AV)) | ins (C : Addr) (L : List Str) (vs : List AV)
abbrev AHp := Addr → Option AO
abbrev ASt := List (Option AV)
abbrev AVK := AV → AHp → Prop
/-- an exception: its class, its fields -/
abbrev AXK := Addr → List (Str × AV) → AHp → Prop

def aupd (H : AHp) (a : Addr) (o : AO) : AHp := fun b => if b = a then some o else H b
theorem aupd_same {H : AHp} {a : Addr} {o : AO} : aupd H a o a = some o := by unfold aupd; rw [if_pos rfl]
theorem aupd_ne {H : AHp} {a b : Addr} {o : AO} (h : b ≠ a) : aupd H a o b = H b := by unfold aupd; rw [if_neg h]
theorem aupd_aupd {H : AHp} {a : Addr} {o u : AO} : aupd (aupd H a o) a u = aupd H a u := by
  funext b; unfold aupd; split <;> rfl

mutual
def RepV (K : PySem.W.Frag) (H : Hp) : AV → V → Prop
  | .non, v => v = .non
  | .bl b, v => v = .bl b
  | .int i, v => v = .int i
  | .str s, v => v = .str s ∧ s.length ≤ sizeLine
  | .ref a, v => v = .ref a
  | .ty n, v => v = .ty n
  | .tup xs, v => ∃ a vs, v = .ref a ∧ SqT K H a vs ∧ xs.length ≤ sizeLine ∧ RepVs K H xs vs
def RepVs (K : PySem.W.Frag) (H : Hp) : List AV → List V → Prop
  | [], vs => vs = []
  | x :: xs, vs => ∃ v r, vs = v :: r ∧ RepV K H x v ∧ RepVs K H xs r
end

/-- tuples and frozen things stay -/
def Kept (H H' : Hp) : Prop := (∀ b xs, H b = some (.tup xs) → H' b = some (.tup xs)) ∧ ∀ b o u, H b = some (.frz o u) → H' b = some (.frz o u)
theorem Kept.refl {H : Hp} : Kept H H := ⟨fun _ _ h => h, fun _ _ _ h => h⟩
theorem Kept.trans {H H1 H2 : Hp} (a : Kept H H1) (b : Kept H1 H2) : Kept H H2 := ⟨fun c xs h => b.1 c xs (a.1 c xs h), fun c o u h => b.2 c o u (a.2 c o u h)⟩
theorem Kept.new {H : Hp} {p : Addr} {o : HO} (h : H p = none) : Kept H (upd H p o) :=
  ⟨fun b xs e => by rw [upd_ne (ne_of_none e h)]; exact e, fun b ob u e => by rw [upd_ne (ne_of_none e h)]; exact e⟩
theorem Kept.write {H : Hp} {p : Addr} {o o' : HO} (h : H p = some o) (m : Mut (some o)) : Kept H (upd H p o') :=
  ⟨fun b xs e => by
    rw [upd_ne (fun z => ?_)]
    · exact e
    · subst z; rw [h] at e; cases e; exact m,
   fun b ob u e => by
    rw [upd_ne (fun z => ?_)]
    · exact e
    · subst z; rw [h] at e; cases e; exact m⟩
theorem Kept.rd {H H' : Hp} (k : Kept H H') {K : PySem.W.Frag} {a : Addr} {xs : List V} (h : SqT K H a xs) : SqT K H' a xs := by
  rcases h with (h | ⟨o, h⟩) | h
  · exact .inl (.inl (k.1 _ _ h))
  · exact .inl (.inr ⟨o, k.2 _ _ _ h⟩)
  · exact .inr h
mutual
theorem RepV.kept {K : PySem.W.Frag} {H H' : Hp} (k : Kept H H') : ∀ {x : AV} {v : V}, RepV K H x v → RepV K H' x v
  | .non, _, h => h
  | .bl _, _, h => h
  | .int _, _, h => h
  | .str _, _, h => h
  | .ref _, _, h => h
  | .ty _, _, h => h
  | .tup xs, v, ⟨a, vs, e, s, l, r⟩ => ⟨a, vs, e, k.rd s, l, RepVs.kept k r⟩
theorem RepVs.kept {K : PySem.W.Frag} {H H' : Hp} (k : Kept H H') : ∀ {xs : List AV} {vs : List V}, RepVs K H xs vs → RepVs K H' xs vs
  | [], _, h => h
  | x :: xs, _, ⟨v, r, e, h1, h2⟩ => ⟨v, r, e, RepV.kept k h1, RepVs.kept k h2⟩
end
theorem RepVs.length {K : PySem.W.Frag} {H : Hp} : ∀ {xs : List AV} {vs : List V}, RepVs K H xs vs → vs.length = xs.length
  | [], _, h => by cases h; rfl
  | x :: xs, _, ⟨v, r, e, _, h2⟩ => by subst e; simp [RepVs.length h2]
theorem RepVs.get {K : PySem.W.Frag} {H : Hp} : ∀ {xs : List AV} {vs : List V} {i : Nat} {x : AV}, RepVs K H xs vs → xs[i]? = some x → ∃ v, vs[i]? = some v ∧ RepV K H x v
  | [], _, _, _, _, e => by simp at e
  | y :: ys, _, 0, x, ⟨v, r, e, h1, _⟩, q => by subst e; simp at q; subst q; exact ⟨v, rfl, h1⟩
  | y :: ys, _, i + 1, x, ⟨v, r, e, _, h2⟩, q => by
    subst e
    obtain ⟨w, e1, e2⟩ := RepVs.get (i := i) h2 (by simpa using q)
    exact ⟨w, by simpa using e1, e2⟩
theorem RepVs.getV {K : PySem.W.Frag} {H : Hp} : ∀ {xs : List AV} {vs : List V} {i : Nat} {v : V}, RepVs K H xs vs → vs[i]? = some v → ∃ x, xs[i]? = some x ∧ RepV K H x v
  | [], _, _, _, h, e => by cases h; simp at e
  | y :: ys, _, 0, x, ⟨v, r, e, h1, _⟩, q => by subst e; simp at q; subst q; exact ⟨y, rfl, h1⟩
  | y :: ys, _, i + 1, x, ⟨v, r, e, _, h2⟩, q => by
    subst e
    obtain ⟨w, e1, e2⟩ := RepVs.getV (i := i) h2 (by simpa using q)
    exact ⟨w, by simpa using e1, e2⟩
theorem RepVs.append {K : PySem.W.Frag} {H : Hp} : ∀ {xs ys : List AV} {vs ws : List V}, RepVs K H xs vs → RepVs K H ys ws → RepVs K H (xs ++ ys) (vs ++ ws)
  | [], _, _, _, h, g => by cases h; exact g
  | x :: xs, _, _, _, ⟨v, r, e, h1, h2⟩, g => by subst e; exact ⟨v, r ++ _, rfl, h1, RepVs.append h2 g⟩
theorem RepVs.set {K : PySem.W.Frag} {H : Hp} {y : AV} {w : V} (q : RepV K H y w) : ∀ {xs : List AV} {vs : List V} (i : Nat), RepVs K H xs vs → RepVs K H (xs.set i y) (vs.set i w)
  | [], _, _, h => by cases h; exact rfl
  | x :: xs, _, 0, ⟨v, r, e, _, h2⟩ => by subst e; exact ⟨w, r, rfl, q, h2⟩
  | x :: xs, _, i + 1, ⟨v, r, e, h1, h2⟩ => by subst e; exact ⟨v, r.set i w, rfl, h1, RepVs.set q i h2⟩
theorem RepVs.take {K : PySem.W.Frag} {H : Hp} : ∀ {xs : List AV} {vs : List V} (n : Nat), RepVs K H xs vs → RepVs K H (xs.take n) (vs.take n)
  | _, _, 0, _ => by simp [RepVs]
  | [], _, _ + 1, h => by cases h; simp [RepVs]
  | x :: xs, _, n + 1, ⟨v, r, e, h1, h2⟩ => by subst e; exact ⟨v, r.take n, rfl, h1, RepVs.take n h2⟩
theorem RepVs.drop {K : PySem.W.Frag} {H : Hp} : ∀ {xs : List AV} {vs : List V} (n : Nat), RepVs K H xs vs → RepVs K H (xs.drop n) (vs.drop n)
  | _, _, 0, h => h
  | [], _, _ + 1, h => by cases h; exact rfl
  | x :: xs, _, n + 1, ⟨v, r, e, h1, h2⟩ => by subst e; exact RepVs.drop n h2
theorem RepVs.map {K : PySem.W.Frag} {H : Hp} {α : Type} {f : α → AV} {g : α → V} : ∀ {l : List α}, (∀ x ∈ l, RepV K H (f x) (g x)) → RepVs K H (l.map f) (l.map g)
  | [], _ => rfl
  | x :: l, h => ⟨g x, l.map g, rfl, h x List.mem_cons_self, RepVs.map fun y hy => h y (List.mem_cons_of_mem _ hy)⟩

/-- pairs by a key -/
def RepKs (K : PySem.W.Frag) (H : Hp) {κ : Type} : List (κ × AV) → List (κ × V) → Prop
  | [], l => l = []
  | x :: xs, l => ∃ v r, l = (x.1, v) :: r ∧ RepV K H x.2 v ∧ RepKs K H xs r
theorem RepKs.kept {K : PySem.W.Frag} {H H' : Hp} (k : Kept H H') {κ : Type} : ∀ {xs : List (κ × AV)} {l : List (κ × V)}, RepKs K H xs l → RepKs K H' xs l
  | [], _, h => h
  | x :: xs, _, ⟨v, r, e, h1, h2⟩ => ⟨v, r, e, h1.kept k, RepKs.kept k h2⟩
def RepO (K : PySem.W.Frag) (H : Hp) (a : Addr) : AO → Prop
  | .lst xs => ∃ vs, H a = some (.lst vs) ∧ xs.length ≤ sizeLine ∧ RepVs K H xs vs
  | .rls xs => ∃ o vs, H a = some (.frz o (.lst vs)) ∧ xs.length ≤ sizeLine ∧ RepVs K H xs vs
  | .dK kvs => ∃ l, H a = some (.dK l) ∧ RepKs K H kvs l
  | .ins C L vs => ∃ dx l, H a = some (.ins C dx l) ∧ vs.length = L.length ∧ RepKs K H (L.zip vs) l
/-- the heap of data is held by the layer's heap -/
def Rel (K : PySem.W.Frag) (AH : AHp) (H : Hp) : Prop := ∀ a o, AH a = some o → RepO K H a o
def RepS (K : PySem.W.Frag) (H : Hp) : ASt → L2.St → Prop
  | [], l => l = []
  | x :: xs, l => ∃ v r, l = v :: r ∧ (∀ a, x = some a → ∃ u, v = some u ∧ RepV K H a u) ∧ RepS K H xs r
theorem RepS.kept {K : PySem.W.Frag} {H H' : Hp} (k : Kept H H') : ∀ {xs : ASt} {l : L2.St}, RepS K H xs l → RepS K H' xs l
  | [], _, h => h
  | x :: xs, _, ⟨v, r, e, h1, h2⟩ => ⟨v, r, e, fun a q => let ⟨u, e1, e2⟩ := h1 a q; ⟨u, e1, e2.kept k⟩, RepS.kept k h2⟩
def slot : ASt → Nat → Option AV
  | [], _ => none
  | x :: _, 0 => x
  | _ :: r, i + 1 => slot r i
def setSlot : ASt → Nat → AV → ASt
  | [], _, _ => []
  | _ :: r, 0, v => some v :: r
  | x :: r, i + 1, v => x :: setSlot r i v
def clrSlot : ASt → Nat → ASt
  | [], _ => []
  | _ :: r, 0 => none :: r
  | x :: r, i + 1 => x :: clrSlot r i
theorem RepS.at_ {K : PySem.W.Frag} {H : Hp} : ∀ {xs : ASt} {l : L2.St} {i : Nat} {x : AV}, RepS K H xs l → slot xs i = some x → ∃ v, l[i]? = some (some v) ∧ RepV K H x v
  | [], _, _, _, _, e => by simp [Av.slot] at e
  | y :: ys, _, 0, x, ⟨v, r, e, h1, _⟩, q => by subst e; simp [Av.slot] at q; obtain ⟨u, rfl, e2⟩ := h1 x q; exact ⟨u, rfl, e2⟩
  | y :: ys, _, i + 1, x, ⟨v, r, e, _, h2⟩, q => by
    subst e
    obtain ⟨w, e1, e2⟩ := RepS.at_ (i := i) h2 (by simpa [Av.slot] using q)
    exact ⟨w, by simpa using e1, e2⟩
theorem RepS.set {K : PySem.W.Frag} {H : Hp} {y : AV} {w : V} (q : RepV K H y w) : ∀ {xs : ASt} {l : L2.St} (i : Nat), RepS K H xs l → RepS K H (setSlot xs i y) (l.set i (some w))
  | [], _, _, h => by cases h; exact rfl
  | x :: xs, _, 0, ⟨v, r, e, _, h2⟩ => by subst e; exact ⟨some w, r, rfl, fun a z => by cases z; exact ⟨w, rfl, q⟩, h2⟩
  | x :: xs, _, i + 1, ⟨v, r, e, h1, h2⟩ => by subst e; exact ⟨v, r.set i (some w), rfl, h1, RepS.set q i h2⟩
theorem RepS.clr {K : PySem.W.Frag} {H : Hp} : ∀ {xs : ASt} {l : L2.St} (i : Nat), RepS K H xs l → RepS K H (clrSlot xs i) (l.set i none)
  | [], _, _, h => by cases h; exact rfl
  | x :: xs, _, 0, ⟨v, r, e, _, h2⟩ => by subst e; exact ⟨none, r, rfl, fun a z => (nomatch z), h2⟩
  | x :: xs, _, i + 1, ⟨v, r, e, h1, h2⟩ => by subst e; exact ⟨v, r.set i none, rfl, h1, RepS.clr i h2⟩
/-- a weaker knowledge of slots -/
theorem RepS.weak {K : PySem.W.Frag} {H : Hp} : ∀ {xs ys : ASt} {l : L2.St}, RepS K H xs l → ys.length = xs.length → (∀ i v, Av.slot ys i = some v → Av.slot xs i = some v) → RepS K H ys l
  | [], [], _, h, _, _ => h
  | x :: xs, y :: ys, _, ⟨v, r, e, h1, h2⟩, hl, hw =>
    ⟨v, r, e, fun a q => h1 a (by simpa [Av.slot] using hw 0 a (by simpa [Av.slot] using q)), RepS.weak h2 (by simpa using hl) fun i v q => by simpa [Av.slot] using hw (i + 1) v (by simpa [Av.slot] using q)⟩
  | [], _ :: _, _, _, hl, _ => by simp at hl
  | _ :: _, [], _, _, hl, _ => by simp at hl

theorem Rel.free {K : PySem.W.Frag} {AH : AHp} {H : Hp} (r : Rel K AH H) {p : Addr} (h : H p = none) : AH p = none := by
  cases e : AH p with
  | none => rfl
  | some o =>
    have q := r p o e
    cases o with
    | lst xs => obtain ⟨vs, e1, _⟩ := q; rw [h] at e1; cases e1
    | rls xs => obtain ⟨o, vs, e1, _⟩ := q; rw [h] at e1; cases e1
    | dK kvs => obtain ⟨l, e1, _⟩ := q; rw [h] at e1; cases e1
    | ins C L vs => obtain ⟨dx, l, e1, _⟩ := q; rw [h] at e1; cases e1
theorem RepO.kept {K : PySem.W.Frag} {H H' : Hp} {a : Addr} (k : Kept H H') (e : H' a = H a) : ∀ {o : AO}, RepO K H a o → RepO K H' a o
  | .lst xs, ⟨vs, e1, l, r⟩ => ⟨vs, by rw [e]; exact e1, l, r.kept k⟩
  | .rls xs, ⟨o, vs, e1, l, r⟩ => ⟨o, vs, by rw [e]; exact e1, l, r.kept k⟩
  | .dK kvs, ⟨l, e1, r⟩ => ⟨l, by rw [e]; exact e1, r.kept k⟩
  | .ins C L vs, ⟨dx, l, e1, z, r⟩ => ⟨dx, l, by rw [e]; exact e1, z, r.kept k⟩
/-- a new object that is not told -/
theorem Rel.new {K : PySem.W.Frag} {AH : AHp} {H : Hp} (r : Rel K AH H) {p : Addr} {o : HO} (h : H p = none) : Rel K AH (upd H p o) := fun a u e => by
  have ne : a ≠ p := fun z => by rw [z, r.free h] at e; cases e
  exact (r a u e).kept (Kept.new h) (upd_ne ne)
/-- .. that is told -/
theorem Rel.add {K : PySem.W.Frag} {AH : AHp} {H : Hp} (r : Rel K AH H) {p : Addr} {o : HO} {u : AO} (h : H p = none) (q : RepO K (upd H p o) p u) : Rel K (aupd AH p u) (upd H p o) := fun a v e => by
  by_cases z : a = p
  · subst z; rw [aupd_same] at e; cases e; exact q
  · rw [aupd_ne z] at e
    exact r.new h a v e
/-- an object written -/
theorem Rel.write {K : PySem.W.Frag} {AH : AHp} {H : Hp} (r : Rel K AH H) {p : Addr} {o o' : HO} {u : AO} (h : H p = some o) (m : Mut (some o)) (q : RepO K (upd H p o') p u) : Rel K (aupd AH p u) (upd H p o') := fun a v e => by
  by_cases z : a = p
  · subst z; rw [aupd_same] at e; cases e; exact q
  · rw [aupd_ne z] at e
    exact (r a v e).kept (Kept.write h m) (upd_ne z)
/-- from one state to a later one: tuples stay; what is not told stays as it is, and is not told -/
structure Ext (AH : AHp) (H : Hp) (AH' : AHp) (H' : Hp) : Prop where
  kept : Kept H H'
  hid : ∀ a o, H a = some o → AH a = none → H' a = some o ∧ AH' a = none
theorem Ext.refl {AH : AHp} {H : Hp} : Ext AH H AH H := ⟨Kept.refl, fun _ _ h q => ⟨h, q⟩⟩
theorem Ext.trans {A0 A1 A2 : AHp} {H0 H1 H2 : Hp} (a : Ext A0 H0 A1 H1) (b : Ext A1 H1 A2 H2) : Ext A0 H0 A2 H2 :=
  ⟨a.kept.trans b.kept, fun c o h q => let ⟨h1, q1⟩ := a.hid c o h q; b.hid c o h1 q1⟩
theorem Ext.new {AH : AHp} {H : Hp} {p : Addr} {o : HO} (h : H p = none) : Ext AH H AH (upd H p o) :=
  ⟨Kept.new h, fun a u e q => ⟨by rw [upd_ne (ne_of_none e h)]; exact e, q⟩⟩
theorem Ext.add {AH : AHp} {H : Hp} {p : Addr} {o : HO} {u : AO} (h : H p = none) : Ext AH H (aupd AH p u) (upd H p o) :=
  ⟨Kept.new h, fun a v e q => ⟨by rw [upd_ne (ne_of_none e h)]; exact e, by rw [aupd_ne (ne_of_none e h)]; exact q⟩⟩
theorem Ext.write {AH : AHp} {H : Hp} {p : Addr} {o o' : HO} {u u' : AO} (h : H p = some o) (m : Mut (some o)) (t : AH p = some u) : Ext AH H (aupd AH p u') (upd H p o') :=
  ⟨Kept.write h m, fun a v e q => by
    have ne : a ≠ p := fun z => by rw [z, t] at q; cases q
    exact ⟨by rw [upd_ne ne]; exact e, by rw [aupd_ne ne]; exact q⟩⟩
theorem Ext.weak {AH AH' : AHp} {H : Hp} (w : ∀ a o, AH' a = some o → AH a = some o) : Ext AH H AH' H :=
  ⟨Kept.refl, fun a o h q => ⟨h, by
    cases e : AH' a with
    | none => rfl
    | some u => rw [w a u e] at q; cases q⟩⟩
/-- forgetting -/
theorem Rel.weak {K : PySem.W.Frag} {AH AH' : AHp} {H : Hp} (r : Rel K AH H) (w : ∀ a o, AH' a = some o → AH a = some o) : Rel K AH' H := fun a o e => r a o (w a o e)
end Av
/-! Av2: the judgements and the rules for expressions. -/
namespace Av
open PySem PySem.Spec PyProof.Rows L2

abbrev ATE := ASt → AHp → AVK → Prop
abbrev ATT := ASt → AHp → (Bool → AHp → Prop) → Prop
abbrev ATA := ASt → AHp → (List AV → AHp → Prop) → Prop
/-- an end over data gives an end over the layer's heap -/
abbrev Down (K : PySem.W.Frag) (AH : AHp) (H : Hp) (Q : AVK) (QH : VK) : Prop := ∀ v H' x AH', Ext AH H AH' H' → Rel K AH' H' → RepV K H' x v → Q x AH' → QH v H'
abbrev DownB (K : PySem.W.Frag) (AH : AHp) (H : Hp) (Q : Bool → AHp → Prop) (QH : Bool → Hp → Prop) : Prop := ∀ b H' AH', Ext AH H AH' H' → Rel K AH' H' → Q b AH' → QH b H'
abbrev DownL (K : PySem.W.Frag) (AH : AHp) (H : Hp) (Q : List AV → AHp → Prop) (QH : List V → Hp → Prop) : Prop := ∀ vs H' xs AH', Ext AH H AH' H' → Rel K AH' H' → RepVs K H' xs vs → Q xs AH' → QH vs H'
def cE (K : PySem.W.Frag) (t : ATE) : TE := fun σH H QH => ∃ σ AH Q, Rel K AH H ∧ RepS K H σ σH ∧ t σ AH Q ∧ Down K AH H Q QH
def cT (K : PySem.W.Frag) (t : ATT) : TT := fun σH H QH => ∃ σ AH Q, Rel K AH H ∧ RepS K H σ σH ∧ t σ AH Q ∧ DownB K AH H Q QH
def cA (K : PySem.W.Frag) (t : ATA) : TA := fun σH H QH => ∃ σ AH Q, Rel K AH H ∧ RepS K H σ σH ∧ t σ AH Q ∧ DownL K AH H Q QH
abbrev AE (X : Cx) (e : Expr) (t : ATE) : Prop := PE X e (cE X.K t)
abbrev AT (X : Cx) (e : Expr) (t : ATT) : Prop := PT X e (cT X.K t)
abbrev AW (X : Cx) (e : Expr) (t : ATT) : Prop := PW X e (cT X.K t)
abbrev AA (X : Cx) (es : List Expr) (t : ATA) : Prop := PA X es (cA X.K t)
theorem PE.imp {X : Cx} {e : Expr} {t t' : TE} (h : PE X e t) (i : ∀ σ H Q, t' σ H Q → t σ H Q) : PE X e t' := ⟨fun pins s σ H Q I hq => h.run pins s σ H Q I (i σ H Q hq)⟩
theorem PT.imp {X : Cx} {e : Expr} {t t' : TT} (h : PT X e t) (i : ∀ σ H Q, t' σ H Q → t σ H Q) : PT X e t' := ⟨fun pins s σ H Q I hq => h.run pins s σ H Q I (i σ H Q hq)⟩
theorem PW.imp {X : Cx} {e : Expr} {t t' : TT} (h : PW X e t) (i : ∀ σ H Q, t' σ H Q → t σ H Q) : PW X e t' := ⟨fun wh pins s σ H Q I hq => h.run wh pins s σ H Q I (i σ H Q hq)⟩
theorem PA.imp {X : Cx} {e : List Expr} {t t' : TA} (h : PA X e t) (i : ∀ σ H Q, t' σ H Q → t σ H Q) : PA X e t' := ⟨fun pos pins s σ H Q I hq => h.run pos pins s σ H Q I (i σ H Q hq)⟩

section
variable {X : Cx} {pos p pos' : Pos} {a b c e : Expr} {es : List Expr} {ta tb tc : ATE}
/-! ### names, constants -/
def aVar (i : Nat) : ATE := fun σ AH Q => match slot σ i with | some v => Q v AH | none => False
def aC (v : AV) : ATE := fun _ AH Q => Q v AH
theorem av (i : Nat) {x : Str} (hN : X.N[i]? = some x := by rfl) (hv : Vis X.env.scope x := by first | exact Or.inl rfl | exact Or.inr (Or.inl rfl) | exact Or.inr (Or.inr rfl)) (hd : (x == ("__debug__" : Str)) = false := by decide)
    (hcd : (x == ("__classdict__" : Str)) = false := by decide) : AE X (.Name x pos) (aVar i) := by
  refine PE.imp (pe_var (i := i) hN hv hd hcd) ?_
  rintro σ H Q ⟨σ', AH, Q', R, S, h, d⟩
  unfold aVar at h
  split at h
  · rename_i v e
    obtain ⟨u, e1, r⟩ := S.at_ e
    exact ⟨u, e1, d _ _ _ _ Ext.refl R r h⟩
  · exact h.elim
theorem ac_of {v : AV} {u : V} (h : PE X e (tC u)) (r : ∀ H, RepV X.K H v u) : AE X e (aC v) := by
  refine PE.imp h ?_
  rintro σ H Q ⟨σ', AH, Q', R, S, h, d⟩
  exact d _ _ _ _ Ext.refl R (r H) h
theorem ae_int {i : Int} {j} : AE X (.Constant (.int i) j pos) (aC (.int i)) := ac_of pe_int fun _ => rfl
theorem ae_bl {k : Bool} {j} : AE X (.Constant (.bool k) j pos) (aC (.bl k)) := ac_of pe_bl fun _ => rfl
theorem ae_non {j} : AE X (.Constant .none j pos) (aC .non) := ac_of pe_non fun _ => rfl
theorem ae_str {x : Str} {j} (h : x.length ≤ sizeLine := by decide +kernel) : AE X (.Constant (.str x) j pos) (aC (.str x)) := ac_of pe_str fun _ => ⟨rfl, h⟩
theorem ae_glob {x : Str} {v : AV} {w : V} {u : Value} (hm : X.mg x = some u) (r : RelV w u) (q : ∀ H, RepV X.K H v w) (hg : Gl X x := by rfl) (hd : (x == ("__debug__" : Str)) = false := by decide) : AE X (.Name x pos) (aC v) := ac_of (pe_glob hg hm r hd) q

/-! ### operators -/
abbrev AR2 := AV → AV → AHp → AVK → Prop
def aOp (r : AR2) (ta tb : ATE) : ATE := fun σ AH Q => ta σ AH fun x AH1 => tb σ AH1 fun y AH2 => r x y AH2 Q
def R2Ok (K : PySem.W.Frag) (r : AR2) (rH : R2) : Prop := ∀ x y v u AH H Q QH, Rel K AH H → RepV K H x v → RepV K H y u → r x y AH Q → Down K AH H Q QH → rH v u H QH
theorem op_imp {r : AR2} {rH : R2} (o : R2Ok X.K r rH) : ∀ σ H Q, cE X.K (aOp r ta tb) σ H Q → tOp rH (cE X.K ta) (cE X.K tb) σ H Q := by
  rintro σ H Q ⟨σ', AH, Q', R, S, h, d⟩
  refine ⟨σ', AH, _, R, S, h, fun v H1 x AH1 k1 R1 r1 q1 => ?_⟩
  refine ⟨σ', AH1, _, R1, S.kept k1.kept, q1, fun u H2 y AH2 k2 R2 r2 q2 => ?_⟩
  exact o x y v u AH2 H2 Q' Q R2 (r1.kept k2.kept) r2 q2 fun v' H3 x' AH3 k3 => d v' H3 x' AH3 ((k1.trans k2).trans k3)
theorem ae_op {op : Operator} {r : AR2} {rH : R2} (o : OpR X (binaryOp op) rH ∧ R2Ok X.K r rH) (ha : AE X a ta) (hb : AE X b tb) : AE X (.BinOp a op b pos) (aOp r ta tb) := PE.imp (pe_op o.1 ha hb) (op_imp o.2)
theorem ae_cmp {op : CmpOp} {r : AR2} {rH : R2} (o : OpR X (compareOp op) rH ∧ R2Ok X.K r rH) (ha : AE X a ta) (hb : AE X b tb) (hm : behindInMarks op b = false := by first | exact nomark _ | rfl) : AE X (.Compare a [op] [b] pos) (aOp r ta tb) := PE.imp (pe_cmpR o.1 ha hb hm) (op_imp o.2)
theorem opr_or {f : Value → Value → Sem Value} {r1 r2 : R2} (h1 : OpR X f r1) (h2 : OpR X f r2) : OpR X f (fun x y H Q => r1 x y H Q ∨ r2 x y H Q) := fun pins s σ H x y v u Q I rx ry h => h.elim (h1 pins s σ H x y v u Q I rx ry) (h2 pins s σ H x y v u Q I rx ry)
def aI0 (g : Int → Int → AV) : AR2 := fun x y AH Q => match x, y with | .int i, .int j => Q (g i j) AH | _, _ => False
def aI (C : Int → Int → Prop) (g : Int → Int → AV) : AR2 := fun x y AH Q => match x, y with | .int i, .int j => C i j ∧ Q (g i j) AH | _, _ => False
theorem i0_ok {K : PySem.W.Frag} {g : Int → Int → AV} {gH : Int → Int → V} (hg : ∀ H i j, RepV K H (g i j) (gH i j)) : R2Ok K (aI0 g) (rI0 gH) := by
  intro x y v u AH H Q QH R rx ry h d
  unfold aI0 at h
  split at h
  · cases rx; cases ry
    exact ⟨_, _, rfl, rfl, d _ _ _ _ Ext.refl R (hg _ _ _) h⟩
  · exact h.elim
theorem i_ok {K : PySem.W.Frag} {C : Int → Int → Prop} {g : Int → Int → AV} {gH : Int → Int → V} (hg : ∀ H i j, RepV K H (g i j) (gH i j)) : R2Ok K (aI C g) (rI C gH) := by
  intro x y v u AH H Q QH R rx ry h d
  unfold aI at h
  split at h
  · cases rx; cases ry
    exact ⟨_, _, rfl, rfl, h.1, d _ _ _ _ Ext.refl R (hg _ _ _) h.2⟩
  · exact h.elim
theorem ao_sub : OpR X (binaryOp .Sub) (rI0 fun i j => .int (i - j)) ∧ R2Ok X.K (aI0 fun i j => .int (i - j)) (rI0 fun i j => .int (i - j)) := ⟨op_sub, i0_ok fun _ _ _ => rfl⟩
theorem ao_mul : OpR X (binaryOp .Mult) (rI CMul fun i j => .int (i * j)) ∧ R2Ok X.K (aI CMul fun i j => .int (i * j)) (rI CMul fun i j => .int (i * j)) := ⟨op_mul, i_ok fun _ _ _ => rfl⟩
theorem ao_fdiv : OpR X (binaryOp .FloorDiv) (rI CDiv fun i j => .int (i / j)) ∧ R2Ok X.K (aI CDiv fun i j => .int (i / j)) (rI CDiv fun i j => .int (i / j)) := ⟨op_fdiv, i_ok fun _ _ _ => rfl⟩
theorem ao_mod : OpR X (binaryOp .Mod) (rI (fun _ j => 0 < j) fun i j => .int (i % j)) ∧ R2Ok X.K (aI (fun _ j => 0 < j) fun i j => .int (i % j)) (rI (fun _ j => 0 < j) fun i j => .int (i % j)) := ⟨op_mod, i_ok fun _ _ _ => rfl⟩
theorem ao_pow : OpR X (binaryOp .Pow) (rI CPow fun i j => .int (i ^ j.toNat)) ∧ R2Ok X.K (aI CPow fun i j => .int (i ^ j.toNat)) (rI CPow fun i j => .int (i ^ j.toNat)) := ⟨op_pow, i_ok fun _ _ _ => rfl⟩
theorem ao_and : OpR X (binaryOp .BitAnd) (rI0 fun i j => .int (Builtin.bitAnd i j)) ∧ R2Ok X.K (aI0 fun i j => .int (Builtin.bitAnd i j)) (rI0 fun i j => .int (Builtin.bitAnd i j)) := ⟨op_and, i0_ok fun _ _ _ => rfl⟩
theorem ao_xor : OpR X (binaryOp .BitXor) (rI0 fun i j => .int (Builtin.bitXor i j)) ∧ R2Ok X.K (aI0 fun i j => .int (Builtin.bitXor i j)) (rI0 fun i j => .int (Builtin.bitXor i j)) := ⟨op_xor, i0_ok fun _ _ _ => rfl⟩
theorem ao_lt : OpR X (compareOp .Lt) (rI0 fun i j => .bl (decide (i < j))) ∧ R2Ok X.K (aI0 fun i j => .bl (decide (i < j))) (rI0 fun i j => .bl (decide (i < j))) := ⟨op_lt, i0_ok fun _ _ _ => rfl⟩
theorem ao_le : OpR X (compareOp .LtE) (rI0 fun i j => .bl (decide (i ≤ j))) ∧ R2Ok X.K (aI0 fun i j => .bl (decide (i ≤ j))) (rI0 fun i j => .bl (decide (i ≤ j))) := ⟨op_le, i0_ok fun _ _ _ => rfl⟩
theorem ao_gt : OpR X (compareOp .Gt) (rI0 fun i j => .bl (decide (j < i))) ∧ R2Ok X.K (aI0 fun i j => .bl (decide (j < i))) (rI0 fun i j => .bl (decide (j < i))) := ⟨op_gt, i0_ok fun _ _ _ => rfl⟩
theorem ao_ge : OpR X (compareOp .GtE) (rI0 fun i j => .bl (decide (j ≤ i))) ∧ R2Ok X.K (aI0 fun i j => .bl (decide (j ≤ i))) (rI0 fun i j => .bl (decide (j ≤ i))) := ⟨op_ge, i0_ok fun _ _ _ => rfl⟩
/-- a list that stands at p (to be read) -/
def LstAt (AH : AHp) (p : Addr) (xs : List AV) : Prop := AH p = some (.lst xs) ∨ AH p = some (.rls xs)
theorem LstAt.w {AH : AHp} {p : Addr} {xs : List AV} (h : AH p = some (.lst xs)) : LstAt AH p xs := .inl h
theorem LstAt.rep {K : PySem.W.Frag} {AH : AHp} {H : Hp} {p : Addr} {xs : List AV} (R : Rel K AH H) (h : LstAt AH p xs) : ∃ vs, SqL K H p vs ∧ xs.length ≤ sizeLine ∧ RepVs K H xs vs := by
  rcases h with h | h
  · obtain ⟨vs, e, l, r⟩ := R _ _ h; exact ⟨vs, SqL.of e, l, r⟩
  · obtain ⟨o, vs, e, l, r⟩ := R _ _ h; exact ⟨vs, .inl (.inr ⟨o, e⟩), l, r⟩
/-- a + b -/
def rAddA : AR2 := fun x y AH Q => match x, y with
  | .int i, .int j => Q (.int (i + j)) AH
  | .str s, .str t => s.length + t.length ≤ sizeLine ∧ Q (.str (s ++ t)) AH
  | .tup xs, .tup ys => xs.length + ys.length ≤ sizeLine ∧ Q (.tup (xs ++ ys)) AH
  | .ref l, .ref m => ∃ xs ys, AH l = some (.lst xs) ∧ AH m = some (.lst ys) ∧ xs.length + ys.length ≤ sizeLine ∧ ∀ q, AH q = none → Q (.ref q) (aupd AH q (.lst (xs ++ ys)))
  | _, _ => False
theorem str_len_append (s t : Str) : (s ++ t).length = s.length + t.length := by
  show (s.cps ++ t.cps).size = _
  rw [Array.size_append]; rfl
theorem ao_add : OpR X (binaryOp .Add) (fun x y H Q => ((rI0 fun i j => .int (i + j)) x y H Q ∨ (∃ i j, x = .str i ∧ y = .str j ∧ i.length + j.length ≤ sizeLine ∧ Q (.str (i ++ j)) H)) ∨ (rCatA X.K x y H Q ∨ rCat x y H Q)) ∧ R2Ok X.K rAddA (fun x y H Q => ((rI0 fun i j => .int (i + j)) x y H Q ∨ (∃ i j, x = .str i ∧ y = .str j ∧ i.length + j.length ≤ sizeLine ∧ Q (.str (i ++ j)) H)) ∨ (rCatA X.K x y H Q ∨ rCat x y H Q)) := by
  refine ⟨opr_or (opr_or op_add op_add_str) (opr_or op_catA op_cat), ?_⟩
  intro x y v u AH H Q QH R rx ry h d
  unfold rAddA at h
  split at h
  · cases rx; cases ry
    exact .inl (.inl ⟨_, _, rfl, rfl, d _ _ (.int _) _ Ext.refl R rfl h⟩)
  · obtain ⟨rfl, l1⟩ := rx
    obtain ⟨rfl, l2⟩ := ry
    exact .inl (.inr ⟨_, _, rfl, rfl, h.1, d _ _ (.str _) _ Ext.refl R ⟨rfl, by rw [str_len_append]; exact h.1⟩ h.2⟩)
  · rename_i xs ys
    obtain ⟨p, vs, rfl, s1, l1, r1⟩ := rx
    obtain ⟨q, us, rfl, s2, l2, r2⟩ := ry
    have e1 := r1.length
    have e2 := r2.length
    refine .inr (.inl ⟨p, q, vs, us, rfl, rfl, s1, s2, by rw [e1, e2]; exact h.1, fun z => ?_, fun z z2 => ?_, fun z z2 t ht => ?_⟩)
    · subst z
      cases xs with
      | cons _ _ => simp at e1
      | nil => exact d _ _ (.tup ([] ++ ys)) _ Ext.refl R ⟨q, us, rfl, s2, l2, r2⟩ h.2
    · subst z2
      cases ys with
      | cons _ _ => simp at e2
      | nil => exact d _ _ (.tup (xs ++ [])) _ Ext.refl R ⟨p, vs, rfl, s1, by simpa using l1, by simpa using r1⟩ h.2
    · have k := Ext.new (AH := AH) (o := .tup (vs ++ us)) ht
      exact d _ _ (.tup _) _ k (R.new ht) ⟨t, vs ++ us, rfl, .inl (.inl upd_same), by simpa using h.1, (r1.append r2).kept k.kept⟩ h.2
  · cases rx; cases ry
    obtain ⟨xs, ys, h1, h2, hl, q⟩ := h
    obtain ⟨vs, e1, l1, r1⟩ := R _ _ h1
    obtain ⟨us, e2, l2, r2⟩ := R _ _ h2
    refine .inr (.inr ⟨_, _, vs, us, rfl, rfl, e1, e2, by rw [r1.length, r2.length]; exact hl, fun t ht => ?_⟩)
    have k := Ext.add (AH := AH) (u := .lst (xs ++ ys)) (o := .lst (vs ++ us)) ht
    exact d _ _ (.ref _) _ k (R.add (u := .lst (xs ++ ys)) ht ⟨_, upd_same, by simpa using hl, (r1.append r2).kept k.kept⟩) rfl (q t (R.free ht))
  · exact h.elim

/-! ### == and != -/
mutual
def toPy : AV → Option PyData
  | .non => some .none
  | .bl b => some (.bool b)
  | .int i => some (.int i)
  | .str s => some (.str s)
  | .tup xs => (toPys xs).map .tuple
  | _ => none
def toPys : List AV → Option (List PyData)
  | [] => some []
  | x :: xs => match toPy x, toPys xs with
    | some d, some ds => some (d :: ds)
    | _, _ => none
end
/-- what is read at a value, lists too -/
inductive PyAt (AH : AHp) : AV → PyData → Prop
  | non : PyAt AH .non .none
  | bl (b : Bool) : PyAt AH (.bl b) (.bool b)
  | int (i : Int) : PyAt AH (.int i) (.int i)
  | str (x : Str) : PyAt AH (.str x) (.str x)
  | tup {xs : List AV} {ds : List PyData} : xs.length = ds.length → (∀ (i : Nat) (x : AV) (d : PyData), xs[i]? = some x → ds[i]? = some d → PyAt AH x d) → PyAt AH (.tup xs) (.tuple ds)
  | lst {p : Addr} {xs : List AV} {ds : List PyData} : LstAt AH p xs → xs.length = ds.length → (∀ (i : Nat) (x : AV) (d : PyData), xs[i]? = some x → ds[i]? = some d → PyAt AH x d) → PyAt AH (.ref p) (.list ds)
theorem dpAll_of {K : PySem.W.Frag} {H : Hp} : ∀ {vs : List V} {ds : List PyData}, vs.length = ds.length → (∀ (i : Nat) (v : V) (d : PyData), vs[i]? = some v → ds[i]? = some d → Dp K H v d) → DpAll K H vs ds
  | [], [], _, _ => .nil
  | [], _ :: _, h, _ => by simp at h
  | _ :: _, [], h, _ => by simp at h
  | v :: vs, d :: ds, h, f => .cons (f 0 v d rfl rfl) (dpAll_of (by simpa using h) fun i v d e1 e2 => f (i + 1) v d (by simpa using e1) (by simpa using e2))
theorem PyAt.dp {K : PySem.W.Frag} {AH : AHp} {H : Hp} (R : Rel K AH H) {x : AV} {d : PyData} (h : PyAt AH x d) : ∀ {v : V}, RepV K H x v → Dp K H v d := by
  induction h with
  | non => intro v r; cases r; exact .non
  | bl b => intro v r; cases r; exact .bl b
  | int i => intro v r; cases r; exact .int i
  | str s => intro v r; obtain ⟨rfl, _⟩ := r; exact .str s
  | @tup xs ds hl hh ih =>
    intro v r
    obtain ⟨a, vs, rfl, s, l, rs⟩ := r
    refine .tup s (dpAll_of (by rw [rs.length]; exact hl) fun i v d e1 e2 => ?_)
    obtain ⟨x, ex, rx⟩ := rs.getV e1
    exact ih i x d ex e2 rx
  | @lst p xs ds hp hl hh ih =>
    intro v r
    cases r
    obtain ⟨vs, s, l, rs⟩ := hp.rep R
    refine .lst s (dpAll_of (by rw [rs.length]; exact hl) fun i v d e1 e2 => ?_)
    obtain ⟨x, ex, rx⟩ := rs.getV e1
    exact ih i x d ex e2 rx
mutual
theorem pyAt_of {AH : AHp} : ∀ {x : AV} {d : PyData}, toPy x = some d → PyAt AH x d
  | .non, _, h => by cases h; exact .non
  | .bl b, _, h => by cases h; exact .bl b
  | .int i, _, h => by cases h; exact .int i
  | .str s, _, h => by cases h; exact .str s
  | .ref _, _, h => by cases h
  | .ty _, _, h => by cases h
  | .tup xs, d, h => by
    simp only [toPy, Option.map_eq_some_iff] at h
    obtain ⟨ds, e, rfl⟩ := h
    exact .tup (pyAts_of (AH := AH) e).1 (pyAts_of e).2
theorem pyAts_of {AH : AHp} : ∀ {xs : List AV} {ds : List PyData}, toPys xs = some ds → xs.length = ds.length ∧ ∀ (i : Nat) (x : AV) (d : PyData), xs[i]? = some x → ds[i]? = some d → PyAt AH x d
  | [], _, h => by cases h; exact ⟨rfl, fun i x d e => by simp at e⟩
  | x :: xs, ds, h => by
    simp only [toPys] at h
    split at h
    · rename_i d ds' e1 e2
      cases h
      obtain ⟨hl, hh⟩ := pyAts_of (AH := AH) e2
      refine ⟨by simp [hl], fun i y d' q1 q2 => ?_⟩
      cases i with
      | zero => simp at q1 q2; subst q1 q2; exact pyAt_of e1
      | succ i => exact hh i y d' (by simpa using q1) (by simpa using q2)
    · cases h
end
/-- two data are equal as Python has it -/
def aeqv (x y : AV) : Bool := match toPy x, toPy y with | some d, some e => PyData.eqv d e | _, _ => false
def okPy (x : AV) : Bool := match toPy x with | some d => SeqAt.shaped d | none => false
def rEqA : AR2 := fun x y AH Q => match x, y with
  | .int i, .int j => Q (.bl (decide (i = j))) AH
  | .str s, .str t => Q (.bl (decide (s = t))) AH
  | .bl b, .bl c => Q (.bl (decide (b = c))) AH
  | x, y => (okPy x = true ∧ okPy y = true ∧ Q (.bl (aeqv x y)) AH) ∨ ∃ d e, PyAt AH x d ∧ PyAt AH y e ∧ SeqAt.shaped d = true ∧ SeqAt.shaped e = true ∧ Q (.bl (PyData.eqv d e)) AH
def rNeA : AR2 := fun x y AH Q => rEqA x y AH fun v AH' => match v with | .bl b => Q (.bl (!b)) AH' | _ => False
theorem okPy_of {x : AV} (h : okPy x = true) : ∃ d, toPy x = some d ∧ SeqAt.shaped d = true := by
  unfold okPy at h
  split at h
  · exact ⟨_, by assumption, h⟩
  · cases h
theorem aeqv_of {x y : AV} {d e : PyData} (hx : toPy x = some d) (hy : toPy y = some e) : aeqv x y = PyData.eqv d e := by unfold aeqv; rw [hx, hy]
theorem eq_down {K : PySem.W.Frag} : R2Ok K rEqA (fun x y H Q => rEq x y H Q ∨ rEqD K x y H Q) := by
  intro x y v u AH H Q QH R rx ry h d
  unfold rEqA at h
  split at h
  · cases rx; cases ry
    exact .inl ⟨rfl, by
      refine d _ _ (.bl _) _ Ext.refl R (show _ = _ from congrArg V.bl ?_) h
      rw [decide_eq_decide, V.int.injEq]⟩
  · obtain ⟨rfl, _⟩ := rx
    obtain ⟨rfl, _⟩ := ry
    exact .inl ⟨rfl, by
      refine d _ _ (.bl _) _ Ext.refl R (show _ = _ from congrArg V.bl ?_) h
      rw [decide_eq_decide, V.str.injEq]⟩
  · cases rx; cases ry
    exact .inl ⟨rfl, by
      refine d _ _ (.bl _) _ Ext.refl R (show _ = _ from congrArg V.bl ?_) h
      rw [decide_eq_decide, V.bl.injEq]⟩
  · rcases h with ⟨h1, h2, q⟩ | ⟨dx, dy, h1, h2, s1, s2, q⟩
    · obtain ⟨dx, e1, s1⟩ := okPy_of h1
      obtain ⟨dy, e2, s2⟩ := okPy_of h2
      rw [aeqv_of e1 e2] at q
      exact .inr ⟨dx, dy, (pyAt_of e1).dp R rx, (pyAt_of e2).dp R ry, s1, s2, d _ _ (.bl _) _ Ext.refl R rfl q⟩
    · exact .inr ⟨dx, dy, h1.dp R rx, h2.dp R ry, s1, s2, d _ _ (.bl _) _ Ext.refl R rfl q⟩
theorem ao_eq (hu : X.A.units + 64 < cLine) : OpR X (compareOp .Eq) (fun x y H Q => rEq x y H Q ∨ rEqD X.K x y H Q) ∧ R2Ok X.K rEqA (fun x y H Q => rEq x y H Q ∨ rEqD X.K x y H Q) := ⟨opr_or op_eq (op_eqD hu), eq_down⟩
theorem ao_ne (hu : X.A.units + 64 < cLine) : OpR X (compareOp .NotEq) (fun x y H Q => rNe x y H Q ∨ rNeD X.K x y H Q) ∧ R2Ok X.K rNeA (fun x y H Q => rNe x y H Q ∨ rNeD X.K x y H Q) := by
  refine ⟨opr_or op_ne (op_neD hu), ?_⟩
  intro x y v u AH H Q QH R rx ry h d
  have h2 := eq_down (K := X.K) x y v u AH H _ (fun w H' => ∀ b, w = .bl b → QH (.bl (!b)) H') R rx ry h fun w H' z AH' k R' r q => by
    intro b eb
    subst eb
    cases z with
    | bl c => cases r; exact d _ _ (.bl _) _ k R' rfl q
    | tup xs => obtain ⟨_, _, e, _⟩ := r; cases e
    | str s => obtain ⟨e, _⟩ := r; cases e
    | _ => cases r
  rcases h2 with ⟨s, q⟩ | ⟨dx, dy, a, b, c, e, q⟩
  · exact .inl ⟨s, q _ rfl⟩
  · exact .inr ⟨dx, dy, a, b, c, e, q _ rfl⟩
/-! ### is None -/
def rIsN : AR2 := fun x y AH Q => match y with | .non => (match x with | .non => Q (.bl true) AH | _ => Q (.bl false) AH) | _ => False
def rNotN : AR2 := fun x y AH Q => match y with | .non => (match x with | .non => Q (.bl false) AH | _ => Q (.bl true) AH) | _ => False
theorem rep_non {K : PySem.W.Frag} {H : Hp} {x : AV} {v : V} (r : RepV K H x v) : decide (v = V.non) = (match x with | .non => true | _ => false) := by
  cases x with
  | tup xs => obtain ⟨a, vs, rfl, _⟩ := r; rfl
  | str s => obtain ⟨rfl, _⟩ := r; rfl
  | _ => cases r; rfl
theorem ao_isN : OpR X (compareOp .Is) (fun x y H Q => y = .non ∧ Q (.bl (decide (x = .non))) H) ∧ R2Ok X.K rIsN (fun x y H Q => y = .non ∧ Q (.bl (decide (x = .non))) H) := by
  refine ⟨op_isN, ?_⟩
  intro x y v u AH H Q QH R rx ry h d
  cases y with
  | non =>
    cases ry
    refine ⟨rfl, ?_⟩
    have e := rep_non rx
    refine d _ _ (.bl _) _ Ext.refl R (show _ = _ from congrArg V.bl e) ?_
    cases x <;> exact h
  | _ => exact h.elim
theorem ao_notN : OpR X (compareOp .IsNot) (fun x y H Q => y = .non ∧ Q (.bl (!decide (x = .non))) H) ∧ R2Ok X.K rNotN (fun x y H Q => y = .non ∧ Q (.bl (!decide (x = .non))) H) := by
  refine ⟨op_notN, ?_⟩
  intro x y v u AH H Q QH R rx ry h d
  cases y with
  | non =>
    cases ry
    refine ⟨rfl, ?_⟩
    have e := rep_non rx
    refine d _ _ (.bl _) _ Ext.refl R (show _ = _ from congrArg (fun b => V.bl (!b)) e) ?_
    cases x <;> exact h
  | _ => exact h.elim
end
end Av
/-! Av3: tests, displays, subscripts, slices, attributes, calls. -/
namespace Av
open PySem PySem.Spec PyProof.Rows L2
section
variable {X : Cx} {pos p pos' p2 : Pos} {a b c e o : Expr} {es rest : List Expr} {ta tb tc te : ATE} {tA tB : ATT}
theorem Down.at_ {K : PySem.W.Frag} {H : Hp} {Q : AVK} {QH : VK} {AH : AHp} (d : Down K AH H Q QH) {v : V} (x : AV) (R : Rel K AH H) (r : RepV K H x v) (q : Q x AH) : QH v H := d v H x AH Ext.refl R r q
/-! ### chains -/
def aChain (r r' : AR2) (ta tb tc : ATE) : ATE := fun σ AH Q => ta σ AH fun x AH1 => tb σ AH1 fun y AH2 => r x y AH2 fun z AH3 => match z with
  | .bl true => tc σ AH3 fun w AH4 => r' y w AH4 Q
  | .bl false => Q (.bl false) AH3
  | _ => False
theorem chain_imp {r r' : AR2} {rH rH' : R2} (o : R2Ok X.K r rH) (o' : R2Ok X.K r' rH') : ∀ σ H Q, cE X.K (aChain r r' ta tb tc) σ H Q → tChain rH rH' (cE X.K ta) (cE X.K tb) (cE X.K tc) σ H Q := by
  rintro σ H Q ⟨σ', AH, Q', R, S, h, d⟩
  refine ⟨σ', AH, _, R, S, h, fun v H1 x AH1 k1 R1 r1 q1 => ?_⟩
  refine ⟨σ', AH1, _, R1, S.kept k1.kept, q1, fun u H2 y AH2 k2 R2 r2 q2 => ?_⟩
  refine o x y v u AH2 H2 _ _ R2 (r1.kept k2.kept) r2 q2 fun z H3 w AH3 k3 R3 r3 q3 => ?_
  have k := (k1.trans k2).trans k3
  cases w with
  | bl b =>
    cases r3
    cases b with
    | true =>
      refine ⟨true, rfl, iteT ⟨σ', AH3, _, R3, S.kept k.kept, q3, fun u' H4 w' AH4 k4 R4 r4 q4 => ?_⟩⟩
      exact o' y w' u u' AH4 H4 Q' Q R4 (r2.kept (k3.trans k4).kept) r4 q4 fun v' H5 x' AH5 k5 => d v' H5 x' AH5 ((k.trans k4).trans k5)
    | false => exact ⟨false, rfl, iteF (d _ _ (.bl false) _ k R3 rfl q3)⟩
  | _ => exact q3.elim
theorem ae_chain {op op' : CmpOp} {r r' : AR2} {rH rH' : R2} (o : OpR X (compareOp op) rH ∧ R2Ok X.K r rH) (o' : OpR X (compareOp op') rH' ∧ R2Ok X.K r' rH') (ha : AE X a ta) (hb : AE X b tb) (hc : AE X c tc)
    (hm : lastMarks [op, op'] [b, c] = false := by with_unfolding_all rfl) : AE X (.Compare a [op, op'] [b, c] pos) (aChain r r' ta tb tc) := PE.imp (pe_chain o.1 o'.1 ha hb hc hm) (chain_imp o.2 o'.2)
/-! ### tests -/
/-- a value that is a bool, as a test -/
def aB (t : ATE) : ATT := fun σ AH Q => t σ AH fun v AH1 => match v with | .bl b => Q b AH1 | _ => False
theorem b_imp {tH : TE} {t : ATE} (i : ∀ σ H Q, cE X.K t σ H Q → tH σ H Q) : ∀ σ H Q, cT X.K (aB t) σ H Q → tTest tH σ H Q := by
  rintro σ H Q ⟨σ', AH, Q', R, S, h, d⟩
  refine i _ _ _ ⟨σ', AH, _, R, S, h, fun v H1 x AH1 k1 R1 r1 q1 => ?_⟩
  cases x with
  | bl b => cases r1; exact ⟨b, rfl, d b H1 AH1 k1 R1 q1⟩
  | _ => exact q1.elim
theorem at_cmp {op : CmpOp} {r : AR2} {rH : R2} (o : OpR X (compareOp op) rH ∧ R2Ok X.K r rH) (ha : AE X a ta) (hb : AE X b tb) (hm : behindInMarks op b = false := by first | exact nomark _ | rfl) : AT X (.Compare a [op] [b] pos) (aB (aOp r ta tb)) := PT.imp (pt_cmpR o.1 ha hb hm) (b_imp (op_imp o.2))
theorem at_chain {op op' : CmpOp} {r r' : AR2} {rH rH' : R2} (o : OpR X (compareOp op) rH ∧ R2Ok X.K r rH) (o' : OpR X (compareOp op') rH' ∧ R2Ok X.K r' rH') (ha : AE X a ta) (hb : AE X b tb) (hc : AE X c tc)
    (hm : lastMarks [op, op'] [b, c] = false := by with_unfolding_all rfl) : AT X (.Compare a [op, op'] [b, c] pos) (aB (aChain r r' ta tb tc)) := PT.imp (pt_chain o.1 o'.1 ha hb hc hm) (b_imp (chain_imp o.2 o'.2))
theorem at_val (h : AE X e te) (he : ∀ whole, isTrue e X.env whole = (do let v ← whole; standAt e.pos; holding [v] (truthy v)) := by intro _; rfl) : AT X e (aB te) := PT.imp (pt_val h he) (b_imp fun _ _ _ z => z)
def aAnd (t u : ATT) : ATT := fun σ AH Q => t σ AH fun c AH1 => match c with | true => u σ AH1 Q | false => Q false AH1
def aOr (t u : ATT) : ATT := fun σ AH Q => t σ AH fun c AH1 => match c with | true => Q true AH1 | false => u σ AH1 Q
def aNot (t : ATT) : ATT := fun σ AH Q => t σ AH fun c AH1 => Q (!c) AH1
theorem aw_and1 (ha : AT X a tA) : AW X (.BoolOp .And [a] pos) tA := pw_and1 ha
theorem aw_or1 (ha : AT X a tA) : AW X (.BoolOp .Or [a] pos) tA := pw_or1 ha
theorem aw_and (ha : AT X a tA) (hb : AW X (.BoolOp .And (b :: rest) pos) tB) : AW X (.BoolOp .And (a :: b :: rest) pos) (aAnd tA tB) := by
  refine PW.imp (pw_and ha hb) ?_
  rintro σ H Q ⟨σ', AH, Q', R, S, h, d⟩
  refine ⟨σ', AH, _, R, S, h, fun c H1 AH1 k1 R1 q1 => ?_⟩
  cases c with
  | true => exact iteT ⟨σ', AH1, _, R1, S.kept k1.kept, q1, fun b H2 AH2 k2 => d b H2 AH2 (k1.trans k2)⟩
  | false => exact iteF (d _ _ _ k1 R1 q1)
theorem aw_or (ha : AT X a tA) (hb : AW X (.BoolOp .Or (b :: rest) pos) tB) : AW X (.BoolOp .Or (a :: b :: rest) pos) (aOr tA tB) := by
  refine PW.imp (pw_or ha hb) ?_
  rintro σ H Q ⟨σ', AH, Q', R, S, h, d⟩
  refine ⟨σ', AH, _, R, S, h, fun c H1 AH1 k1 R1 q1 => ?_⟩
  cases c with
  | false => exact iteF ⟨σ', AH1, _, R1, S.kept k1.kept, q1, fun b H2 AH2 k2 => d b H2 AH2 (k1.trans k2)⟩
  | true => exact iteT (d _ _ _ k1 R1 q1)
theorem at_not (ha : AT X a tA) : AT X (.UnaryOp .Not a pos) (aNot tA) := by
  refine PT.imp (pt_not ha) ?_
  rintro σ H Q ⟨σ', AH, Q', R, S, h, d⟩
  exact ⟨σ', AH, _, R, S, h, fun c H1 AH1 k1 R1 q1 => d _ _ _ k1 R1 q1⟩
/-! ### and, or, not as values -/
def aAndV (ta tb : ATE) : ATE := fun σ AH Q => ta σ AH fun x AH1 => match x with | .bl true => tb σ AH1 Q | .bl false => Q (.bl false) AH1 | _ => False
def aOrV (ta tb : ATE) : ATE := fun σ AH Q => ta σ AH fun x AH1 => match x with | .bl true => Q (.bl true) AH1 | .bl false => tb σ AH1 Q | _ => False
def aNotV (ta : ATE) : ATE := fun σ AH Q => ta σ AH fun x AH1 => match x with | .bl b => Q (.bl (!b)) AH1 | _ => False
theorem ae_one {op} (h : AE X a ta) : AE X (.BoolOp op [a] pos) ta := pe_one h
theorem ae_and (ha : AE X a ta) (hb : AE X (.BoolOp .And (b :: rest) pos) tb) : AE X (.BoolOp .And (a :: b :: rest) pos) (aAndV ta tb) := by
  refine PE.imp (pe_and ha hb) ?_
  rintro σ H Q ⟨σ', AH, Q', R, S, h, d⟩
  refine ⟨σ', AH, _, R, S, h, fun v H1 x AH1 k1 R1 r1 q1 => ?_⟩
  cases x with
  | bl c =>
    cases r1
    cases c with
    | true => exact ⟨true, rfl, iteT ⟨σ', AH1, _, R1, S.kept k1.kept, q1, fun v H2 x AH2 k2 => d v H2 x AH2 (k1.trans k2)⟩⟩
    | false => exact ⟨false, rfl, iteF (d _ _ (.bl false) _ k1 R1 rfl q1)⟩
  | _ => exact q1.elim
theorem ae_or (ha : AE X a ta) (hb : AE X (.BoolOp .Or (b :: rest) pos) tb) : AE X (.BoolOp .Or (a :: b :: rest) pos) (aOrV ta tb) := by
  refine PE.imp (pe_or ha hb) ?_
  rintro σ H Q ⟨σ', AH, Q', R, S, h, d⟩
  refine ⟨σ', AH, _, R, S, h, fun v H1 x AH1 k1 R1 r1 q1 => ?_⟩
  cases x with
  | bl c =>
    cases r1
    cases c with
    | false => exact ⟨false, rfl, iteF ⟨σ', AH1, _, R1, S.kept k1.kept, q1, fun v H2 x AH2 k2 => d v H2 x AH2 (k1.trans k2)⟩⟩
    | true => exact ⟨true, rfl, iteT (d _ _ (.bl true) _ k1 R1 rfl q1)⟩
  | _ => exact q1.elim
theorem ae_not (ha : AE X a ta) : AE X (.UnaryOp .Not a pos) (aNotV ta) := by
  refine PE.imp (pe_not ha) ?_
  rintro σ H Q ⟨σ', AH, Q', R, S, h, d⟩
  refine ⟨σ', AH, _, R, S, h, fun v H1 x AH1 k1 R1 r1 q1 => ?_⟩
  cases x with
  | bl c => cases r1; exact ⟨c, rfl, d _ _ (.bl _) _ k1 R1 rfl q1⟩
  | _ => exact q1.elim
def aNeg (ta : ATE) : ATE := fun σ AH Q => ta σ AH fun x AH1 => match x with | .int i => Q (.int (-i)) AH1 | _ => False
theorem ae_neg (ha : AE X a ta) : AE X (.UnaryOp .USub a pos) (aNeg ta) := by
  refine PE.imp (pe_un un_neg ha) ?_
  rintro σ H Q ⟨σ', AH, Q', R, S, h, d⟩
  refine ⟨σ', AH, _, R, S, h, fun v H1 x AH1 k1 R1 r1 q1 => ?_⟩
  cases x with
  | int i => cases r1; exact ⟨i, rfl, d _ _ (.int _) _ k1 R1 rfl q1⟩
  | _ => exact q1.elim
/-! ### argument lists, displays -/
def cAn (n : Nat) (K : PySem.W.Frag) (t : ATA) : TA := fun σH H QH => ∃ σ AH Q, Rel K AH H ∧ RepS K H σ σH ∧ t σ AH Q ∧ ∀ vs H' xs AH', Ext AH H AH' H' → Rel K AH' H' → RepVs K H' xs vs → xs.length = n → Q xs AH' → QH vs H'
abbrev AL (X : Cx) (es : List Expr) (t : ATA) : Prop := PA X es (cAn es.length X.K t)
def aNil : ATA := fun _ AH Q => Q [] AH
def aCons (t : ATE) (u : ATA) : ATA := fun σ AH Q => t σ AH fun x AH1 => u σ AH1 fun xs AH2 => Q (x :: xs) AH2
theorem al_nil : AL X [] aNil := by
  refine PA.imp pa_nil ?_
  rintro σ H Q ⟨σ', AH, Q', R, S, h, d⟩
  exact d _ _ [] _ Ext.refl R rfl rfl h
theorem al_cons {t : ATA} (ha : AE X e te) (hr : AL X es t) (hs : starEach (e :: es) X.env = (false, eval e X.env) :: starEach es X.env := by rfl) : AL X (e :: es) (aCons te t) := by
  refine PA.imp (pa_cons ha hr hs) ?_
  rintro σ H Q ⟨σ', AH, Q', R, S, h, d⟩
  refine ⟨σ', AH, _, R, S, h, fun v H1 x AH1 k1 R1 r1 q1 => ⟨σ', AH1, _, R1, S.kept k1.kept, q1, fun vs H2 xs AH2 k2 R2 r2 l2 q2 => ?_⟩⟩
  exact d _ _ (x :: xs) _ (k1.trans k2) R2 ⟨v, vs, rfl, r1.kept k2.kept, r2⟩ (by simp [l2]) q2
def aTup (t : ATA) : ATE := fun σ AH Q => t σ AH fun xs AH1 => Q (.tup xs) AH1
def aLst (t : ATA) : ATE := fun σ AH Q => t σ AH fun xs AH1 => ∀ p, AH1 p = none → Q (.ref p) (aupd AH1 p (.lst xs))
theorem ae_tup {x1} {t : ATA} (h : AL X es t) (hl : es.length ≤ sizeLine := by decide) : AE X (.Tuple es x1 pos) (aTup t) := by
  refine PE.imp (pe_tup h) ?_
  rintro σ H Q ⟨σ', AH, Q', R, S, h, d⟩
  refine ⟨σ', AH, _, R, S, h, fun vs H1 xs AH1 k1 R1 r1 l1 q1 => ⟨by rw [r1.length, l1]; exact hl, fun q hq => ?_⟩⟩
  have k := Ext.new (AH := AH1) (o := .tup vs) hq
  exact d _ _ (.tup xs) _ (k1.trans k) (R1.new hq) ⟨q, vs, rfl, .inl (.inl upd_same), by rw [l1]; exact hl, r1.kept k.kept⟩ q1
theorem ae_lst {t : ATA} (h : AL X es t) (hl : es.length ≤ sizeLine := by decide) : AE X (.List es pos) (aLst t) := by
  refine PE.imp (pe_lst h) ?_
  rintro σ H Q ⟨σ', AH, Q', R, S, h, d⟩
  refine ⟨σ', AH, _, R, S, h, fun vs H1 xs AH1 k1 R1 r1 l1 q1 => ⟨by rw [r1.length, l1]; exact hl, fun q hq => ?_⟩⟩
  have k := Ext.add (AH := AH1) (u := .lst xs) (o := .lst vs) hq
  exact d _ _ (.ref q) _ (k1.trans k) (R1.add (u := .lst xs) hq ⟨vs, upd_same, by rw [l1]; exact hl, r1.kept k.kept⟩) rfl (q1 q (R1.free hq))
/-! ### subscripts -/
def nth {α : Type} : List α → Nat → Option α
  | [], _ => none
  | x :: _, 0 => some x
  | _ :: r, n + 1 => nth r n
theorem nth_eq {α : Type} : ∀ (xs : List α) (n : Nat), nth xs n = xs[n]?
  | [], n => by simp [nth]
  | x :: xs, 0 => by simp [nth]
  | x :: xs, n + 1 => by simp [nth, nth_eq xs n]
def at' {α : Type} (xs : List α) : Int → Option α
  | .ofNat n => nth xs n
  | .negSucc n => nth xs.reverse n
theorem at_eq {α : Type} (xs : List α) (i : Int) : at' xs i = atI xs i := by
  cases i with
  | ofNat n =>
    show nth xs n = atI xs (n : Int)
    unfold atI ixN
    rw [nth_eq, if_pos (Int.natCast_nonneg n)]
    by_cases h : n < xs.length
    · rw [if_pos (by exact_mod_cast h)]; rfl
    · rw [if_neg (by intro z; exact h (by exact_mod_cast z))]
      simp; omega
  | negSucc n =>
    show nth xs.reverse n = atI xs (Int.negSucc n)
    unfold atI ixN
    rw [nth_eq, if_neg (by omega)]
    by_cases h : n < xs.length
    · rw [if_pos (by omega), List.getElem?_reverse h]
      show _ = xs[(Int.negSucc n + (xs.length : Int)).toNat]?
      congr 1
      omega
    · rw [if_neg (by omega)]
      simp; omega
theorem RepVs.at' {K : PySem.W.Frag} {H : Hp} {xs : List AV} {vs : List V} {i : Int} {x : AV} (r : RepVs K H xs vs) (e : Av.at' xs i = some x) : ∃ v, atI vs i = some v ∧ RepV K H x v := by
  rw [at_eq] at e
  unfold atI at e ⊢
  rw [r.length]
  cases q : ixN xs.length i with
  | none => rw [q] at e; cases e
  | some j => rw [q] at e; exact r.get e
/-- a[i], a list, a tuple or a text -/
def rIxA : AR2 := fun x y AH Q => match y with
  | .int i => (match x with
    | .tup xs => (match at' xs i with | some v => Q v AH | none => False)
    | .str z => (match at' z.cps.toList i with | some c => Q (.str ⟨#[c]⟩) AH | none => False)
    | .ref p => ∃ xs v, LstAt AH p xs ∧ at' xs i = some v ∧ Q v AH
    | _ => False)
  | _ => False
theorem ix_down {K : PySem.W.Frag} : R2Ok K rIxA (rIx K) := by
  intro x y v u AH H Q QH R rx ry h d
  unfold rIxA at h
  split at h
  · cases ry
    split at h
    · obtain ⟨p, vs, rfl, s, l, r⟩ := rx
      split at h
      · rename_i w e
        obtain ⟨w', e1, r1⟩ := r.at' e
        exact .inr (.inl ⟨p, vs, _, w', rfl, rfl, s, e1, d.at_ w R r1 h⟩)
      · exact h.elim
    · obtain ⟨rfl, l⟩ := rx
      split at h
      · rename_i w e
        exact .inr (.inr ⟨_, _, w, rfl, rfl, l, by rw [← at_eq]; exact e, d.at_ (.str _) R ⟨rfl, by show 1 ≤ sizeLine; decide⟩ h⟩)
      · exact h.elim
    · cases rx
      obtain ⟨xs, w, hl, e, q⟩ := h
      obtain ⟨vs, s, l, r⟩ := hl.rep R
      obtain ⟨w', e1, r1⟩ := r.at' e
      exact .inl ⟨_, vs, _, w', rfl, rfl, s, e1, d.at_ w R r1 q⟩
    · exact h.elim
  · exact h.elim
theorem ae_ix (ha : AE X a ta) (hb : AE X b tb) (hs : PlainIx b := by intro _ _; rfl) : AE X (.Subscript a b pos) (aOp rIxA ta tb) := PE.imp (pe_ix ix_seq ha hb hs) (op_imp ix_down)
/-! ### slices -/
abbrev ATO := ASt → AHp → (Option Int → AHp → Prop) → Prop
def cO (K : PySem.W.Frag) (t : ATO) : TO := fun σH H QH => ∃ σ AH Q, Rel K AH H ∧ RepS K H σ σH ∧ t σ AH Q ∧ ∀ i H' AH', Ext AH H AH' H' → Rel K AH' H' → Q i AH' → QH i H'
abbrev AO' (X : Cx) (e : Option Expr) (t : ATO) : Prop := PO X e (cO X.K t)
def aNoPart : ATO := fun _ AH Q => Q none AH
def aPart (t : ATE) : ATO := fun σ AH Q => t σ AH fun x AH1 => match x with | .int i => Q (some i) AH1 | _ => False
theorem PO.imp {e : Option Expr} {t t' : TO} (h : PO X e t) (i : ∀ σ H Q, t' σ H Q → t σ H Q) : PO X e t' := ⟨fun pins s σ H Q I hq => h.run pins s σ H Q I (i σ H Q hq)⟩
theorem ao_none : AO' X none aNoPart := by
  refine PO.imp po_none ?_
  rintro σ H Q ⟨σ', AH, Q', R, S, h, d⟩
  exact d _ _ _ Ext.refl R h
theorem ao_some (he : AE X e te) : AO' X (some e) (aPart te) := by
  refine PO.imp (po_some he) ?_
  rintro σ H Q ⟨σ', AH, Q', R, S, h, d⟩
  refine ⟨σ', AH, _, R, S, h, fun v H1 x AH1 k1 R1 r1 q1 => ?_⟩
  cases x with
  | int i => cases r1; exact ⟨i, rfl, d _ _ _ k1 R1 q1⟩
  | _ => exact q1.elim
def cutA (xs : List AV) (lo hi : Option Int) : List AV := (xs.drop (HT.sIx xs.length 0 lo)).take (HT.sIx xs.length xs.length hi - HT.sIx xs.length 0 lo)
theorem RepVs.cut {K : PySem.W.Frag} {H : Hp} {xs : List AV} {vs : List V} (r : RepVs K H xs vs) (lo hi : Option Int) : RepVs K H (cutA xs lo hi) (cutV vs lo hi) := by
  unfold cutA cutV
  rw [r.length]
  exact (r.drop _).take _
theorem cutA_length (xs : List AV) (lo hi : Option Int) : (cutA xs lo hi).length ≤ xs.length := by
  unfold cutA
  rw [List.length_take, List.length_drop]
  omega
def aSl (te : ATE) (tl th : ATO) : ATE := fun σ AH Q => te σ AH fun x AH1 => tl σ AH1 fun l AH2 => th σ AH2 fun u AH3 => match x with
  | .tup xs => Q (.tup (cutA xs l u)) AH3
  | .str z => Q (.str (cutS z l u)) AH3
  | .ref p => ∃ xs, LstAt AH3 p xs ∧ ∀ q, AH3 q = none → Q (.ref q) (aupd AH3 q (.lst (cutA xs l u)))
  | _ => False
theorem cutS_len {z : Str} {lo hi : Option Int} (h : z.length ≤ sizeLine) : (cutS z lo hi).length ≤ sizeLine := by
  refine Nat.le_trans ?_ h
  unfold cutS
  show (List.toArray _).size ≤ z.cps.size
  rw [List.size_toArray, List.length_take, List.length_drop, Array.length_toList]
  omega
theorem cutA_whole {xs : List AV} {lo hi : Option Int} (h : HT.sIx xs.length 0 lo = 0 ∧ HT.sIx xs.length xs.length hi = xs.length) : cutA xs lo hi = xs := by
  unfold cutA
  rw [h.1, h.2]
  simp
theorem ae_slice {lo hi : Option Expr} {tl th : ATO} (he : AE X e te) (hl : AO' X lo tl) (hu : AO' X hi th) : AE X (.Subscript e (.Slice lo hi none p2) pos) (aSl te tl th) := by
  refine PE.imp (pe_slice ((sl_list.or sl_tupA).or sl_str) he hl hu) ?_
  rintro σ H Q ⟨σ', AH, Q', R, S, h, d⟩
  refine ⟨σ', AH, _, R, S, h, fun v H1 x AH1 k1 R1 r1 q1 => ⟨σ', AH1, _, R1, S.kept k1.kept, q1, fun l H2 AH2 k2 R2 q2 => ⟨σ', AH2, _, R2, S.kept (k1.trans k2).kept, q2, fun u H3 AH3 k3 R3 q3 => ?_⟩⟩⟩
  have r3 := r1.kept (k2.trans k3).kept
  have k := (k1.trans k2).trans k3
  split at q3
  · rename_i xs
    obtain ⟨q, vs, rfl, s, ll, r⟩ := r3
    have e := r.length
    refine .inl (.inr ⟨q, vs, rfl, s, fun hw => ?_, fun hw t ht => ?_⟩)
    · rw [e] at hw
      rw [cutA_whole hw] at q3
      exact d _ _ (.tup xs) _ k R3 ⟨q, vs, rfl, s, ll, r⟩ q3
    · have k4 := Ext.new (AH := AH3) (o := .tup (cutV vs l u)) ht
      exact d _ _ (.tup _) _ (k.trans k4) (R3.new ht) ⟨t, _, rfl, .inl (.inl upd_same), Nat.le_trans (cutA_length _ _ _) ll, (r.cut l u).kept k4.kept⟩ q3
  · obtain ⟨rfl, ll⟩ := r3
    exact .inr ⟨_, rfl, ll, d _ _ (.str _) _ k R3 ⟨rfl, cutS_len ll⟩ q3⟩
  · cases r3
    obtain ⟨xs, hl, q⟩ := q3
    obtain ⟨vs, s, ll, r⟩ := hl.rep R3
    refine .inl (.inl ⟨_, vs, rfl, s, fun t ht => ?_⟩)
    have k4 := Ext.add (AH := AH3) (u := .lst (cutA xs l u)) (o := .lst (cutV vs l u)) ht
    exact d _ _ (.ref t) _ (k.trans k4) (R3.add (u := .lst (cutA xs l u)) ht ⟨_, upd_same, Nat.le_trans (cutA_length _ _ _) ll, (r.cut l u).kept k4.kept⟩) rfl (q t (R3.free ht))
  · exact q3.elim
end
end Av
/-! Av4: fields, calls of defs and built-ins. -/
namespace Av
open PySem PySem.Spec PyProof.Rows L2
section
variable {X : Cx} {pos p pos' apos : Pos} {a b c e o : Expr} {es rest : List Expr} {ta tb tc te : ATE} {t : ATA}
/-! ### fields -/
/-- the place of a name -/
def fix : List Str → Str → Option Nat
  | [], _ => none
  | x :: r, f => if f = x then some 0 else (fix r f).map (· + 1)
theorem fix_rep {K : PySem.W.Frag} {H : Hp} {f : Str} : ∀ {L : List Str} {vs : List AV} {l : List (Str × V)} {i : Nat}, vs.length = L.length → RepKs K H (L.zip vs) l → fix L f = some i →
    ∃ x v, nth vs i = some x ∧ l.lookup f = some v ∧ RepV K H x v
  | [], _, _, _, _, _, h => by cases h
  | g :: L, [], _, _, hl, _, _ => by simp at hl
  | g :: L, x :: vs, l, i, hl, hr, h => by
    obtain ⟨v, r, rfl, r1, r2⟩ := hr
    unfold fix at h
    by_cases z : f = g
    · rw [if_pos z] at h
      cases h
      subst z
      exact ⟨x, v, rfl, by simp [List.lookup], r1⟩
    · rw [if_neg z] at h
      obtain ⟨j, hj, rfl⟩ := Option.map_eq_some_iff.mp h
      obtain ⟨y, w, e1, e2, e3⟩ := fix_rep (L := L) (vs := vs) (by simpa using hl) r2 hj
      refine ⟨y, w, e1, ?_, e3⟩
      rw [List.lookup_cons, beq_eq_false_iff_ne.mpr z]
      exact e2
theorem fix_none {K : PySem.W.Frag} {H : Hp} {f : Str} : ∀ {L : List Str} {vs : List AV} {l : List (Str × V)}, vs.length = L.length → RepKs K H (L.zip vs) l → fix L f = none → l.lookup f = none
  | [], _, _, _, hr, _ => by cases hr; rfl
  | g :: L, [], _, hl, _, _ => by simp at hl
  | g :: L, x :: vs, l, hl, hr, h => by
    obtain ⟨v, r, rfl, r1, r2⟩ := hr
    unfold fix at h
    by_cases z : f = g
    · rw [if_pos z] at h; cases h
    · rw [if_neg z] at h
      rw [List.lookup_cons, beq_eq_false_iff_ne.mpr z]
      exact fix_none (L := L) (vs := vs) (by simpa using hl) r2 (by simpa using h)
theorem RepKs.length {K : PySem.W.Frag} {H : Hp} {κ : Type} : ∀ {xs : List (κ × AV)} {l : List (κ × V)}, RepKs K H xs l → l.length = xs.length
  | [], _, h => by cases h; rfl
  | x :: xs, _, ⟨v, r, e, _, h2⟩ => by subst e; simp [RepKs.length h2]
theorem putF_set {K : PySem.W.Frag} {H : Hp} {f : Str} {x : AV} {v : V} (q : RepV K H x v) : ∀ {L : List Str} {vs : List AV} {l : List (Str × V)} {i : Nat}, vs.length = L.length → RepKs K H (L.zip vs) l → fix L f = some i →
    RepKs K H (L.zip (vs.set i x)) (putF f v l)
  | [], _, _, _, _, _, h => by cases h
  | g :: L, [], _, _, hl, _, _ => by simp at hl
  | g :: L, y :: vs, l, i, hl, hr, h => by
    obtain ⟨w, r, rfl, r1, r2⟩ := hr
    unfold fix at h
    show RepKs K H _ (if g = f then (g, v) :: r else (g, w) :: putF f v r)
    by_cases z : f = g
    · rw [if_pos z] at h
      cases h
      rw [if_pos z.symm]
      exact ⟨v, r, rfl, q, r2⟩
    · rw [if_neg z] at h
      obtain ⟨j, hj, rfl⟩ := Option.map_eq_some_iff.mp h
      rw [if_neg (fun y => z y.symm)]
      exact ⟨w, _, rfl, r1, putF_set q (L := L) (vs := vs) (by simpa using hl) r2 hj⟩
theorem putF_new {K : PySem.W.Frag} {H : Hp} {f : Str} {x : AV} {v : V} (q : RepV K H x v) : ∀ {L : List Str} {vs : List AV} {l : List (Str × V)}, vs.length = L.length → RepKs K H (L.zip vs) l → fix L f = none →
    RepKs K H ((L ++ [f]).zip (vs ++ [x])) (putF f v l)
  | [], [], _, _, hr, _ => by cases hr; exact ⟨v, [], rfl, q, rfl⟩
  | [], _ :: _, _, hl, _, _ => by simp at hl
  | g :: L, [], _, hl, _, _ => by simp at hl
  | g :: L, y :: vs, l, hl, hr, h => by
    obtain ⟨w, r, rfl, r1, r2⟩ := hr
    unfold fix at h
    by_cases z : f = g
    · rw [if_pos z] at h; cases h
    · rw [if_neg z] at h
      show RepKs K H _ (if g = f then (g, v) :: r else (g, w) :: putF f v r)
      rw [if_neg (fun y => z y.symm)]
      exact ⟨w, _, rfl, r1, putF_new q (L := L) (vs := vs) (by simpa using hl) r2 (by simpa using h)⟩
/-- an instance of the class at C with the fields L stands at a value -/
abbrev InsAt (AH : AHp) (x : AV) (C : Addr) (L : List Str) (vs : List AV) : Prop := ∃ p, x = .ref p ∧ AH p = some (.ins C L vs)
def aFld (C : Addr) (L : List Str) (i : Nat) (ta : ATE) : ATE := fun σ AH Q => ta σ AH fun x AH1 => match x with
  | .ref p => ∃ vs, AH1 p = some (.ins C L vs) ∧ (match nth vs i with | some v => Q v AH1 | none => False)
  | _ => False
theorem ae_fld {C : Addr} {L : List Str} {i : Nat} {f : Str} (hc : Cls X.K C) (hn : NoAttr X.K C f) (he : AE X e te) (hi : fix L f = some i := by decide +kernel) (hb : attributeBase e f X.env (eval e X.env) = eval e X.env := by rfl) : AE X (.Attribute e f pos) (aFld C L i te) := by
  refine PE.imp (pe_fld he hb) ?_
  rintro σ H Q ⟨σ', AH, Q', R, S, h, d⟩
  refine ⟨σ', AH, _, R, S, h, fun v H1 x AH1 k1 R1 r1 q1 => ?_⟩
  cases x with
  | ref p =>
    cases r1
    obtain ⟨vs, hp, q⟩ := q1
    obtain ⟨dx, l, e1, hl, r⟩ := R1 _ _ hp
    obtain ⟨y, w, n1, n2, n3⟩ := fix_rep hl r hi
    rw [n1] at q
    exact ⟨p, C, dx, l, w, rfl, e1, hc, hn, n2, d _ _ y _ k1 R1 n3 q⟩
  | _ => exact q1.elim

/-! ### promises -/
abbrev ASp := List AV → AHp → AVK → AXK → Prop
abbrev DownX (K : PySem.W.Frag) (AH : AHp) (H : Hp) (E : AXK) (EH : XK) : Prop := ∀ C fs AH' H' d, Ext AH H AH' H' → Rel K AH' H' → ((fs = [] ∧ d = none) ∨ ∃ a l, d = some a ∧ H' a = some (.xd l) ∧ RepKs K H' fs l) → E C fs AH' → EH (.ref C) d H'
/-- a promise over data, as one over the layer's heap -/
def lift (K : PySem.W.Frag) (sp : ASp) : Sp := fun vs H QH EH => ∃ xs AH Q E, Rel K AH H ∧ RepVs K H xs vs ∧ sp xs AH Q E ∧ Down K AH H Q QH ∧ DownX K AH H E EH
abbrev AE0 : AXK := fun _ _ _ => False
/-- a def that stands at a name -/
structure DefOk (P : Program) (w : World) (K : PySem.W.Frag) (mg : Str → Option Value) (base : Heap) (CX : CXT) (k : Nat) (f : Addr) (ps : List Str) (sp : ASp) : Prop where
  fn : ∃ fd, FnOk P w K mg base CX k f fd ps (lift K sp) ∧ Binds K fd ps []
  kp : PySem.W.keepIn K (.ref f) = true
def aCall (sp : ASp) (E : AXK) (t : ATA) : ATE := fun σ AH Q => t σ AH fun xs AH1 => sp xs AH1 Q E
/-- no exception is wished for -/
theorem downX0 {K : PySem.W.Frag} {AH : AHp} {H : Hp} {EH : XK} : DownX K AH H AE0 EH := fun _ _ _ _ _ _ _ _ h => h.elim
theorem ae_call {k : Nat} {f : Addr} {ps : List Str} {sp : ASp} {x : Str} (F : DefOk X.prog X.w X.K X.mg X.base CX0 k f ps sp) (hm : X.mg x = some (.ref f)) (hr : Room k X.A) (ha : AL X (e :: es) t)
    (hg : Gl X x := by rfl) (hdb : (x == ("__debug__" : Str)) = false := by decide) (he : starEach (e :: es) X.env = (false, eval e X.env) :: starEach es X.env := by rfl) (hpl : (backTo pos (starEach es X.env)).any (·.1) = false := by rfl) :
    AE X (.Call (.Name x p) (e :: es) [] pos) (aCall sp AE0 t) := by
  obtain ⟨fd, fn, hb⟩ := F.fn
  refine PE.imp (pe_call fn hr hg hm F.kp hb (dvs := []) .nil (pass0 (X := X)) ha hdb he hpl) ?_
  rintro σ H Q ⟨σ', AH, Q', R, S, h, d⟩
  refine ⟨σ', AH, _, R, S, h, fun vs H1 xs AH1 k1 R1 r1 l1 q1 => ?_⟩
  show lift X.K sp (vs ++ []) H1 Q E0
  rw [List.append_nil]
  exact ⟨xs, AH1, Q', AE0, R1, r1, q1, fun v H2 y AH2 k2 => d v H2 y AH2 (k1.trans k2), downX0⟩
theorem ae_call0 {k : Nat} {f : Addr} {ps : List Str} {sp : ASp} {x : Str} (F : DefOk X.prog X.w X.K X.mg X.base CX0 k f ps sp) (hm : X.mg x = some (.ref f)) (hr : Room k X.A)
    (hg : Gl X x := by rfl) (hdb : (x == ("__debug__" : Str)) = false := by decide) : AE X (.Call (.Name x p) [] [] pos) (aCall sp AE0 aNil) := by
  obtain ⟨fd, fn, hb⟩ := F.fn
  refine PE.imp (pe_call0 fn hr hg hm F.kp hb (dvs := []) .nil (pass0 (X := X)) hdb) ?_
  rintro σ H Q ⟨σ', AH, Q', R, S, h, d⟩
  exact ⟨[], AH, Q', AE0, R, rfl, h, d, downX0⟩
/-- o.m(..) -/
def aMeth (C : Addr) (L : List Str) (sp : ASp) (E : AXK) (ta : ATE) (t : ATA) : ATE := fun σ AH Q => ta σ AH fun x AH1 => match x with
  | .ref p => (∃ vs, AH1 p = some (.ins C L vs)) ∧ t σ AH1 fun xs AH2 => sp (.ref p :: xs) AH2 Q E
  | _ => False
theorem ae_meth {k : Nat} {f C : Addr} {L : List Str} {ps : List Str} {sp : ASp} {m : Str} {pl : Sem Bool} (F : DefOk X.prog X.w X.K X.mg X.base CX0 k f ps sp) (hc : Cls X.K C) (hm : Meth X.K C m f) (hr : Room k X.A) (ho : AE X o te) (ha : AL X (e :: es) t)
    (hL : fix L m = none := by decide +kernel) (hst : starEach (e :: es) X.env = (false, eval e X.env) :: starEach es X.env := by rfl) (hpl : (backTo pos (starEach es X.env)).any (·.1) = false := by rfl)
    (ht : eval (.Call (.Attribute o m apos) (e :: es) [] pos) X.env = (do
      let ov ← eval o X.env
      standAt apos.atName
      let (f, first) ← holding [ov] (getMethod ov m pl)
      callWith pos f first (backTo pos (starEach (e :: es) X.env)) (backToKw pos (keywordEach [] X.env))) := by rfl) :
    AE X (.Call (.Attribute o m apos) (e :: es) [] pos) (aMeth C L sp AE0 te t) := by
  obtain ⟨fd, fn, hb⟩ := F.fn
  refine PE.imp (pe_meth ho hc hm fn hr hb (dvs := []) .nil (pass0 (X := X)) ha hst hpl ht) ?_
  rintro σ H Q ⟨σ', AH, Q', R, S, h, d⟩
  refine ⟨σ', AH, _, R, S, h, fun v H1 x AH1 k1 R1 r1 q1 => ?_⟩
  cases x with
  | ref p =>
    cases r1
    obtain ⟨⟨vs, hp⟩, q⟩ := q1
    obtain ⟨dx, l, e1, hl, r⟩ := R1 _ _ hp
    refine ⟨p, dx, l, rfl, e1, fix_none hl r hL, σ', AH1, _, R1, S.kept k1.kept, q, fun us H2 xs AH2 k2 R2 r2 l2 q2 => ?_⟩
    show lift X.K sp (V.ref p :: (us ++ [])) H2 Q E0
    rw [List.append_nil]
    exact ⟨.ref p :: xs, AH2, Q', AE0, R2, ⟨_, _, rfl, rfl, r2⟩, q2, fun v H3 y AH3 k3 => d v H3 y AH3 ((k1.trans k2).trans k3), downX0⟩
  | _ => exact q1.elim
theorem ae_meth0 {k : Nat} {f C : Addr} {L : List Str} {ps : List Str} {sp : ASp} {m : Str} {pl : Sem Bool} (F : DefOk X.prog X.w X.K X.mg X.base CX0 k f ps sp) (hc : Cls X.K C) (hm : Meth X.K C m f) (hr : Room k X.A) (ho : AE X o te)
    (hL : fix L m = none := by decide +kernel)
    (ht : eval (.Call (.Attribute o m apos) [] [] pos) X.env = (do
      let ov ← eval o X.env
      standAt apos.atName
      let (f, first) ← holding [ov] (getMethod ov m pl)
      callWith pos f first (backTo pos (starEach [] X.env)) (backToKw pos (keywordEach [] X.env))) := by rfl) :
    AE X (.Call (.Attribute o m apos) [] [] pos) (aMeth C L sp AE0 te aNil) := by
  obtain ⟨fd, fn, hb⟩ := F.fn
  refine PE.imp (pe_meth0 ho hc hm fn hr hb (dvs := []) .nil (pass0 (X := X)) ht) ?_
  rintro σ H Q ⟨σ', AH, Q', R, S, h, d⟩
  refine ⟨σ', AH, _, R, S, h, fun v H1 x AH1 k1 R1 r1 q1 => ?_⟩
  cases x with
  | ref p =>
    cases r1
    obtain ⟨⟨vs, hp⟩, q⟩ := q1
    obtain ⟨dx, l, e1, hl, r⟩ := R1 _ _ hp
    refine ⟨p, dx, l, rfl, e1, fix_none hl r hL, ?_⟩
    show lift X.K sp (V.ref p :: ([] ++ [])) H1 Q E0
    exact ⟨[.ref p], AH1, Q', AE0, R1, ⟨_, _, rfl, rfl, rfl⟩, q, fun v H3 y AH3 k3 => d v H3 y AH3 (k1.trans k3), downX0⟩
  | _ => exact q1.elim
/-- C(..) -/
def aMake (C : Addr) (sp : ASp) (E : AXK) (t : ATA) : ATE := fun σ AH Q => t σ AH fun xs AH1 => ∀ q, AH1 q = none → sp (.ref q :: xs) (aupd AH1 q (.ins C [] [])) (fun r AH2 => match r with | .non => Q (.ref q) AH2 | _ => False) E
theorem make_imp {C : Addr} {sp : ASp} {H1 : Hp} {AH1 : AHp} {xs : List AV} {vs : List V} {Q : VK} {Q' : AVK} {EH : XK} {K : PySem.W.Frag} (R1 : Rel K AH1 H1) (r1 : RepVs K H1 xs vs)
    (q1 : ∀ q, AH1 q = none → sp (.ref q :: xs) (aupd AH1 q (.ins C [] [])) (fun r AH2 => match r with | .non => Q' (.ref q) AH2 | _ => False) AE0)
    (d : ∀ v H2 y AH2, Ext AH1 H1 AH2 H2 → Rel K AH2 H2 → RepV K H2 y v → Q' y AH2 → Q v H2) :
    ∀ x dx, H1 x = none → H1 dx = none → dx ≠ x → lift K sp (.ref x :: vs) (upd (upd H1 dx (.own x)) x (.ins C dx [])) (fun v H2 => v = .non ∧ Q (.ref x) H2) EH := by
  intro x dx hx hdx ne
  have hx' : (upd H1 dx (.own x)) x = none := by rw [upd_ne (Ne.symm ne)]; exact hx
  have k0 : Ext AH1 H1 AH1 (upd H1 dx (.own x)) := Ext.new hdx
  have k1 : Ext AH1 (upd H1 dx (.own x)) (aupd AH1 x (.ins C [] [])) (upd (upd H1 dx (.own x)) x (.ins C dx [])) := Ext.add hx'
  have k := k0.trans k1
  refine ⟨.ref x :: xs, aupd AH1 x (.ins C [] []), _, AE0, (R1.new hdx).add hx' ⟨dx, [], upd_same, rfl, rfl⟩, ⟨_, _, rfl, rfl, r1.kept k.kept⟩, q1 x (R1.free hx), fun v H2 y AH2 k2 R2 r2 q2 => ?_, downX0⟩
  cases y with
  | non => cases r2; exact ⟨rfl, d _ _ (.ref x) _ (k.trans k2) R2 rfl q2⟩
  | _ => exact q2.elim
theorem ae_make {k : Nat} {f C : Addr} {ps : List Str} {sp : ASp} {x : Str} (F : DefOk X.prog X.w X.K X.mg X.base CX0 k f ps sp) (M : Mk X.K C f) (hm : X.mg x = some (.ref C)) (hr : Room (k + 1) X.A) (ha : AL X (e :: es) t)
    (hg : Gl X x := by rfl) (hdb : (x == ("__debug__" : Str)) = false := by decide) (he : starEach (e :: es) X.env = (false, eval e X.env) :: starEach es X.env := by rfl) (hpl : (backTo pos (starEach es X.env)).any (·.1) = false := by rfl) :
    AE X (.Call (.Name x p) (e :: es) [] pos) (aMake C sp AE0 t) := by
  obtain ⟨fd, fn, hb⟩ := F.fn
  refine PE.imp (pe_make M fn hr hg hm hb (dvs := []) .nil (pass0 (X := X)) ha hdb he hpl) ?_
  rintro σ H Q ⟨σ', AH, Q', R, S, h, d⟩
  refine ⟨σ', AH, _, R, S, h, fun vs H1 xs AH1 k1 R1 r1 l1 q1 => ?_⟩
  show ∀ x dx, H1 x = none → H1 dx = none → dx ≠ x → lift X.K sp (.ref x :: (vs ++ [])) (upd (upd H1 dx (.own x)) x (.ins C dx [])) (fun v H2 => v = .non ∧ Q (.ref x) H2) E0
  rw [List.append_nil]
  exact make_imp R1 r1 q1 fun v H2 y AH2 k2 => d v H2 y AH2 (k1.trans k2)
theorem ae_make0 {k : Nat} {f C : Addr} {ps : List Str} {sp : ASp} {x : Str} (F : DefOk X.prog X.w X.K X.mg X.base CX0 k f ps sp) (M : Mk X.K C f) (hm : X.mg x = some (.ref C)) (hr : Room (k + 1) X.A)
    (hg : Gl X x := by rfl) (hdb : (x == ("__debug__" : Str)) = false := by decide) : AE X (.Call (.Name x p) [] [] pos) (aMake C sp AE0 aNil) := by
  obtain ⟨fd, fn, hb⟩ := F.fn
  refine PE.imp (pe_make0 M fn hr hg hm hb (dvs := []) .nil (pass0 (X := X)) hdb) ?_
  rintro σ H Q ⟨σ', AH, Q', R, S, h, d⟩
  exact make_imp (vs := []) (xs := []) R rfl h fun v H2 y AH2 k2 => d v H2 y AH2 k2
/-! ### built-ins by their names -/
abbrev AR := List AV → AHp → AVK → Prop
def aCB (r : AR) (t : ATA) : ATE := fun σ AH Q => t σ AH fun xs AH1 => r xs AH1 Q
def ROk (K : PySem.W.Frag) (r : AR) (rH : List V → Hp → VK → Prop) : Prop := ∀ xs vs AH H Q QH, Rel K AH H → RepVs K H xs vs → r xs AH Q → Down K AH H Q QH → rH vs H QH
theorem cb_imp {r : AR} {rH : List V → Hp → VK → Prop} {n : Nat} (o : ROk X.K r rH) : ∀ σ H Q, cE X.K (aCB r t) σ H Q → tCB rH (cAn n X.K t) σ H Q := by
  rintro σ H Q ⟨σ', AH, Q', R, S, h, d⟩
  refine ⟨σ', AH, _, R, S, h, fun vs H1 xs AH1 k1 R1 r1 l1 q1 => ?_⟩
  exact o xs vs AH1 H1 Q' Q R1 r1 q1 fun v H2 y AH2 k2 => d v H2 y AH2 (k1.trans k2)
theorem ae_callB {id : String} {x : Str} {r : AR} {rH : List V → Hp → VK → Prop} (hc : CallR X (.builtin id) rH ∧ ROk X.K r rH) (hm : X.mg x = none) (ha : AL X (e :: es) t) (hv : bootBuiltins x = some (.builtin id) := by decide +kernel) (hg : Gl X x := by rfl)
    (hn : x ≠ "__name__" := by decide) (hdb : (x == ("__debug__" : Str)) = false := by decide)
    (he : starEach (e :: es) X.env = (false, eval e X.env) :: starEach es X.env := by rfl) (hpl : (backTo pos (starEach es X.env)).any (·.1) = false := by rfl) : AE X (.Call (.Name x p) (e :: es) [] pos) (aCB r t) :=
  PE.imp (pe_callB hc.1 hg hm hv ha hn hdb he hpl) (cb_imp hc.2)
theorem ae_callTy {T : String} {x : Str} {r : AR} {rH : List V → Hp → VK → Prop} (hc : CallR X (.type T) rH ∧ ROk X.K r rH) (hm : X.mg x = none) (ha : AL X (e :: es) t) (hv : bootBuiltins x = some (.type T) := by decide +kernel) (hg : Gl X x := by rfl)
    (hn : x ≠ "__name__" := by decide) (hdb : (x == ("__debug__" : Str)) = false := by decide)
    (he : starEach (e :: es) X.env = (false, eval e X.env) :: starEach es X.env := by rfl) (hpl : (backTo pos (starEach es X.env)).any (·.1) = false := by rfl) : AE X (.Call (.Name x p) (e :: es) [] pos) (aCB r t) :=
  PE.imp (pe_callTy hc.1 hg hm hv ha hn hdb he hpl) (cb_imp hc.2)
theorem callR_or {f : Value} {r1 r2 : List V → Hp → VK → Prop} (h1 : CallR X f r1) (h2 : CallR X f r2) : CallR X f (fun vs H Q => r1 vs H Q ∨ r2 vs H Q) := fun pins s σ H vs us Q I rv h => h.elim (h1 pins s σ H vs us Q I rv) (h2 pins s σ H vs us Q I rv)
theorem one_rep {K : PySem.W.Frag} {H : Hp} {x : AV} {vs : List V} (r : RepVs K H [x] vs) : ∃ v, vs = [v] ∧ RepV K H x v := by
  obtain ⟨v, r, rfl, h, e⟩ := r; cases e; exact ⟨v, rfl, h⟩
theorem two_rep {K : PySem.W.Frag} {H : Hp} {x y : AV} {vs : List V} (r : RepVs K H [x, y] vs) : ∃ v w, vs = [v, w] ∧ RepV K H x v ∧ RepV K H y w := by
  obtain ⟨v, r, rfl, h, w, r2, rfl, h2, e⟩ := r; cases e; exact ⟨v, w, rfl, h, h2⟩
/-- len(x) of a list, a tuple, a text -/
def rLenA : AR := fun xs AH Q => match xs with
  | [.tup ys] => Q (.int ys.length) AH
  | [.str z] => Q (.int z.length) AH
  | [.ref p] => ∃ ys, LstAt AH p ys ∧ Q (.int ys.length) AH
  | _ => False
theorem ac_len : CallR X (.builtin "len") (fun xs H Q => (∃ p ys, xs = [.ref p] ∧ (SqL X.K H p ys ∨ SqT X.K H p ys) ∧ Q (.int ys.length) H) ∨ (∃ z, xs = [.str z] ∧ z.length ≤ sizeLine ∧ Q (.int z.length) H)) ∧
    ROk X.K rLenA (fun xs H Q => (∃ p ys, xs = [.ref p] ∧ (SqL X.K H p ys ∨ SqT X.K H p ys) ∧ Q (.int ys.length) H) ∨ (∃ z, xs = [.str z] ∧ z.length ≤ sizeLine ∧ Q (.int z.length) H)) := by
  refine ⟨callR_or call_len_seq call_len_str, ?_⟩
  intro xs vs AH H Q QH R r h d
  unfold rLenA at h
  split at h
  · obtain ⟨v, rfl, q, vs, rfl, s, l, rs⟩ := one_rep r
    exact .inl ⟨q, vs, rfl, .inr s, by rw [rs.length]; exact d.at_ (.int _) R rfl h⟩
  · obtain ⟨v, rfl, rfl, l⟩ := one_rep r
    exact .inr ⟨_, rfl, l, d.at_ (.int _) R rfl h⟩
  · obtain ⟨v, rfl, hv⟩ := one_rep r
    cases hv
    obtain ⟨ys, hl, q⟩ := h
    obtain ⟨vs, s, l, rs⟩ := hl.rep R
    exact .inl ⟨_, vs, rfl, .inl s, by rw [rs.length]; exact d.at_ (.int _) R rfl q⟩
  · exact h.elim
/-- int(x) of an int, a bool, a text that is a number -/
def rIntA : AR := fun xs AH Q => match xs with
  | [.int i] => Q (.int i) AH
  | [.bl b] => Q (.int (match b with | true => 1 | false => 0)) AH
  | [.str z] => ∃ n, PySem.intText? z = some n ∧ z.length ≤ 640 ∧ Q (.int n) AH
  | _ => False
theorem ac_int : CallR X (.type "int") (fun xs H Q => ((∃ i, xs = [.int i] ∧ Q (.int i) H) ∨ ∃ k, xs = [.bl k] ∧ Q (.int (if k then 1 else 0)) H) ∨ (∃ a n, xs = [.str a] ∧ PySem.intText? a = some n ∧ a.length ≤ 640 ∧ Q (.int n) H)) ∧
    ROk X.K rIntA (fun xs H Q => ((∃ i, xs = [.int i] ∧ Q (.int i) H) ∨ ∃ k, xs = [.bl k] ∧ Q (.int (if k then 1 else 0)) H) ∨ (∃ a n, xs = [.str a] ∧ PySem.intText? a = some n ∧ a.length ≤ 640 ∧ Q (.int n) H)) := by
  refine ⟨callR_or call_int1 call_int_str, ?_⟩
  intro xs vs AH H Q QH R r h d
  unfold rIntA at h
  split at h
  · obtain ⟨v, rfl, hv⟩ := one_rep r
    cases hv
    exact .inl (.inl ⟨_, rfl, d.at_ (.int _) R rfl h⟩)
  · obtain ⟨v, rfl, hv⟩ := one_rep r
    cases hv
    refine .inl (.inr ⟨_, rfl, d.at_ (.int _) R ?_ h⟩)
    rename_i b
    cases b <;> rfl
  · obtain ⟨v, rfl, rfl, l⟩ := one_rep r
    obtain ⟨n, e, l2, q⟩ := h
    exact .inr ⟨_, n, rfl, e, l2, d.at_ (.int _) R rfl q⟩
  · exact h.elim
end
end Av
/-! Av5: statements, loops, comprehensions, defs. -/
namespace Av
open PySem PySem.Spec PyProof.Rows L2
structure AEnds where
  nx : ASt → AHp → Prop
  rt : AVK
  bk : ASt → AHp → Prop := fun _ _ => False
  ct : ASt → AHp → Prop := fun _ _ => False
abbrev ATS := AEnds → ASt → AHp → Prop
abbrev DownS (K : PySem.W.Frag) (AH : AHp) (H : Hp) (Q : ASt → AHp → Prop) (QH : L2.St → Hp → Prop) : Prop := ∀ σH' H' σ' AH', Ext AH H AH' H' → Rel K AH' H' → RepS K H' σ' σH' → Q σ' AH' → QH σH' H'
structure EndsD (K : PySem.W.Frag) (AH : AHp) (H : Hp) (AD : AEnds) (D : Ends) : Prop where
  nx : DownS K AH H AD.nx D.nx
  rt : Down K AH H AD.rt D.rt
  bk : DownS K AH H AD.bk D.bk
  ct : DownS K AH H AD.ct D.ct
def cS (K : PySem.W.Frag) (t : ATS) : TS := fun D σH H => ∃ σ AH AD, Rel K AH H ∧ RepS K H σ σH ∧ t AD σ AH ∧ EndsD K AH H AD D
abbrev AS (X : Cx) (st : Stmt) (t : ATS) : Prop := PS X st (cS X.K t)
abbrev ASs (X : Cx) (sts : List Stmt) (t : ATS) : Prop := PSs X sts (cS X.K t)
theorem PS.imp {X : Cx} {e : Stmt} {t t' : TS} (h : PS X e t) (i : ∀ D σ H, t' D σ H → t D σ H) : PS X e t' := ⟨fun pins s σ H D I hq => h.run pins s σ H D I (i D σ H hq)⟩
theorem PSs.imp {X : Cx} {e : List Stmt} {t t' : TS} (h : PSs X e t) (i : ∀ D σ H, t' D σ H → t D σ H) : PSs X e t' := ⟨fun pins s σ H D I hq => h.run pins s σ H D I (i D σ H hq)⟩
theorem EndsD.trans {K : PySem.W.Frag} {AH AH1 : AHp} {H H1 : Hp} {AD : AEnds} {D : Ends} (d : EndsD K AH H AD D) (k : Ext AH H AH1 H1) : EndsD K AH1 H1 AD D :=
  ⟨fun σH H2 σ AH2 k2 => d.nx σH H2 σ AH2 (k.trans k2), fun v H2 x AH2 k2 => d.rt v H2 x AH2 (k.trans k2), fun σH H2 σ AH2 k2 => d.bk σH H2 σ AH2 (k.trans k2), fun σH H2 σ AH2 k2 => d.ct σH H2 σ AH2 (k.trans k2)⟩
section
variable {X : Cx} {pos p pos' apos : Pos} {a b c e o : Expr} {es : List Expr} {ta tb tc te : ATE} {t : ATA} {st : Stmt} {sts rest : List Stmt} {u v : ATS} {tt : ATT}
def aNext : ATS := fun D σ AH => D.nx σ AH
def aSeq (t u : ATS) : ATS := fun D σ AH => t { D with nx := u D } σ AH
theorem ass_nil : ASs X [] aNext := by
  refine PSs.imp pss_nil ?_
  rintro D σ H ⟨σ', AH, AD, R, S, h, d⟩
  exact d.nx _ _ _ _ Ext.refl R S h
theorem ass_cons (h1 : AS X st u) (h2 : ASs X rest v) : ASs X (st :: rest) (aSeq u v) := by
  refine PSs.imp (pss_cons h1 h2) ?_
  rintro D σ H ⟨σ', AH, AD, R, S, h, d⟩
  refine ⟨σ', AH, _, R, S, h, ⟨fun σH H1 σ1 AH1 k1 R1 S1 q1 => ⟨σ1, AH1, AD, R1, S1, q1, d.trans k1⟩, d.rt, d.bk, d.ct⟩⟩
theorem ass_one (h1 : AS X st u) : ASs X [st] u := pss_one h1
def aBreak : ATS := fun D σ AH => D.bk σ AH
def aCont : ATS := fun D σ AH => D.ct σ AH
def aNever : ATS := fun _ _ _ => False
theorem as_pass : AS X (.Pass pos) aNext := by
  refine PS.imp ps_pass ?_
  rintro D σ H ⟨σ', AH, AD, R, S, h, d⟩
  exact d.nx _ _ _ _ Ext.refl R S h
theorem as_break : AS X (.Break pos) aBreak := by
  refine PS.imp ps_break ?_
  rintro D σ H ⟨σ', AH, AD, R, S, h, d⟩
  exact d.bk _ _ _ _ Ext.refl R S h
theorem as_continue : AS X (.Continue pos) aCont := by
  refine PS.imp ps_continue ?_
  rintro D σ H ⟨σ', AH, AD, R, S, h, d⟩
  exact d.ct _ _ _ _ Ext.refl R S h
theorem as_never : AS X st aNever := by
  refine PS.imp ps_never ?_
  rintro D σ H ⟨σ', AH, AD, R, S, h, d⟩
  exact h
def aDrop (te : ATE) : ATS := fun D σ AH => te σ AH fun _ AH1 => D.nx σ AH1
theorem as_expr (he : AE X e te) (hs : swapsWith e none pos.line X.env = pure false := by rfl) : AS X (.Expr e pos) (aDrop te) := by
  refine PS.imp (ps_expr he hs) ?_
  rintro D σ H ⟨σ', AH, AD, R, S, h, d⟩
  exact ⟨σ', AH, _, R, S, h, fun v H1 x AH1 k1 R1 r1 q1 => d.nx _ _ _ _ k1 R1 (S.kept k1.kept) q1⟩
def aRet (te : ATE) : ATS := fun D σ AH => te σ AH D.rt
theorem as_ret (he : AE X e te) : AS X (.Return (some e) pos) (aRet te) := by
  refine PS.imp (ps_ret he) ?_
  rintro D σ H ⟨σ', AH, AD, R, S, h, d⟩
  exact ⟨σ', AH, _, R, S, h, d.rt⟩
def aRetN : ATS := fun D _ AH => D.rt .non AH
theorem as_retN : AS X (.Return none pos) aRetN := by
  refine PS.imp ps_retN ?_
  rintro D σ H ⟨σ', AH, AD, R, S, h, d⟩
  exact d.rt _ _ .non _ Ext.refl R rfl h
def aIf (c : ATT) (t u : ATS) : ATS := fun D σ AH => c σ AH fun b AH1 => match b with | true => t D σ AH1 | false => u D σ AH1
theorem as_if {sa sb : List Stmt} (hc : AT X c tt) (ha : ASs X sa u) (hb : ASs X sb v) : AS X (.If c sa sb pos) (aIf tt u v) := by
  refine PS.imp (ps_if hc ha hb) ?_
  rintro D σ H ⟨σ', AH, AD, R, S, h, d⟩
  refine ⟨σ', AH, _, R, S, h, fun b H1 AH1 k1 R1 q1 => ?_⟩
  cases b with
  | true => exact iteT ⟨σ', AH1, AD, R1, S.kept k1.kept, q1, d.trans k1⟩
  | false => exact iteF ⟨σ', AH1, AD, R1, S.kept k1.kept, q1, d.trans k1⟩
/-! ### targets -/
abbrev ATG := AV → ASt → AHp → (ASt → AHp → Prop) → Prop
abbrev ATGs := List AV → ASt → AHp → (ASt → AHp → Prop) → Prop
def cG (K : PySem.W.Frag) (g : ATG) : TG := fun v σH H QH => ∃ x σ AH Q, Rel K AH H ∧ RepS K H σ σH ∧ RepV K H x v ∧ g x σ AH Q ∧ DownS K AH H Q QH
def cGs (K : PySem.W.Frag) (g : ATGs) : TGs := fun vs σH H QH => ∃ xs σ AH Q, Rel K AH H ∧ RepS K H σ σH ∧ RepVs K H xs vs ∧ g xs σ AH Q ∧ DownS K AH H Q QH
abbrev AG (X : Cx) (e : Expr) (g : ATG) : Prop := PG X e (cG X.K g)
abbrev AGs (X : Cx) (es : List Expr) (g : ATGs) : Prop := PGs X es (cGs X.K g)
theorem PG.imp {e : Expr} {t t' : TG} (h : PG X e t) (i : ∀ v σ H Q, t' v σ H Q → t v σ H Q) : PG X e t' := ⟨fun pins s σ H x u Q I r hq => h.run pins s σ H x u Q I r (i x σ H Q hq)⟩
theorem PGs.imp {e : List Expr} {t t' : TGs} (h : PGs X e t) (i : ∀ v σ H Q, t' v σ H Q → t v σ H Q) : PGs X e t' := ⟨fun pins s σ H x u Q I r hq => h.run pins s σ H x u Q I r (i x σ H Q hq)⟩
def agName (i : Nat) : ATG := fun v σ AH Q => Q (setSlot σ i v) AH
def agNil : ATGs := fun vs σ AH Q => match vs with | [] => Q σ AH | _ => False
def agCons (t : ATG) (u : ATGs) : ATGs := fun vs σ AH Q => match vs with | v :: r => t v σ AH fun σ' AH' => u r σ' AH' Q | [] => False
def agTup (n : Nat) (t : ATGs) : ATG := fun v σ AH Q => match v with | .tup xs => xs.length = n ∧ t xs σ AH Q | _ => False
theorem ag_name {i : Nat} {x : Str} (hN : X.N.Nodup) (hi : X.N[i]? = some x := by rfl) (hx : Loc X.env.scope x := by first | exact Or.inl rfl | exact Or.inr rfl) (hf : X.fn x = true ∨ X.env.scope.names.lookup x = some .local := by first | exact .inl rfl | exact .inr rfl) : AG X (.Name x pos) (agName i) := by
  refine PG.imp (pg_name hN hi hx hf) ?_
  rintro v σ H Q ⟨x', σ', AH, Q', R, S, r, h, d⟩
  exact d _ _ _ _ Ext.refl R (S.set r i) h
theorem ags_nil : AGs X [] agNil := by
  refine PGs.imp pgs_nil ?_
  rintro v σ H Q ⟨xs, σ', AH, Q', R, S, r, h, d⟩
  cases xs with
  | nil => cases r; exact ⟨rfl, d _ _ _ _ Ext.refl R S h⟩
  | cons _ _ => exact h.elim
theorem ags_cons {g : ATG} {gs : ATGs} (h1 : AG X e g) (h2 : AGs X es gs) (hs : (assignEach (e :: es) X.env).map (·.2) = assign e X.env :: (assignEach es X.env).map (·.2) := by rfl) : AGs X (e :: es) (agCons g gs) := by
  refine PGs.imp (pgs_cons h1 h2 hs) ?_
  rintro v σ H Q ⟨xs, σ', AH, Q', R, S, r, h, d⟩
  cases xs with
  | nil => exact h.elim
  | cons x xs =>
    obtain ⟨v, r', rfl, r1, r2⟩ := r
    exact ⟨v, r', rfl, x, σ', AH, _, R, S, r1, h, fun σH H1 σ1 AH1 k1 R1 S1 q1 => ⟨xs, σ1, AH1, _, R1, S1, r2.kept k1.kept, q1, fun σH H2 σ2 AH2 k2 => d σH H2 σ2 AH2 (k1.trans k2)⟩⟩
theorem ag_tup {k n : Nat} {gs : ATGs} (hc : X.calm = true) (h : AGs X es gs) (hn : (assignEach es X.env).length = n := by rfl) (hst : (assignEach es X.env).findIdx? (·.1) = none := by rfl) : AG X (.Tuple es k pos) (agTup n gs) := by
  subst hn
  refine PG.imp (pg_tup hc h rfl hst) ?_
  rintro v σ H Q ⟨x, σ', AH, Q', R, S, r, h, d⟩
  cases x with
  | tup xs =>
    obtain ⟨q, vs, rfl, s, l, rs⟩ := r
    exact ⟨q, vs, rfl, s, by rw [rs.length]; exact h.1, xs, σ', AH, Q', R, S, rs, h.2, d⟩
  | _ => exact h.elim
/-! ### stores -/
def aAsg (te : ATE) (g : ATG) : ATS := fun D σ AH => te σ AH fun x AH1 => g x σ AH1 D.nx
theorem as_asg {tg : Expr} {g : ATG} (he : AE X e te) (hg : AG X tg g) (hs : swapsWithSole [tg] e pos.line X.env = pure false := by rfl) (hw : swappedStores [tg] e X.env = pure none := by rfl)
    (h1 : (assignEach [tg] X.env).map (·.2) = [assign tg X.env] := by rfl) : AS X (.Assign [tg] e pos) (aAsg te g) := by
  refine PS.imp (ps_asg he hg hs hw h1) ?_
  rintro D σ H ⟨σ', AH, AD, R, S, h, d⟩
  exact ⟨σ', AH, _, R, S, h, fun v H1 x AH1 k1 R1 r1 q1 => ⟨x, σ', AH1, AD.nx, R1, S.kept k1.kept, r1, q1, fun σH H2 σ2 AH2 k2 => d.nx σH H2 σ2 AH2 (k1.trans k2)⟩⟩
theorem as_set {i : Nat} {x : Str} (hN : X.N.Nodup) (he : AE X e te) (hi : X.N[i]? = some x := by rfl) (hx : Loc X.env.scope x := by first | exact Or.inl rfl | exact Or.inr rfl) (hs : swapsWith e (some (.Name x pos')) pos.line X.env = pure false := by rfl) (hf : X.fn x = true ∨ X.env.scope.names.lookup x = some .local := by first | exact .inl rfl | exact .inr rfl) :
    AS X (.Assign [.Name x pos'] e pos) (aAsg te (agName i)) := by
  refine PS.imp (ps_set hN hi hx he hs hf) ?_
  rintro D σ H ⟨σ', AH, AD, R, S, h, d⟩
  exact ⟨σ', AH, _, R, S, h, fun v H1 x AH1 k1 R1 r1 q1 => d.nx _ _ _ _ k1 R1 ((S.kept k1.kept).set r1 i) q1⟩
/-- o[i] = .. -/
abbrev ATSet := AV → AV → AV → AHp → (AHp → Prop) → Prop
def SetOk (K : PySem.W.Frag) (r : ATSet) (rH : TSet) : Prop := ∀ o i v oH iH vH AH H Q QH, Rel K AH H → RepV K H o oH → RepV K H i iH → RepV K H v vH → r o i v AH Q → (∀ H' AH', Ext AH H AH' H' → Rel K AH' H' → Q AH' → QH H') → rH oH iH vH H QH
def agSub (to ti : ATE) (r : ATSet) : ATG := fun v σ AH Q => to σ AH fun o AH1 => ti σ AH1 fun i AH2 => r o i v AH2 fun AH3 => Q σ AH3
theorem ag_sub {i : Expr} {to ti : ATE} {r : ATSet} {rH : TSet} (hs : PSet X rH ∧ SetOk X.K r rH) (ho : AE X o to) (hi : AE X i ti)
    (ha : ∀ v, assign (.Subscript o i pos) X.env v = (do
      let ov ← holding [v] (eval o X.env)
      let iv ← holding [v, ov] (eval i X.env)
      standAt pos
      holding [v, ov, iv] (setItem ov iv v)
      release [v, ov, iv] []) := by intro _; rfl) : AG X (.Subscript o i pos) (agSub to ti r) := by
  refine PG.imp (pg_sub ho hi hs.1 ha) ?_
  rintro v σ H Q ⟨x', σ', AH, Q', R, S, r, h, d⟩
  refine ⟨σ', AH, _, R, S, h, fun oH H1 o1 AH1 k1 R1 r1 q1 => ⟨σ', AH1, _, R1, S.kept k1.kept, q1, fun iH H2 i1 AH2 k2 R2 r2 q2 => ?_⟩⟩
  refine hs.2 o1 i1 x' oH iH v AH2 H2 _ _ R2 (r1.kept k2.kept) r2 (r.kept (k1.trans k2).kept) q2 fun H3 AH3 k3 R3 q3 => ?_
  have k := (k1.trans k2).trans k3
  exact d _ _ _ _ k R3 (S.kept k.kept) q3
/-- xs[i] = v, a list -/
def ixA (n : Nat) : Int → Option Nat
  | .ofNat k => if k < n then some k else none
  | .negSucc k => if k < n then some (n - 1 - k) else none
theorem ixA_eq (n : Nat) (i : Int) : ixA n i = ixN n i := by
  cases i with
  | ofNat k =>
    show (if k < n then some k else none) = ixN n (k : Int)
    unfold ixN
    rw [if_pos (Int.natCast_nonneg k)]
    by_cases h : k < n
    · rw [if_pos h, if_pos (by exact_mod_cast h)]; rfl
    · rw [if_neg h, if_neg (by intro z; exact h (by exact_mod_cast z))]
  | negSucc k =>
    show (if k < n then some (n - 1 - k) else none) = ixN n (Int.negSucc k)
    unfold ixN
    have h0 : ¬ (0 ≤ Int.negSucc k) := by omega
    rw [if_neg h0]
    by_cases h : k < n
    · have h1 : -(n : Int) ≤ Int.negSucc k := by omega
      rw [if_pos h, if_pos h1]
      congr 1
      omega
    · have h1 : ¬ (-(n : Int) ≤ Int.negSucc k) := by omega
      rw [if_neg h, if_neg h1]
def rSetLA : ATSet := fun o i v AH Q => match o, i with
  | .ref p, .int k => ∃ xs j, AH p = some (.lst xs) ∧ ixA xs.length k = some j ∧ Q (aupd AH p (.lst (xs.set j v)))
  | _, _ => False
theorem aset_list : PSet X rSetL ∧ SetOk X.K rSetLA rSetL := by
  refine ⟨set_list, ?_⟩
  intro o i v oH iH vH AH H Q QH R ro ri rv h d
  unfold rSetLA at h
  split at h
  · cases ro; cases ri
    obtain ⟨xs, j, hp, hj, q⟩ := h
    obtain ⟨vs, e, l, rs⟩ := R _ _ hp
    have k : Ext AH H (aupd AH _ (.lst (xs.set j v))) (upd H _ (.lst (vs.set j vH))) := Ext.write e trivial hp
    refine ⟨_, vs, _, j, rfl, rfl, e, by rw [rs.length, ← ixA_eq]; exact hj, d _ _ k (R.write e trivial ⟨_, upd_same, by simpa using l, ?_⟩) q⟩
    exact (RepVs.set rv j rs).kept k.kept
  · exact h.elim
/-- o.f = v, a field that is there; one more field -/
def aFldSet (C : Addr) (L : List Str) (i : Nat) (to tv : ATE) : ATS := fun D σ AH => tv σ AH fun y AH1 => to σ AH1 fun x AH2 => match x with
  | .ref p => ∃ vs, AH2 p = some (.ins C L vs) ∧ D.nx σ (aupd AH2 p (.ins C L (vs.set i y)))
  | _ => False
theorem as_fld {C : Addr} {L : List Str} {i : Nat} {f : Str} {value : Expr} {tv : ATE} (hc : Cls X.K C) (hn : NoAttr X.K C f) (ho : AE X o te) (hv : AE X value tv) (hi : fix L f = some i := by decide +kernel) (hl : L.length < 1000 := by decide +kernel)
    (hs : swapsWith value (some (.Attribute o f pos')) pos.line X.env = pure false := by rfl) : AS X (.Assign [.Attribute o f pos'] value pos) (aFldSet C L i te tv) := by
  refine PS.imp (ps_fld ho hv hs) ?_
  rintro D σ H ⟨σ', AH, AD, R, S, h, d⟩
  refine ⟨σ', AH, _, R, S, h, fun y H1 y' AH1 k1 R1 r1 q1 => ⟨σ', AH1, _, R1, S.kept k1.kept, q1, fun x H2 x' AH2 k2 R2 r2 q2 => ?_⟩⟩
  cases x' with
  | ref p =>
    cases r2
    obtain ⟨vs, hp, q⟩ := q2
    obtain ⟨dx, l, e, z, r⟩ := R2 _ _ hp
    have k3 : Ext AH2 H2 (aupd AH2 p (.ins C L (vs.set i y'))) (upd H2 p (.ins C dx (putF f y l))) := Ext.write e trivial hp
    refine ⟨p, C, dx, l, rfl, e, hc, hn, ?_, d.nx _ _ _ _ ((k1.trans k2).trans k3) (R2.write e trivial ⟨dx, _, upd_same, by simpa using z, (putF_set (r1.kept k2.kept) z r hi).kept k3.kept⟩) (S.kept ((k1.trans k2).trans k3).kept) q⟩
    rw [r.length, List.length_zip]
    omega
  | _ => exact q2.elim
def aFldNew (C : Addr) (L : List Str) (f : Str) (to tv : ATE) : ATS := fun D σ AH => tv σ AH fun y AH1 => to σ AH1 fun x AH2 => match x with
  | .ref p => ∃ vs, AH2 p = some (.ins C L vs) ∧ D.nx σ (aupd AH2 p (.ins C (L ++ [f]) (vs ++ [y])))
  | _ => False
theorem as_fldnew {C : Addr} (L : List Str) {f : Str} {value : Expr} {tv : ATE} (hc : Cls X.K C) (hn : NoAttr X.K C f) (ho : AE X o te) (hv : AE X value tv) (hi : fix L f = none := by decide +kernel) (hl : L.length < 1000 := by decide +kernel)
    (hs : swapsWith value (some (.Attribute o f pos')) pos.line X.env = pure false := by rfl) : AS X (.Assign [.Attribute o f pos'] value pos) (aFldNew C L f te tv) := by
  refine PS.imp (ps_fld ho hv hs) ?_
  rintro D σ H ⟨σ', AH, AD, R, S, h, d⟩
  refine ⟨σ', AH, _, R, S, h, fun y H1 y' AH1 k1 R1 r1 q1 => ⟨σ', AH1, _, R1, S.kept k1.kept, q1, fun x H2 x' AH2 k2 R2 r2 q2 => ?_⟩⟩
  cases x' with
  | ref p =>
    cases r2
    obtain ⟨vs, hp, q⟩ := q2
    obtain ⟨dx, l, e, z, r⟩ := R2 _ _ hp
    have k3 : Ext AH2 H2 (aupd AH2 p (.ins C (L ++ [f]) (vs ++ [y']))) (upd H2 p (.ins C dx (putF f y l))) := Ext.write e trivial hp
    refine ⟨p, C, dx, l, rfl, e, hc, hn, ?_, d.nx _ _ _ _ ((k1.trans k2).trans k3) (R2.write e trivial ⟨dx, _, upd_same, by simp [z], (putF_new (r1.kept k2.kept) z r hi).kept k3.kept⟩) (S.kept ((k1.trans k2).trans k3).kept) q⟩
    rw [r.length, List.length_zip]
    omega
  | _ => exact q2.elim
/-! ### what is walked -/
/-- a walk's items over data; stays: what must hold at each turn -/
structure IterOk (K : PySem.W.Frag) (AH1 : AHp) (H1 : Hp) (J : It) (items : List AV) (stays : AHp → Prop) : Prop where
  len : items.length ≤ sizeLine
  go : ∀ i H AH, Ext AH1 H1 AH H → Rel K AH H → stays AH → i < items.length → J.go i H
  stop : ∀ H AH, Ext AH1 H1 AH H → Rel K AH H → stays AH → J.stop items.length H
  yld : ∀ i H v H' AH, Ext AH1 H1 AH H → Rel K AH H → stays AH → J.yld i H v H' → i < items.length → ∃ x, items[i]? = some x ∧ Ext AH H AH H' ∧ Rel K AH H' ∧ RepV K H' x v
abbrev ATI := ASt → AHp → (List AV → (AHp → Prop) → AHp → Prop) → Prop
def cI (K : PySem.W.Frag) (t : ATI) : TI := fun σH H RH => ∃ σ AH Q, Rel K AH H ∧ RepS K H σ σH ∧ t σ AH Q ∧ ∀ J H' AH' items stays, Ext AH H AH' H' → Rel K AH' H' → IterOk K AH' H' J items stays → Q items stays AH' → RH J H'
abbrev AI (X : Cx) (tg iter : Expr) (t : ATI) : Prop := PI X tg iter (cI X.K t)
theorem PI.imp {tg e : Expr} {t t' : TI} (h : PI X tg e t) (i : ∀ σ H Q, t' σ H Q → t σ H Q) : PI X tg e t' := ⟨fun pins s σ H Q I hq => h.run pins s σ H Q I (i σ H Q hq)⟩
/-- a for's body over the items that are left -/
def loopP (stays : AHp → Prop) (g : ATG) (tb : ATS) (D : AEnds) : List AV → ASt → AHp → Prop
  | [], σ, AH => stays AH ∧ D.nx σ AH
  | x :: xs, σ, AH => stays AH ∧ g x σ AH fun σ2 AH2 => tb { nx := loopP stays g tb D xs, rt := D.rt, bk := D.nx, ct := loopP stays g tb D xs } σ2 AH2
def aFor (wi : ATI) (g : ATG) (tb : ATS) : ATS := fun D σ AH => wi σ AH fun items stays AH1 => loopP stays g tb D items σ AH1
theorem as_for {tg iter : Expr} {body : List Stmt} {wi : ATI} {g : ATG} {tb : ATS} (hp : PassesOwn (model X.prog X.w) X.A X.env X.xe) (hc : X.calm = true) (hi : AI X tg iter wi) (hg : AG X tg g) (hb : ASs X body tb)
    (hs : ∀ x, foldedSetIterable iter X.env x = pure x := by intro _; rfl) : AS X (.For tg iter body [] pos) (aFor wi g tb) := by
  refine PS.imp (ps_for hp hc hi hg hb hs) ?_
  rintro D σ H ⟨σ', AH, AD, R, S, h, d⟩
  refine ⟨σ', AH, _, R, S, h, fun J H1 AH1 items stays k1 R1 ok q1 => ?_⟩
  refine ⟨fun i m σH H2 => m = items.length - i ∧ i ≤ items.length ∧ ∃ σ2 AH2, Ext AH1 H1 AH2 H2 ∧ Rel X.K AH2 H2 ∧ RepS X.K H2 σ2 σH ∧ loopP stays g tb AD (items.drop i) σ2 AH2, ⟨items.length, by simp, Nat.zero_le _, σ', AH1, Ext.refl, R1, S.kept k1.kept, q1⟩, ?_⟩
  rintro i m σH H2 ⟨rfl, hi, σ2, AH2, k2, R2, S2, q2⟩
  by_cases hlt : i < items.length
  · rw [List.drop_eq_getElem_cons hlt] at q2
    obtain ⟨st, q2⟩ := q2
    refine .inr ⟨ok.go i H2 AH2 k2 R2 st hlt, fun σH' H' => items.length - (i + 1) < items.length - i ∧ ∃ σ3 AH3, Ext AH1 H1 AH3 H' ∧ Rel X.K AH3 H' ∧ RepS X.K H' σ3 σH' ∧ loopP stays g tb AD (items.drop (i + 1)) σ3 AH3, fun σH' H' ⟨hm, z⟩ => ⟨_, hm, rfl, hlt, z⟩, fun v H3 y => ?_⟩
    obtain ⟨x, ex, k3, R3, r3⟩ := ok.yld i H2 v H3 AH2 k2 R2 st y hlt
    have ex' : x = items[i] := by rw [List.getElem?_eq_getElem hlt] at ex; exact (Option.some.inj ex).symm
    subst ex'
    have k23 := k2.trans k3
    refine ⟨_, σ2, AH2, _, R3, S2.kept k3.kept, r3, q2, fun σH4 H4 σ4 AH4 k4 R4 S4 q4 => ⟨σ4, AH4, _, R4, S4, q4, ?_⟩⟩
    have k := k23.trans k4
    refine ⟨fun σH5 H5 σ5 AH5 k5 R5 S5 q5 => ⟨by omega, σ5, AH5, k.trans k5, R5, S5, q5⟩, fun v H5 x AH5 k5 => d.rt v H5 x AH5 ((k1.trans k).trans k5), fun σH5 H5 σ5 AH5 k5 => d.nx σH5 H5 σ5 AH5 ((k1.trans k).trans k5), fun σH5 H5 σ5 AH5 k5 R5 S5 q5 => ⟨by omega, σ5, AH5, k.trans k5, R5, S5, q5⟩⟩
  · have e : i = items.length := by omega
    subst e
    rw [List.drop_length] at q2
    obtain ⟨st, q2⟩ := q2
    exact .inl ⟨ok.stop H2 AH2 k2 R2 st, d.nx _ _ _ _ (k1.trans k2) R2 S2 q2⟩
end
end Av
/-! Av6: what is walked; while; comprehensions; defs. -/
namespace Av
open PySem PySem.Spec PyProof.Rows L2
section
variable {X : Cx} {pos p pos' apos tpos : Pos} {a b c e e2 o tg : Expr} {es : List Expr} {ta tb tc te : ATE} {t : ATA} {st : Stmt} {sts rest : List Stmt} {u v : ATS} {tt : ATT}
/-! ### walks -/
def strItems (z : Str) : List AV := z.cps.toList.map fun c => .str ⟨#[c]⟩
theorem iter_list {K : PySem.W.Frag} {AH1 : AHp} {H1 : Hp} {q : Addr} {items : List AV} (hl : items.length ≤ sizeLine) : IterOk K AH1 H1 (Itl K q) items (fun AH => LstAt AH q items) where
  len := hl
  go := fun i H AH k R st hi => by
    obtain ⟨vs, s, _, r⟩ := st.rep R
    exact ⟨vs, vs[i]'(by rw [r.length]; exact hi), s, List.getElem?_eq_getElem _⟩
  stop := fun H AH k R st => by
    obtain ⟨vs, s, _, r⟩ := st.rep R
    exact ⟨vs, s, by rw [r.length]; exact Nat.le_refl _⟩
  yld := fun i H v H' AH k R st y hi => by
    obtain ⟨vs, s, _, r⟩ := st.rep R
    obtain ⟨rfl, y⟩ := y
    obtain ⟨x, ex, rx⟩ := r.getV (y vs s)
    exact ⟨x, ex, Ext.refl, R, rx⟩
theorem iter_tup {K : PySem.W.Frag} {AH1 : AHp} {H1 : Hp} {q : Addr} {items : List AV} {vs : List V} (hl : items.length ≤ sizeLine) (s : SqT K H1 q vs) (r : RepVs K H1 items vs) : IterOk K AH1 H1 (Itt K q) items (fun _ => True) where
  len := hl
  go := fun i H AH k R st hi => ⟨vs, vs[i]'(by rw [r.length]; exact hi), k.kept.rd s, List.getElem?_eq_getElem _⟩
  stop := fun H AH k R st => ⟨vs, k.kept.rd s, by rw [r.length]; exact Nat.le_refl _⟩
  yld := fun i H v H' AH k R st y hi => by
    obtain ⟨rfl, y⟩ := y
    obtain ⟨x, ex, rx⟩ := r.getV (y vs (k.kept.rd s))
    exact ⟨x, ex, Ext.refl, R, rx.kept k.kept⟩
theorem iter_str {K : PySem.W.Frag} {AH1 : AHp} {H1 : Hp} {z : Str} (hl : z.length ≤ sizeLine) : IterOk K AH1 H1 (Its z) (strItems z) (fun _ => True) where
  len := by unfold strItems; rw [List.length_map, Array.length_toList]; exact hl
  go := fun i H AH k R st hi => by unfold strItems at hi; rw [List.length_map, Array.length_toList] at hi; exact hi
  stop := fun H AH k R st => by show z.cps.size ≤ _; unfold strItems; rw [List.length_map, Array.length_toList]; exact Nat.le_refl _
  yld := fun i H v H' AH k R st y hi => by
    obtain ⟨rfl, c, hc, rfl⟩ := y
    refine ⟨.str ⟨#[c]⟩, ?_, Ext.refl, R, rfl, by show 1 ≤ sizeLine; decide⟩
    unfold strItems
    rw [List.getElem?_map, Array.getElem?_toList, hc]
    rfl
/-- for x in e, e a list, a tuple or a text -/
def aWalk (te : ATE) : ATI := fun σ AH Q => te σ AH fun x AH1 => match x with
  | .tup xs => Q xs (fun _ => True) AH1
  | .str z => Q (strItems z) (fun _ => True) AH1
  | .ref q => ∃ xs, LstAt AH1 q xs ∧ Q xs (fun AH => LstAt AH q xs) AH1
  | _ => False
theorem pi_any {X : Cx} {tg e : Expr} {te : TE} (he : PE X e te) : PI X tg e (fun σ H R => te σ H fun x H1 => (∃ q, x = .ref q ∧ (∃ xs, SqL X.K H1 q xs) ∧ R (Itl X.K q) H1) ∨ (∃ q, x = .ref q ∧ (∃ xs, SqT X.K H1 q xs) ∧ R (Itt X.K q) H1) ∨ ∃ z, x = .str z ∧ R (Its z) H1) := by
  refine ⟨fun pins s σ H R I h => ?_⟩
  refine thn (he.run pins s σ H _ I h) fun v s1 ⟨x, H1, I1, r1, q1⟩ => ?_
  rcases q1 with ⟨a, ex, ⟨xs, hq⟩, q⟩ | ⟨a, ex, ⟨xs, hq⟩, q⟩ | ⟨x, ex, q⟩
  · subst ex
    cases r1
    obtain ⟨its, rv, p, hz⟩ := I1.list hq
    refine wpAny_pyIter_list p.isList ?_
    refine ⟨s1.heap.objs.size, [s1.heap.objs.size], _, _, H1, rfl, I1.kept (t' := s1.toks) fun b o e => Heap.get?_push_of_some _ e, turn_list a _, ⟨_, Heap.get?_push_size _ rfl, rfl, rfl⟩, fun b hb => ?_, q⟩
    have e : b = s1.heap.objs.size := by simpa using hb
    subst e
    exact I1.fpOk (Nat.le_refl _) (I1.hok.fresh (Nat.le_refl _))
  · subst ex
    cases r1
    obtain ⟨its, rv, p, hz⟩ := I1.tuple hq
    refine wpAny_pyIter_tuple (show s1.heap.IsTuple a its.toArray from p) ?_
    refine ⟨s1.heap.objs.size, [s1.heap.objs.size], _, _, H1, rfl, I1.kept (t' := s1.toks) fun b o e => Heap.get?_push_of_some _ e, turn_tuple a _, ⟨_, Heap.get?_push_size _ rfl, rfl, rfl⟩, fun b hb => ?_, q⟩
    have e : b = s1.heap.objs.size := by simpa using hb
    subst e
    exact I1.fpOk (Nat.le_refl _) (I1.hok.fresh (Nat.le_refl _))
  · subst ex
    obtain ⟨t, rfl⟩ := r1
    cases ha : x.cps.all (· < 128)
    · exact wpAny_pyIter_wide ha (pi_one (tk := s1.toks) I1 _ (turn_str _ x t "str_iterator" (.inr rfl)) ⟨_, Heap.get?_push_size _ rfl, rfl, rfl⟩ q)
    · exact wpAny_pyIter_ascii ha (pi_one (tk := s1.toks) I1 _ (turn_str _ x t "str_ascii_iterator" (.inl rfl)) ⟨_, Heap.get?_push_size _ rfl, rfl, rfl⟩ q)
theorem ai_any (he : AE X e te) : AI X tg e (aWalk te) := by
  refine PI.imp (pi_any he) ?_
  rintro σ H Q ⟨σ', AH, Q', R, S, h, d⟩
  refine ⟨σ', AH, _, R, S, h, fun v H1 x AH1 k1 R1 r1 q1 => ?_⟩
  cases x with
  | tup xs =>
    obtain ⟨q, vs, rfl, s, l, r⟩ := r1
    exact .inr (.inl ⟨q, rfl, ⟨vs, s⟩, d _ _ _ _ _ k1 R1 (iter_tup l s r) q1⟩)
  | str z =>
    obtain ⟨rfl, l⟩ := r1
    exact .inr (.inr ⟨z, rfl, d _ _ _ _ _ k1 R1 (iter_str l) q1⟩)
  | ref q =>
    cases r1
    obtain ⟨xs, hl, q2⟩ := q1
    obtain ⟨vs, s, l, r⟩ := hl.rep R1
    exact .inl ⟨q, rfl, ⟨vs, s⟩, d _ _ _ _ _ k1 R1 (iter_list l) q2⟩
  | _ => exact q1.elim
def rangeItems (lo : Int) (n : Nat) : List AV := (List.range n).map fun i => .int (lo + (i : Nat))
theorem iter_range {K : PySem.W.Frag} {AH1 : AHp} {H1 : Hp} {lo : Int} {n : Nat} (hl : n ≤ sizeLine) : IterOk K AH1 H1 (Itr lo n) (rangeItems lo n) (fun _ => True) where
  len := by unfold rangeItems; simpa using hl
  go := fun i H AH k R st hi => by unfold rangeItems at hi; show i < n; simpa using hi
  stop := fun H AH k R st => by show n ≤ _; unfold rangeItems; simp
  yld := fun i H v H' AH k R st y hi => by
    obtain ⟨rfl, rfl⟩ := y
    unfold rangeItems at hi
    refine ⟨.int (lo + (i : Nat)), ?_, Ext.refl, R, rfl⟩
    unfold rangeItems
    rw [List.getElem?_map, List.getElem?_range (by simpa using hi)]
    rfl
def aRange1 (t : ATA) : ATI := fun σ AH Q => t σ AH fun xs AH1 => match xs with
  | [.int j] => j ≤ (sizeLine : Nat) ∧ (0 ≤ j ∧ Q (rangeItems 0 j.toNat) (fun _ => True) AH1)
  | _ => False
theorem sl62 : ((sizeLine : Nat) : Int) < 2 ^ 62 := by rw [sizeLine_eq]; decide
theorem ai_range1 (hm : X.mg "range" = none) (ha : AL X [a] t) (hg : Gl X "range" := by rfl) (hs : starEach [a] X.env = [(false, eval a X.env)] := by rfl) : AI X tg (.Call (.Name "range" p) [a] [] pos) (aRange1 t) := by
  refine PI.imp (pi_range1 hg hm ha hs) ?_
  rintro σ H Q ⟨σ', AH, Q', R, S, h, d⟩
  refine ⟨σ', AH, _, R, S, h, fun vs H1 xs AH1 k1 R1 r1 l1 q1 => ?_⟩
  split at q1
  · rename_i j
    obtain ⟨v, rfl, hv⟩ := one_rep r1
    cases hv
    obtain ⟨h1, h0, q⟩ := q1
    have := sl62
    exact ⟨j, rfl, by omega, by omega, d _ _ _ _ _ k1 R1 (iter_range (by omega)) q⟩
  · exact q1.elim
def aRange2 (t : ATA) : ATI := fun σ AH Q => t σ AH fun xs AH1 => match xs with
  | [.int i, .int j] => (-(sizeLine : Nat) ≤ i ∧ i ≤ (sizeLine : Nat) ∧ -(sizeLine : Nat) ≤ j ∧ j ≤ (sizeLine : Nat) ∧ j - i ≤ (sizeLine : Nat)) ∧ Q (rangeItems i (j - i).toNat) (fun _ => True) AH1
  | _ => False
theorem ai_range2 (hm : X.mg "range" = none) (ha : AL X [a, b] t) (hg : Gl X "range" := by rfl) (hs : starEach [a, b] X.env = [(false, eval a X.env), (false, eval b X.env)] := by rfl) (hs2 : starEach [b] X.env = [(false, eval b X.env)] := by rfl) :
    AI X tg (.Call (.Name "range" p) [a, b] [] pos) (aRange2 t) := by
  refine PI.imp (pi_range2 hg hm ha hs hs2) ?_
  rintro σ H Q ⟨σ', AH, Q', R, S, h, d⟩
  refine ⟨σ', AH, _, R, S, h, fun vs H1 xs AH1 k1 R1 r1 l1 q1 => ?_⟩
  split at q1
  · rename_i i j
    obtain ⟨v, w, rfl, hv, hw⟩ := two_rep r1
    cases hv; cases hw
    obtain ⟨⟨h1, h2, h3, h4, h5⟩, q⟩ := q1
    have := sl62
    exact ⟨i, j, rfl, ⟨by omega, by omega, by omega, by omega⟩, d _ _ _ _ _ k1 R1 (iter_range (by omega)) q⟩
  · exact q1.elim
/-- pairs of places and items -/
def enumItems (i : Nat) : List AV → List AV
  | [] => []
  | x :: xs => .tup [.int (i : Nat), x] :: enumItems (i + 1) xs
theorem enumItems_length : ∀ (xs : List AV) (i : Nat), (enumItems i xs).length = xs.length
  | [], _ => rfl
  | x :: xs, i => by simp [enumItems, enumItems_length xs]
theorem enumItems_get : ∀ (xs : List AV) (i j : Nat), (enumItems i xs)[j]? = xs[j]?.map fun x => .tup [.int ((i + j : Nat) : Int), x]
  | [], _, _ => by simp [enumItems]
  | x :: xs, i, 0 => by simp [enumItems]
  | x :: xs, i, j + 1 => by
    simp only [enumItems, List.getElem?_cons_succ]
    rw [enumItems_get xs (i + 1) j]
    congr 2
    funext x
    rw [show i + 1 + j = i + (j + 1) by omega]
theorem iter_enum {K : PySem.W.Frag} {AH1 : AHp} {H1 : Hp} {q : Addr} {items : List AV} (hl : items.length ≤ sizeLine) : IterOk K AH1 H1 (Ite K q) (enumItems 0 items) (fun AH => LstAt AH q items) where
  len := by rw [enumItems_length]; exact hl
  go := fun i H AH k R st hi => by
    rw [enumItems_length] at hi
    obtain ⟨vs, s, _, r⟩ := st.rep R
    exact ⟨vs, vs[i]'(by rw [r.length]; exact hi), s, List.getElem?_eq_getElem _⟩
  stop := fun H AH k R st => by
    rw [enumItems_length]
    obtain ⟨vs, s, _, r⟩ := st.rep R
    exact ⟨vs, s, by rw [r.length]; exact Nat.le_refl _⟩
  yld := fun i H v H' AH k R st y hi => by
    obtain ⟨vs, s, _, r⟩ := st.rep R
    obtain ⟨T, w, rfl, hT, rfl, y⟩ := y
    obtain ⟨x, ex, rx⟩ := r.getV (y vs s)
    have k2 : Ext AH H AH (upd H T (.tup [.int (i : Nat), w])) := Ext.new hT
    refine ⟨.tup [.int (i : Nat), x], ?_, k2, R.new hT, T, _, rfl, .inl (.inl upd_same), by show 2 ≤ sizeLine; decide, ⟨_, _, rfl, rfl, _, _, rfl, rx.kept k2.kept, rfl⟩⟩
    rw [enumItems_get, ex]
    simp
def aEnum (t : ATA) : ATI := fun σ AH Q => t σ AH fun xs AH1 => match xs with
  | [.ref q] => ∃ xs, LstAt AH1 q xs ∧ Q (enumItems 0 xs) (fun AH => LstAt AH q xs) AH1
  | _ => False
theorem ai_enum {elts : List Expr} {kk : Nat} (hm : X.mg "enumerate" = none) (ha : AL X [a] t) (hg : Gl X "enumerate" := by rfl) (hs : starEach [a] X.env = [(false, eval a X.env)] := by rfl) : AI X (.Tuple elts kk tpos) (.Call (.Name "enumerate" p) [a] [] pos) (aEnum t) := by
  refine PI.imp (pi_enum hg hm ha hs) ?_
  rintro σ H Q ⟨σ', AH, Q', R, S, h, d⟩
  refine ⟨σ', AH, _, R, S, h, fun vs H1 xs AH1 k1 R1 r1 l1 q1 => ?_⟩
  split at q1
  · obtain ⟨v, rfl, hv⟩ := one_rep r1
    cases hv
    obtain ⟨ys, hl, q⟩ := q1
    obtain ⟨vs, s, l, r⟩ := hl.rep R1
    exact ⟨_, vs, rfl, s, d _ _ _ _ _ k1 R1 (iter_enum l) q⟩
  · exact q1.elim
/-! ### while -/
/-- at most n turns more -/
def whileN (c : ATT) (tb : ATS) (D : AEnds) : Nat → ASt → AHp → Prop
  | 0, _, _ => False
  | n + 1, σ, AH => c σ AH fun b AH1 => match b with
    | true => tb { nx := whileN c tb D n, rt := D.rt, bk := D.nx, ct := whileN c tb D n } σ AH1
    | false => D.nx σ AH1
def aWhile (c : ATT) (tb : ATS) : ATS := fun D σ AH => ∃ n, whileN c tb D n σ AH
theorem as_while {body : List Stmt} {c : Expr} (hp : PassesOwn (model X.prog X.w) X.A X.env X.xe) (hc : AT X c tt) (hb : ASs X body u) : AS X (.While c body [] pos) (aWhile tt u) := by
  refine PS.imp (ps_while hp hc hb) ?_
  rintro D σ H ⟨σ', AH, AD, R, S, ⟨n, h⟩, d⟩
  refine ⟨fun m σH H2 => ∃ σ2 AH2, Ext AH H AH2 H2 ∧ Rel X.K AH2 H2 ∧ RepS X.K H2 σ2 σH ∧ whileN tt u AD m σ2 AH2, ⟨n, σ', AH, Ext.refl, R, S, h⟩, ?_⟩
  rintro m σH H2 ⟨σ2, AH2, k2, R2, S2, q2⟩
  cases m with
  | zero => exact q2.elim
  | succ m =>
    refine ⟨σ2, AH2, _, R2, S2, q2, fun b H3 AH3 k3 R3 q3 => ?_⟩
    have k := k2.trans k3
    cases b with
    | true =>
      refine ⟨fun σH' H' => ∃ σ4 AH4, Ext AH H AH4 H' ∧ Rel X.K AH4 H' ∧ RepS X.K H' σ4 σH' ∧ whileN tt u AD m σ4 AH4, fun σH' H' z => ⟨m, Nat.lt_succ_self m, z⟩, σ2, AH3, _, R3, S2.kept k3.kept, q3, ?_⟩
      exact ⟨fun σH5 H5 σ5 AH5 k5 R5 S5 q5 => ⟨σ5, AH5, k.trans k5, R5, S5, q5⟩, fun v H5 x AH5 k5 => d.rt v H5 x AH5 (k.trans k5), fun σH5 H5 σ5 AH5 k5 => d.nx σH5 H5 σ5 AH5 (k.trans k5), fun σH5 H5 σ5 AH5 k5 R5 S5 q5 => ⟨σ5, AH5, k.trans k5, R5, S5, q5⟩⟩
    | false => exact d.nx _ _ _ _ k R3 (S2.kept k3.kept) q3
/-! ### comprehensions -/
/-- the items that are left, what is made so far -/
def compP (stays : AHp → Prop) (set : AV → Option ASt) (tt : ATT) (te : ATE) (Q : List AV → AHp → Prop) : List AV → List AV → AHp → Prop
  | [], acc, AH => stays AH ∧ Q acc AH
  | x :: xs, acc, AH => stays AH ∧ (match set x with
    | some σ2 => tt σ2 AH fun b AH3 => (match b with
      | true => te σ2 AH3 fun y AH4 => compP stays set tt te Q xs (acc ++ [y]) AH4
      | false => compP stays set tt te Q xs acc AH3)
    | none => False)
def lcEnd (Q : AVK) : List AV → AHp → Prop := fun acc AH => ∀ q, AH q = none → Q (.ref q) (aupd AH q (.lst acc))
def aYes : ATT := fun _ AH Q => Q true AH
abbrev ATs (X : Cx) (ifs : List Expr) (t : ATT) : Prop := PTs X ifs (cT X.K t)
theorem PTs.imp {ifs : List Expr} {t t' : TT} (h : PTs X ifs t) (i : ∀ σ H Q, t' σ H Q → t σ H Q) : PTs X ifs t' := ⟨fun pins s σ H Q I hq => h.run pins s σ H Q I (i σ H Q hq)⟩
theorem ats_nil : ATs X [] aYes := by
  refine PTs.imp pts_nil ?_
  rintro σ H Q ⟨σ', AH, Q', R, S, h, d⟩
  exact d _ _ _ Ext.refl R h
theorem ats_one (h : AT X c tt) : ATs X [c] tt := pts_one h
def aLc1 (i : Nat) (wi : ATI) (tt : ATT) (te : ATE) : ATE := fun σ AH Q => wi σ AH fun items stays AH1 => compP stays (fun x => some (setSlot (clrSlot σ i) i x)) tt te (lcEnd Q) items [] AH1
def set2 (σ : ASt) (i j : Nat) (x : AV) : Option ASt := match x with
  | .tup [a, b] => some (setSlot (setSlot (clrSlot (clrSlot σ j) i) i a) j b)
  | _ => none
def aLc2 (i j : Nat) (wi : ATI) (tt : ATT) (te : ATE) : ATE := fun σ AH Q => wi σ AH fun items stays AH1 => compP stays (set2 σ i j) tt te (lcEnd Q) items [] AH1
/-- both forms of a target at once: gH the target's step, its slots vs -/
theorem lc_imp {K : PySem.W.Frag} {wi : ATI} {gH : TG} {vs : List Nat} {set : ASt → AV → Option ASt} (nd : True)
    (hset : ∀ σ σH AH H x v σ2 (Q : L2.St → Hp → Prop), RepS K H σ σH → RepV K H x v → set σ x = some σ2 → (∀ σ2H, RepS K H σ2 σ2H → L2.wipe σ2H vs = L2.wipe σH vs → Q σ2H H) → Rel K AH H → gH v (L2.wipe σH vs) H Q) :
    ∀ σH H Q, cE K (fun σ AH Q => wi σ AH fun items stays AH1 => compP stays (set σ) tt te (lcEnd Q) items [] AH1) σH H Q → tLc (cI K wi) gH (cT K tt) (cE K te) vs σH H Q := by
  rintro σH H Q ⟨σ, AH, Q', R, S, h, d⟩
  refine ⟨σ, AH, _, R, S, h, fun J H1 AH1 items stays k1 R1 ok q1 => fun D hD => ?_⟩
  have hD1 : AH1 D = none := R1.free hD
  have S1 := S.kept k1.kept
  refine ⟨fun i m H2 => m = items.length - i ∧ i ≤ items.length ∧ ∃ AH2 acc vacc, Ext AH1 H1 AH2 H2 ∧ Rel K AH2 H2 ∧ H2 D = some (.lst vacc) ∧ AH2 D = none ∧ RepVs K H2 acc vacc ∧ acc.length ≤ i ∧ compP stays (set σ) tt te (lcEnd Q') (items.drop i) acc AH2,
    ⟨items.length, by simp, Nat.zero_le _, AH1, [], [], Ext.new hD, R1.new hD, upd_same, hD1, rfl, Nat.le_refl _, q1⟩, ?_⟩
  rintro i m H2 ⟨rfl, hi, AH2, acc, vacc, k2, R2, hd2, hn2, ra, la, q2⟩
  by_cases hlt : i < items.length
  · rw [List.drop_eq_getElem_cons hlt] at q2
    obtain ⟨st, q2⟩ := q2
    refine .inr ⟨ok.go i H2 AH2 k2 R2 st hlt, fun H' => items.length - (i + 1) < items.length - i ∧ ∃ AH3 acc vacc, Ext AH1 H1 AH3 H' ∧ Rel K AH3 H' ∧ H' D = some (.lst vacc) ∧ AH3 D = none ∧ RepVs K H' acc vacc ∧ acc.length ≤ i + 1 ∧ compP stays (set σ) tt te (lcEnd Q') (items.drop (i + 1)) acc AH3, fun H' ⟨hm, z⟩ => ⟨_, hm, rfl, hlt, z⟩, fun v H3 y => ?_⟩
    obtain ⟨x, ex, k3, R3, r3⟩ := ok.yld i H2 v H3 AH2 k2 R2 st y hlt
    have ex' : x = items[i] := by rw [List.getElem?_eq_getElem hlt] at ex; exact (Option.some.inj ex).symm
    subst ex'
    have k23 := k2.trans k3
    obtain ⟨hd3, hn3⟩ := k3.hid D _ hd2 hn2
    cases es : set σ items[i] with
    | none => rw [es] at q2; exact q2.elim
    | some σ2 =>
      rw [es] at q2
      refine hset σ σH AH2 H3 _ v σ2 _ (S1.kept k23.kept) r3 es (fun σ2H S2 hw => ⟨hw, σ2, AH2, _, R3, S2, q2, fun b H4 AH4 k4 R4 q4 => ?_⟩) R3
      obtain ⟨hd4, hn4⟩ := k4.hid D _ hd3 hn3
      have k24 := k23.trans k4
      cases b with
      | false => exact iteF ⟨by omega, AH4, acc, vacc, k24, R4, hd4, hn4, ra.kept (k3.trans k4).kept, by omega, q4⟩
      | true =>
        refine iteT ⟨σ2, AH4, _, R4, S2.kept k4.kept, q4, fun w H5 y' AH5 k5 R5 r5 q5 => ?_⟩
        obtain ⟨hd5, hn5⟩ := k5.hid D _ hd4 hn4
        have k25 := k24.trans k5
        have kw : Kept H5 (upd H5 D (.lst (vacc ++ [w]))) := Kept.write hd5 trivial
        have hlen := ok.len
        have ra5 := ra.kept ((k3.trans k4).trans k5).kept
        refine ⟨vacc, hd5, by rw [ra.length]; omega, by omega, AH5, acc ++ [y'], vacc ++ [w], ⟨k25.kept.trans kw, fun c o hc hc' => ?_⟩, fun c o hc => ?_, upd_same, hn5, (ra5.kept kw).append ⟨w, [], rfl, r5.kept kw, rfl⟩, by simp; omega, q5⟩
        · obtain ⟨h5, n5⟩ := k25.hid c o hc hc'
          refine ⟨by rw [upd_ne (ne_of_none hc hD)]; exact h5, n5⟩
        · have ne : c ≠ D := fun z => by rw [z, hn5] at hc; cases hc
          exact (R5 c o hc).kept kw (upd_ne ne)
  · have e : i = items.length := by omega
    subst e
    rw [List.drop_length] at q2
    obtain ⟨st, q2⟩ := q2
    have hlen := ok.len
    have k12 := k1.trans k2
    refine .inl ⟨ok.stop H2 AH2 k2 R2 st, d _ _ (.ref D) (aupd AH2 D (.lst acc)) ⟨k12.kept, fun c o hc hc' => ?_⟩ (fun c o hc => ?_) rfl (q2 D hn2)⟩
    · obtain ⟨h2, n2⟩ := k12.hid c o hc hc'
      exact ⟨h2, by rw [aupd_ne (ne_of_none (k1.hid c o hc hc').1 hD)]; exact n2⟩
    · by_cases z : c = D
      · subst z
        rw [aupd_same] at hc
        cases hc
        exact ⟨vacc, hd2, by omega, ra⟩
      · rw [aupd_ne z] at hc
        exact R2 c o hc
theorem wipe1 (σ : L2.St) (i : Nat) (v : Option V) : L2.wipe ((L2.wipe σ [i]).set i v) [i] = L2.wipe σ [i] := by
  show (((σ.set i none).set i v).set i none) = σ.set i none
  rw [List.set_set, List.set_set]
theorem wipe2 (σ : L2.St) {i j : Nat} (h : i ≠ j) (v w : Option V) : L2.wipe (((L2.wipe σ [i, j]).set i v).set j w) [i, j] = L2.wipe σ [i, j] := by
  show ((((((σ.set j none).set i none).set i v).set j w).set j none).set i none) = (σ.set j none).set i none
  rw [List.set_set, List.set_set, List.set_comm none _ (Ne.symm h), List.set_set, List.set_comm none _ h, List.set_set]
abbrev Blk (X : Cx) (scope : Scope) (Pr : Cx → Prop) : Prop := ∀ (s : Shared) (H : Hp) (C : Addr) (cl : List (Str × Addr)) (fp : List Addr), Pr (X.blk s H scope (compEnvC scope cl C X.env) fp)
theorem ae_lc1 {elt iter : Expr} {ifs : List Expr} {scope : Scope} {i : Nat} {x : Str} {wi : ATI} (hc : X.calm = true) (hN : X.N.Nodup) (hi : AI X (.Name x tpos) iter wi) (ok : BlkOk X.N X.env.scope scope [(x, i)])
    (hg : Blk X scope fun Y => PG Y (.Name x tpos) (gName i)) (ht : Blk X scope fun Y => ATs Y ifs tt) (he : Blk X scope fun Y => AE Y elt te) (hs : ∀ x, foldedSetIterable iter X.env x = pure x := by intro _; rfl) :
    AE X (.ListComp elt [⟨.Name x tpos, iter, ifs, 0⟩] scope pos) (aLc1 i wi tt te) := by
  refine PE.imp (pe_lc (own := [(x, i)]) (g := gName i) (tt := cT X.K tt) (te := cE X.K te) hc hN hi ok hg ht he hs) ?_
  refine lc_imp (vs := [i]) (set := fun σ x => some (setSlot (clrSlot σ i) i x)) trivial ?_
  intro σ σH AH H x v σ2 Q S r e q R
  cases e
  exact q _ ((S.clr i).set r i) (wipe1 σH i (some v))
theorem ae_lc2 {elt iter : Expr} {ifs : List Expr} {scope : Scope} {i j k : Nat} {x y : Str} {wi : ATI} {tp tq : Pos} (hc : X.calm = true) (hN : X.N.Nodup) (hi : AI X (.Tuple [.Name x tp, .Name y tq] k tpos) iter wi) (ok : BlkOk X.N X.env.scope scope [(x, i), (y, j)]) (hij : i ≠ j)
    (hg : Blk X scope fun Y => PG Y (.Tuple [.Name x tp, .Name y tq] k tpos) (gTup Y.K 2 (gCons (gName i) (gCons (gName j) gNil)))) (ht : Blk X scope fun Y => ATs Y ifs tt) (he : Blk X scope fun Y => AE Y elt te) (hs : ∀ x, foldedSetIterable iter X.env x = pure x := by intro _; rfl) :
    AE X (.ListComp elt [⟨.Tuple [.Name x tp, .Name y tq] k tpos, iter, ifs, 0⟩] scope pos) (aLc2 i j wi tt te) := by
  refine PE.imp (pe_lc (own := [(x, i), (y, j)]) (g := gTup X.K 2 (gCons (gName i) (gCons (gName j) gNil))) (tt := cT X.K tt) (te := cE X.K te) hc hN hi ok hg ht he hs) ?_
  refine lc_imp (vs := [i, j]) (set := fun σ x => set2 σ i j x) trivial ?_
  intro σ σH AH H x v σ2 Q S r e q R
  unfold set2 at e
  split at e
  · cases e
    obtain ⟨qq, vs, rfl, s, l, r⟩ := r
    obtain ⟨v, r', rfl, r1, w, r'', rfl, r2, e3⟩ := r
    cases e3
    exact ⟨qq, [v, w], rfl, s, rfl, v, [w], rfl, w, [], rfl, rfl, q _ ((((S.clr j).clr i).set r1 i).set r2 j) (wipe2 σH hij (some v) (some w))⟩
  · cases e
/-- y = [..] on one line -/
theorem as_setLc1 {elt iter : Expr} {ifs : List Expr} {scope : Scope} {i n : Nat} {x y : Str} {wi : ATI} {py spos : Pos} (hc : X.calm = true) (hN : X.N.Nodup) (hi : AI X (.Name x tpos) iter wi) (ok : BlkOk X.N X.env.scope scope [(x, i)])
    (hg : Blk X scope fun Y => PG Y (.Name x tpos) (gName i)) (ht : Blk X scope fun Y => ATs Y ifs tt) (he : Blk X scope fun Y => AE Y elt te)
    (hsw : swapsWith (.ListComp elt [⟨.Name x tpos, iter, ifs, 0⟩] scope pos) (some (.Name y py)) spos.line X.env = pure true)
    (hy : X.N[n]? = some y := by rfl) (hyl : X.env.scope.names.lookup y = some .local := by rfl) (hs : ∀ x, foldedSetIterable iter X.env x = pure x := by intro _; rfl) :
    AS X (.Assign [.Name y py] (.ListComp elt [⟨.Name x tpos, iter, ifs, 0⟩] scope pos) spos) (aAsg (aLc1 i wi tt te) (agName n)) := by
  refine PS.imp (ps_setLc (i := n) (own := [(x, i)]) (g := gName i) (tt := cT X.K tt) (te := cE X.K te) hc hN hy hyl hsw hi ok hg ht he hs) ?_
  rintro D σ H ⟨σ', AH, AD, R, S, h, d⟩
  refine lc_imp (vs := [i]) (set := fun σ x => some (setSlot (clrSlot σ i) i x)) trivial ?_ σ H _ ⟨σ', AH, _, R, S, h, fun v H1 x AH1 k1 R1 r1 q1 => d.nx _ _ _ _ k1 R1 ((S.kept k1.kept).set r1 n) q1⟩
  intro σ σH AH H x v σ2 Q S r e q R
  cases e
  exact q _ ((S.clr i).set r i) (wipe1 σH i (some v))
theorem as_setLc2 {elt iter : Expr} {ifs : List Expr} {scope : Scope} {i j k n : Nat} {x x' y : Str} {wi : ATI} {py spos tp tq : Pos} (hc : X.calm = true) (hN : X.N.Nodup) (hi : AI X (.Tuple [.Name x tp, .Name x' tq] k tpos) iter wi) (ok : BlkOk X.N X.env.scope scope [(x, i), (x', j)]) (hij : i ≠ j)
    (hg : Blk X scope fun Y => PG Y (.Tuple [.Name x tp, .Name x' tq] k tpos) (gTup Y.K 2 (gCons (gName i) (gCons (gName j) gNil)))) (ht : Blk X scope fun Y => ATs Y ifs tt) (he : Blk X scope fun Y => AE Y elt te)
    (hsw : swapsWith (.ListComp elt [⟨.Tuple [.Name x tp, .Name x' tq] k tpos, iter, ifs, 0⟩] scope pos) (some (.Name y py)) spos.line X.env = pure true)
    (hy : X.N[n]? = some y := by rfl) (hyl : X.env.scope.names.lookup y = some .local := by rfl) (hs : ∀ x, foldedSetIterable iter X.env x = pure x := by intro _; rfl) :
    AS X (.Assign [.Name y py] (.ListComp elt [⟨.Tuple [.Name x tp, .Name x' tq] k tpos, iter, ifs, 0⟩] scope pos) spos) (aAsg (aLc2 i j wi tt te) (agName n)) := by
  refine PS.imp (ps_setLc (i := n) (own := [(x, i), (x', j)]) (g := gTup X.K 2 (gCons (gName i) (gCons (gName j) gNil))) (tt := cT X.K tt) (te := cE X.K te) hc hN hy hyl hsw hi ok hg ht he hs) ?_
  rintro D σ H ⟨σ', AH, AD, R, S, h, d⟩
  refine lc_imp (vs := [i, j]) (set := fun σ x => set2 σ i j x) trivial ?_ σ H _ ⟨σ', AH, _, R, S, h, fun v H1 x AH1 k1 R1 r1 q1 => d.nx _ _ _ _ k1 R1 ((S.kept k1.kept).set r1 n) q1⟩
  intro σ σH AH H x v σ2 Q S r e q R
  unfold set2 at e
  split at e
  · cases e
    obtain ⟨qq, vs, rfl, s, l, r⟩ := r
    obtain ⟨v, r', rfl, r1, w, r'', rfl, r2, e3⟩ := r
    cases e3
    exact ⟨qq, [v, w], rfl, s, rfl, v, [w], rfl, w, [], rfl, rfl, q _ ((((S.clr j).clr i).set r1 i).set r2 j) (wipe2 σH hij (some v) (some w))⟩
  · cases e
/-! ### forgetting -/
abbrev Sub (A B : AHp) : Prop := ∀ a o, A a = some o → B a = some o
theorem Sub.refl {A : AHp} : Sub A A := fun _ _ h => h
theorem Sub.trans {A B C : AHp} (h : Sub A B) (g : Sub B C) : Sub A C := fun a o e => g a o (h a o e)
theorem Sub.new {A : AHp} {q : Addr} {o : AO} (h : A q = none) : Sub A (aupd A q o) := fun a u e => by
  rw [aupd_ne (fun z => by rw [z, h] at e; cases e)]
  exact e
def Wk (Q : AVK) : AVK := fun v AH => ∃ AH', Sub AH' AH ∧ Q v AH'
def WkS (Q : ASt → AHp → Prop) : ASt → AHp → Prop := fun σ AH => ∃ AH', Sub AH' AH ∧ Q σ AH'
theorem Wk.refl {Q : AVK} {v : AV} {AH : AHp} (h : Q v AH) : Wk Q v AH := ⟨AH, Sub.refl, h⟩
theorem WkS.refl {Q : ASt → AHp → Prop} {σ : ASt} {AH : AHp} (h : Q σ AH) : WkS Q σ AH := ⟨AH, Sub.refl, h⟩
theorem Down.wk {K : PySem.W.Frag} {AH : AHp} {H : Hp} {Q : AVK} {QH : VK} (d : Down K AH H Q QH) : Down K AH H (Wk Q) QH := fun v H1 x AH1 k1 R1 r1 ⟨AH2, s, q⟩ => d v H1 x AH2 (k1.trans (Ext.weak s)) (R1.weak s) r1 q
theorem DownS.wk {K : PySem.W.Frag} {AH : AHp} {H : Hp} {Q : ASt → AHp → Prop} {QH : L2.St → Hp → Prop} (d : DownS K AH H Q QH) : DownS K AH H (WkS Q) QH := fun σH H1 σ1 AH1 k1 R1 S1 ⟨AH2, s, q⟩ => d σH H1 σ1 AH2 (k1.trans (Ext.weak s)) (R1.weak s) S1 q
def aFgE (t : ATE) : ATE := fun σ AH Q => t σ AH (Wk Q)
def aFg (t : ATS) : ATS := fun D σ AH => t { nx := WkS D.nx, rt := D.rt, bk := WkS D.bk, ct := WkS D.ct } σ AH
theorem ae_fg (h : AE X e te) : AE X e (aFgE te) := by
  refine PE.imp h ?_
  rintro σ H Q ⟨σ', AH, Q', R, S, h, d⟩
  exact ⟨σ', AH, _, R, S, h, d.wk⟩
theorem ass_fg (h : ASs X sts u) : ASs X sts (aFg u) := by
  refine PSs.imp h ?_
  rintro D σ H ⟨σ', AH, AD, R, S, h, d⟩
  exact ⟨σ', AH, _, R, S, h, ⟨DownS.wk d.nx, d.rt, DownS.wk d.bk, DownS.wk d.ct⟩⟩
/-! ### defs -/
def startA : List Str → List AV → ASt
  | N, [] => N.map fun _ => none
  | N, v :: vs => some v :: startA N.tail vs
theorem start_nil {K : PySem.W.Frag} {H : Hp} : ∀ (N : List Str), RepS K H (N.map fun _ => none) (L2.start N [])
  | [] => rfl
  | x :: N => ⟨none, L2.start N [], by simp [L2.start, List.replicate_succ], fun a z => (nomatch z), start_nil N⟩
theorem start_rep {K : PySem.W.Frag} {H : Hp} : ∀ {N : List Str} {xs : List AV} {vs : List V}, RepVs K H xs vs → RepS K H (startA N xs) (L2.start N vs)
  | N, [], _, h => by cases h; exact start_nil N
  | N, x :: xs, _, ⟨v, r, e, h1, h2⟩ => by
    subst e
    exact ⟨some v, L2.start N.tail r, by cases N <;> simp [L2.start], fun a z => by cases z; exact ⟨v, rfl, h1⟩, start_rep (N := N.tail) h2⟩
end
end Av
/-! Av7: built-in methods, in, isinstance, str, list, tuple. -/
namespace Av
open PySem PySem.Spec PyProof.Rows L2
section
variable {X : Cx} {pos p pos' apos cpos tpos : Pos} {a b c e e2 o tg : Expr} {es : List Expr} {ta tb tc te to : ATE} {t : ATA}
/-! ### list methods -/
abbrev ARM := Addr → List AV → AHp → AVK → Prop
def aLM (r : ARM) (to : ATE) (t : ATA) : ATE := fun σ AH Q => to σ AH fun x AH1 => match x with
  | .ref q => (∃ ys, AH1 q = some (.lst ys)) ∧ t σ AH1 fun xs AH2 => r q xs AH2 Q
  | _ => False
def RMOk (K : PySem.W.Frag) (r : ARM) (rH : V → List V → Hp → VK → Prop) : Prop := ∀ q xs vs AH H Q QH, Rel K AH H → RepVs K H xs vs → r q xs AH Q → Down K AH H Q QH → rH (.ref q) vs H QH
theorem ae_lm {id : String} {name : Str} {r : ARM} {rH : V → List V → Hp → VK → Prop} (slot : Slot "list" name id) (hty : typeOf (.builtin id) = pure (.type "method_descriptor")) (hm : MtR X id rH ∧ RMOk X.K r rH) (ho : AE X o to) (ha : AL X (e :: es) t)
    (hbase : attributeBase o name X.env (eval o X.env) = eval o X.env := by rfl)
    (hfew : ((backTo cpos (starEach (e :: es) X.env)).all (fun x => !x.1) && (backToKw cpos (keywordEach [] X.env)).all (fun x => x.1.isSome)
      && decide ((e :: es).length + ([] : List Keyword).length + (if ([] : List Keyword).isEmpty then 0 else 1) < 30)) = true := by rfl)
    (hline : (apos.endLine == cpos.line) = true := by rfl) (hs : starEach (e :: es) X.env = (false, eval e X.env) :: starEach es X.env := by rfl) (hplain : (backTo cpos (starEach es X.env)).any (·.1) = false := by rfl) :
    AE X (.Call (.Attribute o name apos) (e :: es) [] cpos) (aLM r to t) := by
  refine PE.imp (pe_bm PySem.F.plainAttrs_list slot hty hm.1 ho ha hbase hfew hline hs hplain) ?_
  rintro σ H Q ⟨σ', AH, Q', R, S, h, d⟩
  refine ⟨σ', AH, _, R, S, h, fun v H1 x AH1 k1 R1 r1 q1 => ?_⟩
  cases x with
  | ref q =>
    cases r1
    obtain ⟨⟨ys, hy⟩, q2⟩ := q1
    obtain ⟨vs, e1, _⟩ := R1 _ _ hy
    refine ⟨.inl ⟨rfl, vs, SqL.of e1⟩, σ', AH1, _, R1, S.kept k1.kept, q2, fun us H2 xs AH2 k2 R2 r2 l2 q3 => ?_⟩
    exact hm.2 q xs us AH2 H2 Q' Q R2 r2 q3 fun w H3 y AH3 k3 => d w H3 y AH3 ((k1.trans k2).trans k3)
  | _ => exact q1.elim
theorem ae_lm0 {id : String} {name : Str} {r : ARM} {rH : V → List V → Hp → VK → Prop} (slot : Slot "list" name id) (hty : typeOf (.builtin id) = pure (.type "method_descriptor")) (hm : MtR X id rH ∧ RMOk X.K r rH) (ho : AE X o to)
    (hbase : attributeBase o name X.env (eval o X.env) = eval o X.env := by rfl) (hline : (apos.endLine == cpos.line) = true := by rfl) :
    AE X (.Call (.Attribute o name apos) [] [] cpos) (aLM r to aNil) := by
  refine PE.imp (pe_bm0 PySem.F.plainAttrs_list slot hty hm.1 ho hbase hline) ?_
  rintro σ H Q ⟨σ', AH, Q', R, S, h, d⟩
  refine ⟨σ', AH, _, R, S, h, fun v H1 x AH1 k1 R1 r1 q1 => ?_⟩
  cases x with
  | ref q =>
    cases r1
    obtain ⟨⟨ys, hy⟩, q2⟩ := q1
    obtain ⟨vs, e1, _⟩ := R1 _ _ hy
    exact ⟨.inl ⟨rfl, vs, SqL.of e1⟩, hm.2 q [] [] AH1 H1 Q' Q R1 rfl q2 fun w H3 y AH3 k3 => d w H3 y AH3 (k1.trans k3)⟩
  | _ => exact q1.elim
def rAppendA : ARM := fun q xs AH Q => match xs with
  | [y] => ∃ ys, AH q = some (.lst ys) ∧ ys.length < sizeLine ∧ Q .non (aupd AH q (.lst (ys ++ [y])))
  | _ => False
theorem am_append : MtR X "list.append" rAppend ∧ RMOk X.K rAppendA rAppend := by
  refine ⟨mt_append, ?_⟩
  intro q xs vs AH H Q QH R r h d
  unfold rAppendA at h
  split at h
  · rename_i y
    obtain ⟨v, rfl, rv⟩ := one_rep r
    obtain ⟨ys, hy, hl, q1⟩ := h
    obtain ⟨ws, e1, l, rs⟩ := R _ _ hy
    have k : Ext AH H (aupd AH q (.lst (ys ++ [y]))) (upd H q (.lst (ws ++ [v]))) := Ext.write e1 trivial hy
    exact ⟨q, ws, v, rfl, rfl, e1, by rw [rs.length]; exact hl, d _ _ .non _ k (R.write e1 trivial ⟨_, upd_same, by simp; omega, ((rs.append (show RepVs X.K H [y] [v] from ⟨v, [], rfl, rv, rfl⟩)).kept k.kept)⟩) rfl q1⟩
  · exact h.elim
def rExtendA : ARM := fun q xs AH Q => match xs with
  | [.ref q2] => ∃ ys zs, AH q = some (.lst ys) ∧ AH q2 = some (.lst zs) ∧ ys.length + zs.length ≤ sizeLine ∧ Q .non (aupd AH q (.lst (ys ++ zs)))
  | _ => False
theorem am_extend : MtR X "list.extend" rExtend ∧ RMOk X.K rExtendA rExtend := by
  refine ⟨mt_extend, ?_⟩
  intro q xs vs AH H Q QH R r h d
  unfold rExtendA at h
  split at h
  · obtain ⟨v, rfl, rv⟩ := one_rep r
    cases rv
    obtain ⟨ys, zs, hy, hz, hl, q1⟩ := h
    obtain ⟨ws, e1, l, rs⟩ := R _ _ hy
    obtain ⟨us, e2, l2, rs2⟩ := R _ _ hz
    have k : Ext AH H (aupd AH q (.lst (ys ++ zs))) (upd H q (.lst (ws ++ us))) := Ext.write e1 trivial hy
    exact ⟨q, _, ws, us, rfl, rfl, e1, e2, by rw [rs.length, rs2.length]; exact hl, d _ _ .non _ k (R.write e1 trivial ⟨_, upd_same, by simpa using hl, (rs.append rs2).kept k.kept⟩) rfl q1⟩
  · exact h.elim
def rClearA : ARM := fun q xs AH Q => match xs with
  | [] => ∃ ys, AH q = some (.lst ys) ∧ Q .non (aupd AH q (.lst []))
  | _ => False
theorem am_clear : MtR X "list.clear" rClear ∧ RMOk X.K rClearA rClear := by
  refine ⟨mt_clear, ?_⟩
  intro q xs vs AH H Q QH R r h d
  unfold rClearA at h
  split at h
  · cases r
    obtain ⟨ys, hy, q1⟩ := h
    obtain ⟨ws, e1, l, rs⟩ := R _ _ hy
    have k : Ext AH H (aupd AH q (.lst [])) (upd H q (.lst [])) := Ext.write e1 trivial hy
    exact ⟨q, ws, rfl, rfl, e1, d _ _ .non _ k (R.write e1 trivial ⟨_, upd_same, Nat.zero_le _, rfl⟩) rfl q1⟩
  · exact h.elim
def rPopA : ARM := fun q xs AH Q => match xs with
  | [] => ∃ ys y, AH q = some (.lst ys) ∧ ys[ys.length - 1]? = some y ∧ Q y (aupd AH q (.lst ys.dropLast))
  | _ => False
theorem RepVs.dropLast {K : PySem.W.Frag} {H : Hp} {xs : List AV} {vs : List V} (r : RepVs K H xs vs) : RepVs K H xs.dropLast vs.dropLast := by
  rw [List.dropLast_eq_take, List.dropLast_eq_take, r.length]
  exact r.take _
theorem am_pop : MtR X "list.pop" rPop ∧ RMOk X.K rPopA rPop := by
  refine ⟨mt_pop, ?_⟩
  intro q xs vs AH H Q QH R r h d
  unfold rPopA at h
  split at h
  · cases r
    obtain ⟨ys, y, hy, hg, q1⟩ := h
    obtain ⟨ws, e1, l, rs⟩ := R _ _ hy
    obtain ⟨w, e2, rw⟩ := rs.get hg
    have k : Ext AH H (aupd AH q (.lst ys.dropLast)) (upd H q (.lst ws.dropLast)) := Ext.write e1 trivial hy
    exact ⟨q, ws, w, rfl, rfl, e1, by rw [rs.length]; exact e2, d _ _ y _ k (R.write e1 trivial ⟨_, upd_same, by simp; omega, rs.dropLast.kept k.kept⟩) (rw.kept k.kept) q1⟩
  · exact h.elim
/-! ### methods of texts -/
abbrev ARS := Str → List AV → AHp → AVK → Prop
def aSM (r : ARS) (to : ATE) (t : ATA) : ATE := fun σ AH Q => to σ AH fun x AH1 => match x with
  | .str s => t σ AH1 fun xs AH2 => r s xs AH2 Q
  | _ => False
def RSOk (K : PySem.W.Frag) (r : ARS) (rH : V → List V → Hp → VK → Prop) : Prop := ∀ s xs vs AH H Q QH, s.length ≤ sizeLine → Rel K AH H → RepVs K H xs vs → r s xs AH Q → Down K AH H Q QH → rH (.str s) vs H QH
theorem ae_sm {id : String} {name : Str} {r : ARS} {rH : V → List V → Hp → VK → Prop} (slot : Slot "str" name id) (hty : typeOf (.builtin id) = pure (.type "method_descriptor")) (hm : MtR X id rH ∧ RSOk X.K r rH) (ho : AE X o to) (ha : AL X (e :: es) t)
    (hbase : attributeBase o name X.env (eval o X.env) = eval o X.env := by rfl)
    (hfew : ((backTo cpos (starEach (e :: es) X.env)).all (fun x => !x.1) && (backToKw cpos (keywordEach [] X.env)).all (fun x => x.1.isSome)
      && decide ((e :: es).length + ([] : List Keyword).length + (if ([] : List Keyword).isEmpty then 0 else 1) < 30)) = true := by rfl)
    (hline : (apos.endLine == cpos.line) = true := by rfl) (hs : starEach (e :: es) X.env = (false, eval e X.env) :: starEach es X.env := by rfl) (hplain : (backTo cpos (starEach es X.env)).any (·.1) = false := by rfl) :
    AE X (.Call (.Attribute o name apos) (e :: es) [] cpos) (aSM r to t) := by
  refine PE.imp (pe_bm PySem.F.plainAttrs_str slot hty hm.1 ho ha hbase hfew hline hs hplain) ?_
  rintro σ H Q ⟨σ', AH, Q', R, S, h, d⟩
  refine ⟨σ', AH, _, R, S, h, fun v H1 x AH1 k1 R1 r1 q1 => ?_⟩
  cases x with
  | str s =>
    obtain ⟨rfl, l⟩ := r1
    refine ⟨rfl, σ', AH1, _, R1, S.kept k1.kept, q1, fun us H2 xs AH2 k2 R2 r2 l2 q3 => ?_⟩
    exact hm.2 s xs us AH2 H2 Q' Q l R2 r2 q3 fun w H3 y AH3 k3 => d w H3 y AH3 ((k1.trans k2).trans k3)
  | _ => exact q1.elim
def strsA (ys : List Str) : List AV := ys.map .str
theorem RepVs.strs {K : PySem.W.Frag} {H : Hp} : ∀ {ys : List Str}, (∀ y ∈ ys, y.length ≤ sizeLine) → RepVs K H (strsA ys) (ys.map V.str)
  | [], _ => rfl
  | y :: ys, h => ⟨_, _, rfl, ⟨rfl, h y List.mem_cons_self⟩, RepVs.strs fun z hz => h z (List.mem_cons_of_mem _ hz)⟩
theorem RepVs.ofStrs {K : PySem.W.Frag} {H : Hp} : ∀ {ys : List Str} {vs : List V}, RepVs K H (strsA ys) vs → vs = ys.map V.str
  | [], _, h => by cases h; rfl
  | y :: ys, _, ⟨v, r, e, h1, h2⟩ => by subst e; obtain ⟨rfl, _⟩ := h1; rw [RepVs.ofStrs h2]; rfl
theorem spl_small (S : List Nat) : ∀ (l acc : List Nat) (k : Nat), (∀ y ∈ TL.spl S k acc l, y.length ≤ acc.length + l.length) ∧ (TL.spl S k acc l).length ≤ l.length + 1
  | [], acc, k => by
    rw [TL.spl_nil]
    simp
  | c :: r, acc, 0 => by
    unfold TL.spl
    split
    · obtain ⟨h1, h2⟩ := spl_small S r [] (S.length - 1)
      refine ⟨fun y hy => ?_, by simp; omega⟩
      rcases List.mem_cons.mp hy with rfl | hy
      · omega
      · have := h1 y hy
        simp at this ⊢
        omega
    · obtain ⟨h1, h2⟩ := spl_small S r (acc ++ [c]) 0
      refine ⟨fun y hy => ?_, by simp; omega⟩
      have := h1 y hy
      simp at this ⊢
      omega
  | c :: r, acc, k + 1 => by
    unfold TL.spl
    obtain ⟨h1, h2⟩ := spl_small S r acc k
    refine ⟨fun y hy => ?_, by simp; omega⟩
    have := h1 y hy
    simp
    omega
theorem split_small {x y : Str} (hy : (y.length == 0) = false) (hk : y.cps.all (· < 256) = true) : (Txt.split x y).length ≤ x.length + 1 ∧ ∀ z ∈ Txt.split x y, z.length ≤ x.length := by
  have hne : TL.tl y ≠ [] := fun h => by
    have : y.length = 0 := by rw [TL.len_tl, h]; rfl
    rw [this] at hy
    cases hy
  have e := TL.split_spl x y hne (TL.kind_ok hk)
  obtain ⟨h1, h2⟩ := spl_small (TL.tl y) (TL.tl x) [] 0
  rw [← e] at h1 h2
  refine ⟨by rw [List.length_map] at h2; rw [TL.len_tl]; exact h2, fun z hz => ?_⟩
  have := h1 (TL.tl z) (List.mem_map.mpr ⟨z, hz, rfl⟩)
  rw [TL.len_tl, TL.len_tl x]
  simpa using this
def rSplitA : ARS := fun s xs AH Q => match xs with
  | [.str b] => (b.length == 0) = false ∧ b.cps.all (· < 256) = true ∧ s.length + 2 ≤ sizeLine ∧ ∀ q, AH q = none → Q (.ref q) (aupd AH q (.lst (strsA (Txt.split s b))))
  | _ => False
theorem am_split : MtR X "str.split" (fun x xs H Q => ∃ a b, x = .str a ∧ xs = [.str b] ∧ (b.length == 0) = false ∧ a.length + 2 ≤ sizeLine ∧ rNewStrs (Txt.split a b) H Q) ∧ RSOk X.K rSplitA (fun x xs H Q => ∃ a b, x = .str a ∧ xs = [.str b] ∧ (b.length == 0) = false ∧ a.length + 2 ≤ sizeLine ∧ rNewStrs (Txt.split a b) H Q) := by
  refine ⟨mt_split, ?_⟩
  intro s xs vs AH H Q QH ls R r h d
  unfold rSplitA at h
  split at h
  · obtain ⟨v, rfl, rfl, l⟩ := one_rep r
    obtain ⟨h1, hk, h2, q⟩ := h
    obtain ⟨h3, h4⟩ := split_small (x := s) h1 hk
    refine ⟨s, _, rfl, rfl, h1, h2, fun q' hq => ?_⟩
    exact d _ _ (.ref q') _ (Ext.add hq) (R.add (u := .lst (strsA _)) hq ⟨_, upd_same, by unfold strsA; rw [List.length_map]; omega, RepVs.strs fun y hy => Nat.le_trans (h4 y hy) ls⟩) rfl (q q' (R.free hq))
  · exact h.elim
def rJoinA : ARS := fun s xs AH Q => match xs with
  | [.ref q] => ∃ ys, AH q = some (.lst (strsA ys)) ∧ (ys.map (·.length)).sum + ys.length * s.length ≤ 16777216 ∧ (Txt.join s ys).length ≤ sizeLine ∧ Q (.str (Txt.join s ys)) AH
  | _ => False
theorem am_join : MtR X "str.join" (fun x xs H Q => ∃ a p, ∃ ys : List Str, x = .str a ∧ xs = [.ref p] ∧ (SqL X.K H p (ys.map V.str) ∨ SqT X.K H p (ys.map V.str)) ∧ (ys.map (·.length)).sum + ys.length * a.length ≤ 16777216 ∧ Q (.str (Txt.join a ys)) H) ∧
    RSOk X.K rJoinA (fun x xs H Q => ∃ a p, ∃ ys : List Str, x = .str a ∧ xs = [.ref p] ∧ (SqL X.K H p (ys.map V.str) ∨ SqT X.K H p (ys.map V.str)) ∧ (ys.map (·.length)).sum + ys.length * a.length ≤ 16777216 ∧ Q (.str (Txt.join a ys)) H) := by
  refine ⟨mt_join, ?_⟩
  intro s xs vs AH H Q QH ls R r h d
  unfold rJoinA at h
  split at h
  · obtain ⟨v, rfl, hv⟩ := one_rep r
    cases hv
    obtain ⟨ys, hy, h1, h2, q⟩ := h
    obtain ⟨ws, e1, l, rs⟩ := R _ _ hy
    have := rs.ofStrs
    subst this
    exact ⟨s, _, ys, rfl, rfl, .inl (SqL.of e1), h1, d.at_ (.str _) R ⟨rfl, h2⟩ q⟩
  · exact h.elim
/-! ### list(x), tuple(x), str(x) -/
def rListA : AR := fun xs AH Q => match xs with
  | [.tup ys] => ∀ q, AH q = none → Q (.ref q) (aupd AH q (.lst ys))
  | [.ref p] => ∃ ys, LstAt AH p ys ∧ ∀ q, AH q = none → Q (.ref q) (aupd AH q (.lst ys))
  | _ => False
theorem ac_list : CallR X (.type "list") (fun xs H Q => ∃ p ys, xs = [.ref p] ∧ (SqL X.K H p ys ∨ SqT X.K H p ys) ∧ ∀ l, H l = none → Q (.ref l) (upd H l (.lst ys))) ∧ ROk X.K rListA (fun xs H Q => ∃ p ys, xs = [.ref p] ∧ (SqL X.K H p ys ∨ SqT X.K H p ys) ∧ ∀ l, H l = none → Q (.ref l) (upd H l (.lst ys))) := by
  refine ⟨call_list_of, ?_⟩
  intro xs vs AH H Q QH R r h d
  unfold rListA at h
  split at h
  · rename_i ys
    obtain ⟨v, rfl, q, vs, rfl, s, l, rs⟩ := one_rep r
    refine ⟨q, vs, rfl, .inr s, fun w hw => ?_⟩
    have k : Ext AH H (aupd AH w (.lst ys)) (upd H w (.lst vs)) := Ext.add hw
    exact d _ _ (.ref w) _ k (R.add hw ⟨_, upd_same, l, rs.kept k.kept⟩) rfl (h w (R.free hw))
  · obtain ⟨v, rfl, hv⟩ := one_rep r
    cases hv
    obtain ⟨ys, hl, q⟩ := h
    obtain ⟨vs, s, l, rs⟩ := hl.rep R
    refine ⟨_, vs, rfl, .inl s, fun w hw => ?_⟩
    have k : Ext AH H (aupd AH w (.lst ys)) (upd H w (.lst vs)) := Ext.add hw
    exact d _ _ (.ref w) _ k (R.add hw ⟨_, upd_same, l, rs.kept k.kept⟩) rfl (q w (R.free hw))
  · exact h.elim
def rTupleA : AR := fun xs AH Q => match xs with
  | [.tup ys] => Q (.tup ys) AH
  | [.ref p] => ∃ ys, LstAt AH p ys ∧ Q (.tup ys) AH
  | _ => False
theorem ac_tuple : CallR X (.type "tuple") (fun xs H Q => ∃ p ys, xs = [.ref p] ∧ ((SqL X.K H p ys ∧ ∀ l, H l = none → Q (.ref l) (upd H l (.tup ys))) ∨ (SqT X.K H p ys ∧ Q (.ref p) H))) ∧ ROk X.K rTupleA (fun xs H Q => ∃ p ys, xs = [.ref p] ∧ ((SqL X.K H p ys ∧ ∀ l, H l = none → Q (.ref l) (upd H l (.tup ys))) ∨ (SqT X.K H p ys ∧ Q (.ref p) H))) := by
  refine ⟨call_tuple_of, ?_⟩
  intro xs vs AH H Q QH R r h d
  unfold rTupleA at h
  split at h
  · obtain ⟨v, rfl, q, vs, rfl, s, l, rs⟩ := one_rep r
    exact ⟨q, vs, rfl, .inr ⟨s, d.at_ (.tup _) R ⟨q, vs, rfl, s, l, rs⟩ h⟩⟩
  · obtain ⟨v, rfl, hv⟩ := one_rep r
    cases hv
    obtain ⟨ys, hl, q⟩ := h
    obtain ⟨vs, s, l, rs⟩ := hl.rep R
    refine ⟨_, vs, rfl, .inl ⟨s, fun w hw => ?_⟩⟩
    have k : Ext AH H AH (upd H w (.tup vs)) := Ext.new hw
    exact d _ _ (.tup ys) _ k (R.new hw) ⟨w, vs, rfl, .inl (.inl upd_same), l, rs.kept k.kept⟩ q
  · exact h.elim
def rStrA : AR := fun xs AH Q => match xs with
  | [.int i] => i.natAbs.log2 < 1920 ∧ (toString i : Str).length ≤ sizeLine ∧ Q (.str (toString i)) AH
  | [.str s] => Q (.str s) AH
  | _ => False
theorem ac_str : CallR X (.type "str") (fun xs H Q => (∃ i, xs = [.int i] ∧ i.natAbs.log2 < 1920 ∧ Q (.str (toString i)) H) ∨ (∃ a, xs = [.str a] ∧ Q (.str a) H)) ∧ ROk X.K rStrA (fun xs H Q => (∃ i, xs = [.int i] ∧ i.natAbs.log2 < 1920 ∧ Q (.str (toString i)) H) ∨ (∃ a, xs = [.str a] ∧ Q (.str a) H)) := by
  refine ⟨callR_or call_str_int SkE.call_str_str, ?_⟩
  intro xs vs AH H Q QH R r h d
  unfold rStrA at h
  split at h
  · obtain ⟨v, rfl, hv⟩ := one_rep r
    cases hv
    exact .inl ⟨_, rfl, h.1, d.at_ (.str _) R ⟨rfl, h.2.1⟩ h.2.2⟩
  · obtain ⟨v, rfl, rfl, l⟩ := one_rep r
    exact .inr ⟨_, rfl, d.at_ (.str _) R ⟨rfl, l⟩ h⟩
  · exact h.elim
/-! ### isinstance with one built-in class -/
def tyName (AH : AHp) : AV → String → Prop
  | .non, n => n = "NoneType"
  | .bl _, n => n = "bool"
  | .int _, n => n = "int"
  | .str _, n => n = "str"
  | .tup _, n => n = "tuple"
  | .ref q, n => (∃ xs, LstAt AH q xs) ∧ n = "list"
  | .ty _, _ => False
def rIsiA : AR := fun xs AH Q => match xs with
  | [x, .ty n] => ∃ m b, tyName AH x m ∧ kitB m n = some b ∧ Q (.bl b) AH
  | _ => False
theorem tyName_ok {K : PySem.W.Frag} {AH : AHp} {H : Hp} (R : Rel K AH H) {x : AV} {v : V} {m : String} (r : RepV K H x v) (h : tyName AH x m) : TyX K H v (.type m) := by
  cases x with
  | non => cases r; cases h; exact .base .non
  | bl b => cases r; cases h; exact .base (.bl b)
  | int i => cases r; cases h; exact .base (.int i)
  | str s => obtain ⟨rfl, _⟩ := r; cases h; exact .base (.str s)
  | tup xs =>
    obtain ⟨q, vs, rfl, s, _⟩ := r
    cases h
    rcases s with (s | ⟨o, s⟩) | ⟨o, its, n, s, c, _⟩
    · exact .base (.tup s)
    · exact .fTuple s
    · exact .kTuple s c
  | ref q =>
    cases r
    obtain ⟨⟨xs, hl⟩, rfl⟩ := h
    rcases hl with hl | hl
    · obtain ⟨vs, e, _⟩ := R _ _ hl
      exact .base (.lst e)
    · obtain ⟨o, vs, e, _⟩ := R _ _ hl
      exact .base (.frz e)
  | ty n => exact h.elim
theorem ac_isi : CallR X (.builtin "isinstance") (rIsi X.K) ∧ ROk X.K rIsiA (rIsi X.K) := by
  refine ⟨call_isi, ?_⟩
  intro xs vs AH H Q QH R r h d
  unfold rIsiA at h
  split at h
  · obtain ⟨v, w, rfl, hv, hw⟩ := two_rep r
    cases hw
    obtain ⟨m, b, ht, hk, q⟩ := h
    exact ⟨v, _, _, _, b, rfl, .ty _, tyName_ok R hv ht, kit_ty hk, d.at_ (.bl b) R rfl q⟩
  · exact h.elim
/-- the name of a built-in class, as a value -/
theorem ae_ty {x : Str} {n : String} (hm : X.mg x = none) (hv : bootBuiltins x = some (.type n) := by decide +kernel) (hg : Gl X x := by rfl) (hn : x ≠ "__name__" := by decide) (hd : (x == ("__debug__" : Str)) = false := by decide) : AE X (.Name x pos) (aC (.ty n)) :=
  ac_of (pe_bltn (v := .ty n) hg hm hv rfl hn hd) fun _ => rfl
/-! ### in, not in -/
def flatA : AV → Bool
  | .non | .bl _ | .int _ | .str _ => true
  | _ => false
def eqF : AV → AV → Bool
  | .non, .non => true
  | .bl a, .bl b => a == b
  | .bl a, .int b => (if a then 1 else 0) == b
  | .int a, .bl b => a == (if b then 1 else 0)
  | .int a, .int b => a == b
  | .str a, .str b => a == b
  | _, _ => false
theorem flat_rep {K : PySem.W.Frag} {H : Hp} {x : AV} {v : V} (r : RepV K H x v) (h : flatA x = true) : flatV v = true := by
  cases x with
  | non => cases r; rfl
  | bl b => cases r; rfl
  | int i => cases r; rfl
  | str s => obtain ⟨rfl, _⟩ := r; rfl
  | _ => cases h
theorem eqF_rep {K : PySem.W.Frag} {H : Hp} {x y : AV} {v w : V} (r : RepV K H x v) (r' : RepV K H y w) (h : flatA x = true) (h' : flatA y = true) : eqV v w = eqF x y := by
  cases x <;> cases h <;> cases y <;> cases h' <;> first
    | (cases r; cases r'; rfl)
    | (obtain ⟨rfl, _⟩ := r; obtain ⟨rfl, _⟩ := r'; rfl)
    | (obtain ⟨rfl, _⟩ := r; cases r'; rfl)
    | (cases r; obtain ⟨rfl, _⟩ := r'; rfl)
theorem inF_rep {K : PySem.W.Frag} {H : Hp} {x : AV} {v : V} (r : RepV K H x v) (h : flatA x = true) : ∀ {ys : List AV} {ws : List V}, RepVs K H ys ws → ys.all flatA = true → ws.all flatV = true ∧ inV v ws = ys.any fun y => eqF y x
  | [], _, e, _ => by cases e; exact ⟨rfl, rfl⟩
  | y :: ys, _, ⟨w, ws, e, h1, h2⟩, hf => by
    subst e
    obtain ⟨f1, f2⟩ := Bool.and_eq_true_iff.mp (show (flatA y && ys.all flatA) = true from hf)
    obtain ⟨g1, g2⟩ := inF_rep r h h2 f2
    refine ⟨by rw [List.all_cons, flat_rep h1 f1, g1]; rfl, ?_⟩
    show (eqV w v || inV v ws) = (eqF y x || _)
    rw [eqF_rep h1 r f1 h, g2]
/-- the data of a list -/
def okPys (ys : List AV) : Bool := match toPys ys with | some ds => SeqAt.shaped (.list ds) | none => false
def rInA : AR2 := fun x y AH Q => match y with
  | .tup ys => flatA x = true ∧ ys.all flatA = true ∧ Q (.bl (ys.any fun y => eqF y x)) AH
  | .str z => (match x with | .str s => ∃ c, s = ⟨#[c]⟩ ∧ Q (.bl (decide (c ∈ z.cps.toList))) AH | _ => False)
  | .ref q => ∃ ys, LstAt AH q ys ∧ ((flatA x = true ∧ ys.all flatA = true ∧ Q (.bl (ys.any fun y => eqF y x)) AH) ∨ (okPy x = true ∧ okPys ys = true ∧ Q (.bl (ys.any fun y => aeqv y x)) AH))
  | _ => False
def rNotInA : AR2 := fun x y AH Q => rInA x y AH fun v AH' => match v with | .bl b => Q (.bl (!b)) AH' | _ => False
abbrev rInH (K : PySem.W.Frag) : R2 := fun x y H Q => rIn K false x y H Q ∨ (rInD K x y H Q ∨ ∃ (c : Nat) (z : Str), x = .str ⟨#[c]⟩ ∧ y = .str z ∧ Q (.bl (decide (c ∈ z.cps.toList))) H)
abbrev rNotInH (K : PySem.W.Frag) : R2 := fun x y H Q => rIn K true x y H Q ∨ (rNotInD K x y H Q ∨ ∃ (c : Nat) (z : Str), x = .str ⟨#[c]⟩ ∧ y = .str z ∧ Q (.bl (!decide (c ∈ z.cps.toList))) H)
theorem any_eqv {d : PyData} {x : AV} (hx : toPy x = some d) : ∀ {ys : List AV} {ds : List PyData}, toPys ys = some ds → (ys.any fun y => aeqv y x) = ds.any fun z => PyData.eqv z d
  | [], _, h => by cases h; rfl
  | y :: ys, ds, h => by
    simp only [toPys] at h
    split at h
    · rename_i e ds' e1 e2
      cases h
      rw [List.any_cons, List.any_cons, any_eqv hx e2, aeqv_of e1 hx]
    · cases h
theorem in_down {K : PySem.W.Frag} : R2Ok K rInA (rInH K) := by
  intro x y v u AH H Q QH R rx ry h d
  unfold rInA at h
  split at h
  · obtain ⟨q, vs, rfl, s, l, rs⟩ := ry
    obtain ⟨h1, h2, h3⟩ := h
    obtain ⟨g1, g2⟩ := inF_rep rx h1 rs h2
    refine .inl ⟨q, vs, rfl, .inr s, flat_rep rx h1, g1, ?_⟩
    show QH (.bl (inV v vs)) H
    rw [g2]
    exact d.at_ (.bl _) R rfl h3
  · split at h
    · obtain ⟨rfl, _⟩ := rx
      obtain ⟨rfl, _⟩ := ry
      obtain ⟨c, rfl, h⟩ := h
      exact .inr (.inr ⟨c, _, rfl, rfl, d.at_ (.bl _) R rfl h⟩)
    · exact h.elim
  · cases ry
    obtain ⟨ys, hl, h⟩ := h
    obtain ⟨vs, s, l, rs⟩ := hl.rep R
    rcases h with ⟨h1, h2, h3⟩ | ⟨h1, h2, h3⟩
    · obtain ⟨g1, g2⟩ := inF_rep rx h1 rs h2
      refine .inl ⟨_, vs, rfl, .inl s, flat_rep rx h1, g1, ?_⟩
      show QH (.bl (inV v vs)) H
      rw [g2]
      exact d.at_ (.bl _) R rfl h3
    · obtain ⟨dx, e1, s1⟩ := okPy_of h1
      unfold okPys at h2
      split at h2
      · rename_i ds e2
        obtain ⟨hl2, hh⟩ := pyAts_of (AH := AH) e2
        refine .inr (.inl ⟨dx, ds, (pyAt_of e1).dp R rx, (PyAt.lst hl hl2 hh).dp R rfl, s1, h2, ?_⟩)
        rw [← any_eqv e1 e2]
        exact d.at_ (.bl _) R rfl h3
      · cases h2
  · exact h.elim
theorem ao_in (hu : X.A.units + 65 < cLine) : OpR X (compareOp .In) (rInH X.K) ∧ R2Ok X.K rInA (rInH X.K) := ⟨opr_or op_in_seq (opr_or (op_inD hu) op_in_sign), in_down⟩
theorem ao_notIn (hu : X.A.units + 65 < cLine) : OpR X (compareOp .NotIn) (rNotInH X.K) ∧ R2Ok X.K rNotInA (rNotInH X.K) := by
  refine ⟨opr_or op_notIn_seq (opr_or (op_notInD hu) op_notIn_sign), ?_⟩
  intro x y v u AH H Q QH R rx ry h d
  have h2 := in_down (K := X.K) x y v u AH H _ (fun w H' => ∀ b, w = .bl b → QH (.bl (!b)) H') R rx ry h fun w H' z AH' k R' r q => by
    intro b eb
    subst eb
    cases z with
    | bl c => cases r; exact d _ _ (.bl _) _ k R' rfl q
    | tup xs => obtain ⟨_, _, e, _⟩ := r; cases e
    | str s => obtain ⟨e, _⟩ := r; cases e
    | _ => cases r
  rcases h2 with ⟨q, xs, e, s, f1, f2, q'⟩ | ⟨dx, ds, a, b, c, e, q⟩ | ⟨c, z, e1, e2, q⟩
  · exact .inl ⟨q, xs, e, s, f1, f2, q' _ rfl⟩
  · exact .inr (.inl ⟨dx, ds, a, b, c, e, q _ rfl⟩)
  · exact .inr (.inr ⟨c, z, e1, e2, q _ rfl⟩)
end
end Av
/-! Av8: the top's facts, defs from them. -/
namespace Av
open PySem PySem.Spec PyProof.Rows L2
theorem hu64 {k : Nat} {A : Around} (hr : Room k A) : A.units + 64 < cLine := by have := hr.un; omega
theorem hu65 {k : Nat} {A : Around} (hr : Room k A) : A.units + 65 < cLine := by have := hr.un; omega
/-- a def of the text as the top has left it -/
structure DefAt (K : PySem.W.Frag) (at_ : Str × Option Str) (x qual : Str) (st : Stmt) : Prop where
  ex : ∃ fd, FunD K x qual (defArgs st) (defBody st) (defScope st) [] [] (He.fAd K at_) fd
/-- a class of the text -/
structure ClsAt (K : PySem.W.Frag) (mg : Str → Option Value) (x : Str) : Prop where
  mg : mg x = some (.ref (He.ga K x))
  cl : Cls K (He.ga K x)
/-- a constant of the top -/
def ConAt (K : PySem.W.Frag) (mg : Str → Option Value) (x : Str) (a : AV) : Prop := ∃ u v, mg x = some u ∧ RelV v u ∧ ∀ H, RepV K H a v
theorem ae_con {X : Cx} {x : Str} {a : AV} {pos : Pos} (h : ConAt X.K X.mg x a) (hg : Gl X x := by rfl) (hd : (x == ("__debug__" : Str)) = false := by decide) : AE X (.Name x pos) (aC a) := by
  obtain ⟨u, v, h1, h2, h3⟩ := h
  exact ae_glob h1 h2 h3 hg hd
/-- THE RULE for a def that raises nothing, the function object told -/
theorem fn_ok {P : Program} {w : World} {K : PySem.W.Frag} {mg : Str → Option Value} {base : Heap} {f : Addr} {fd : FuncData} {x qual : Str} {st : Stmt} {N ps : List Str} {k : Nat} {sp : ASp} (F : FunD K x qual (defArgs st) (defBody st) (defScope st) [] [] f fd) (S : FnScope N ps (defScope st))
    (len : ∀ xs AH Q E, sp xs AH Q E → xs.length = ps.length)
    (hbody : ∀ (cdv : Value) (A : Around) (outer : List Env) (s : Shared) (H : Hp) (E : XK), Room k (A.deeper (envOfC qual (defScope st) s.heap.objs.size f cdv)) →
      ∃ t, ASs (cxOf CX0 P w K mg base N qual (defScope st) f cdv A outer s H E).nox (defBody st) t ∧ ∀ xs AH Q EA, sp xs AH Q EA → t { nx := fun _ AH' => Wk Q .non AH', rt := Wk Q } (startA N xs) AH) : FnOk P w K mg base CX0 (k + 1) f fd ps (lift K sp) := by
  refine F.ok S (fun vs H Q E h => ?_) (fun cdv A outer s H vs Q E hr h => ?_)
  · obtain ⟨xs, AH, Q', E', R, r, h, _⟩ := h
    rw [r.length]
    exact len _ _ _ _ h
  · obtain ⟨t, ht, hq⟩ := hbody cdv A outer s H E hr
    obtain ⟨xs, AH, Q', E', R, r, h, d, _⟩ := h
    refine ⟨_, PSs.nox ht, startA N xs, AH, _, R, start_rep r, hq xs AH Q' E' h, ⟨fun σH H1 σ1 AH1 k1 R1 S1 q1 => Down.wk d _ _ .non _ k1 R1 rfl q1, Down.wk d, fun _ _ _ _ _ _ _ q => q, fun _ _ _ _ _ _ _ q => q⟩⟩
/-- THE RULE for a def that raises nothing -/
theorem DefAt.ok {P : Program} {w : World} {K : PySem.W.Frag} {mg : Str → Option Value} {base : Heap} {at_ : Str × Option Str} {x qual : Str} {st : Stmt} {N ps : List Str} {k : Nat} {sp : ASp} (D : DefAt K at_ x qual st) (S : FnScope N ps (defScope st))
    (bd : ∀ (kV doc pm : Value) (an : Option Addr) (cdv ct : Value) (us : List Value), us.length = ps.length → bindArgs (PySem.W.fnOf x qual (defArgs st) (defBody st) (defScope st) .none kV doc pm an cdv ct) ⟨us, []⟩ = pure (ps.zip us))
    (len : ∀ xs AH Q E, sp xs AH Q E → xs.length = ps.length)
    (hbody : ∀ (cdv : Value) (A : Around) (outer : List Env) (s : Shared) (H : Hp) (E : XK), Room k (A.deeper (envOfC qual (defScope st) s.heap.objs.size (He.fAd K at_) cdv)) →
      ∃ t, ASs (cxOf CX0 P w K mg base N qual (defScope st) (He.fAd K at_) cdv A outer s H E).nox (defBody st) t ∧ ∀ xs AH Q EA, sp xs AH Q EA → t { nx := fun _ AH' => Wk Q .non AH', rt := Wk Q } (startA N xs) AH) : DefOk P w K mg base CX0 (k + 1) (He.fAd K at_) ps sp := by
  obtain ⟨fd, F⟩ := D.ex
  exact ⟨⟨fd, fn_ok F S len hbody, F.bindsN bd⟩, F.kp⟩
/-- the law's def, of every heap -/
theorem DefAt.binds {K : PySem.W.Frag} {at_ : Str × Option Str} {x qual : Str} {st : Stmt} (D : DefAt K at_ x qual st) : ∃ fd, FunD K x qual (defArgs st) (defBody st) (defScope st) [] [] (He.fAd K at_) fd := D.ex
end Av
/-! Av9: loops by their invariants. -/
namespace Av
open PySem PySem.Spec PyProof.Rows L2
/-- a for over data: I by what is left -/
theorem loop_map {α : Type} {stays : AHp → Prop} {g : ATG} {tb : ATS} {D : AEnds} (f : α → AV) (I : List α → ASt → AHp → Prop)
    (hn : ∀ σ AH, I [] σ AH → stays AH ∧ D.nx σ AH)
    (hc : ∀ (N B : ASt → AHp → Prop) (Rt : AVK), (∀ σ AH, D.nx σ AH → B σ AH) → (∀ v AH, D.rt v AH → Rt v AH) → ∀ a l, (∀ σ AH, I l σ AH → N σ AH) → ∀ σ AH, I (a :: l) σ AH → stays AH ∧ g (f a) σ AH fun σ2 AH2 => tb { nx := N, rt := Rt, bk := B, ct := N } σ2 AH2) :
    ∀ (l : List α) (σ : ASt) (AH : AHp), I l σ AH → loopP stays g tb D (l.map f) σ AH
  | [], σ, AH, h => hn σ AH h
  | a :: l, σ, AH, h => hc (loopP stays g tb D (l.map f)) D.nx D.rt (fun _ _ h => h) (fun _ _ h => h) a l (loop_map f I hn hc l) σ AH h
/-- .. told forwards: I by what is done and what is left -/
theorem loop_fw {α : Type} {stays : AHp → Prop} {g : ATG} {tb : ATS} {D : AEnds} (f : α → AV) (all : List α) (I : List α → ASt → AHp → Prop)
    (hn : ∀ σ AH, I all σ AH → stays AH ∧ D.nx σ AH)
    (hc : ∀ (N B : ASt → AHp → Prop) (Rt : AVK), (∀ σ AH, D.nx σ AH → B σ AH) → (∀ v AH, D.rt v AH → Rt v AH) → ∀ pre a l, all = pre ++ a :: l → (∀ σ AH, I (pre ++ [a]) σ AH → N σ AH) → ∀ σ AH, I pre σ AH → stays AH ∧ g (f a) σ AH fun σ2 AH2 => tb { nx := N, rt := Rt, bk := B, ct := N } σ2 AH2)
    (σ : ASt) (AH : AHp) (h : I [] σ AH) : loopP stays g tb D (all.map f) σ AH := by
  have key : ∀ (l pre : List α) (σ : ASt) (AH : AHp), all = pre ++ l → I pre σ AH → loopP stays g tb D (l.map f) σ AH := by
    intro l
    induction l with
    | nil =>
      intro pre σ AH e h
      rw [List.append_nil] at e
      subst e
      exact hn σ AH h
    | cons a l ih =>
      intro pre σ AH e h
      exact hc (loopP stays g tb D (l.map f)) D.nx D.rt (fun _ _ h => h) (fun _ _ h => h) pre a l e (fun σ AH h => ih (pre ++ [a]) σ AH (by rw [e, List.append_assoc]; rfl) h) σ AH h
  exact key all [] σ AH rfl h
theorem rangeItems_eq (lo : Int) (n : Nat) : rangeItems lo n = (List.range n).map fun i => AV.int (lo + (i : Nat)) := rfl
theorem enumItems_eq (xs : List AV) : enumItems 0 xs = (xs.zipIdx).map fun p => AV.tup [.int ((p.2 : Nat) : Int), p.1] := by
  have key : ∀ (xs : List AV) (i : Nat), enumItems i xs = (xs.zipIdx i).map fun p => AV.tup [.int ((p.2 : Nat) : Int), p.1] := by
    intro xs
    induction xs with
    | nil => intro i; rfl
    | cons x xs ih => intro i; simp [enumItems, List.zipIdx_cons, ih (i + 1)]
  exact key xs 0
theorem enumItems_map {α : Type} (f : α → AV) (l : List α) : enumItems 0 (l.map f) = l.zipIdx.map fun p => AV.tup [.int ((p.2 : Nat) : Int), f p.1] := by
  rw [enumItems_eq, List.zipIdx_map, List.map_map]
  rfl
/-- a comprehension whose element is a function of the item, the heap as it was -/
theorem comp_map {α : Type} {stays : AHp → Prop} {set : AV → Option ASt} {te : ATE} {Q : List AV → AHp → Prop} (f : α → AV) (g : α → AV) {AH : AHp} (hs : stays AH) :
    ∀ (l : List α) (acc : List AV), (∀ a ∈ l, ∃ σ2, set (f a) = some σ2 ∧ ∀ (R : AVK), R (g a) AH → te σ2 AH R) → Q (acc ++ l.map g) AH → compP stays set aYes te Q (l.map f) acc AH
  | [], acc, _, hq => ⟨hs, by simpa using hq⟩
  | a :: l, acc, h, hq => by
    obtain ⟨σ2, e, ht⟩ := h a List.mem_cons_self
    refine ⟨hs, ?_⟩
    rw [e]
    exact ht _ (comp_map f g hs l (acc ++ [g a]) (fun b hb => h b (List.mem_cons_of_mem _ hb)) (by simpa using hq))
/-- .. with a test -/
theorem comp_filter {α : Type} {stays : AHp → Prop} {set : AV → Option ASt} {tt : ATT} {te : ATE} {Q : List AV → AHp → Prop} (f : α → AV) (g : α → AV) (p : α → Bool) {AH : AHp} (hs : stays AH) :
    ∀ (l : List α) (acc : List AV), (∀ a ∈ l, ∃ σ2, set (f a) = some σ2 ∧ (∀ (R : Bool → AHp → Prop), R (p a) AH → tt σ2 AH R) ∧ (p a = true → ∀ (R : AVK), R (g a) AH → te σ2 AH R)) → Q (acc ++ (l.filter p).map g) AH → compP stays set tt te Q (l.map f) acc AH
  | [], acc, _, hq => ⟨hs, by simpa using hq⟩
  | a :: l, acc, h, hq => by
    obtain ⟨σ2, e, h1, h2⟩ := h a List.mem_cons_self
    refine ⟨hs, ?_⟩
    rw [e]
    refine h1 _ ?_
    cases hp : p a with
    | true => exact h2 hp _ (comp_filter f g p hs l (acc ++ [g a]) (fun b hb => h b (List.mem_cons_of_mem _ hb)) (by simpa [List.filter_cons, hp] using hq))
    | false => exact comp_filter f g p hs l acc (fun b hb => h b (List.mem_cons_of_mem _ hb)) (by simpa [List.filter_cons, hp] using hq)
theorem comp_id {stays : AHp → Prop} {set : AV → Option ASt} {te : ATE} {Q : List AV → AHp → Prop} (g : AV → AV) {AH : AHp} (hs : stays AH) (l : List AV) (h : ∀ a ∈ l, ∃ σ2, set a = some σ2 ∧ ∀ (R : AVK), R (g a) AH → te σ2 AH R) (hq : Q (l.map g) AH) : compP stays set aYes te Q l [] AH := by
  have := comp_map (stays := stays) (set := set) (te := te) (Q := Q) (fun x : AV => x) g hs l [] h (by simpa using hq)
  rwa [List.map_id'] at this
theorem Sub.mono {A B : AHp} (h : Sub A B) (q : Addr) (o : AO) : Sub (aupd A q o) (aupd B q o) := fun a u e => by
  by_cases z : a = q
  · subst z; rw [aupd_same] at e ⊢; exact e
  · rw [aupd_ne z] at e ⊢; exact h a u e
theorem aupd_none {A : AHp} {p q : Addr} {o : AO} (h : aupd A p o q = none) : q ≠ p ∧ A q = none := by
  by_cases z : q = p
  · subst z; rw [aupd_same] at h; cases h
  · rw [aupd_ne z] at h; exact ⟨z, h⟩
theorem ne_of_at {A : AHp} {p q : Addr} {o : AO} (h : A p = some o) (g : A q = none) : p ≠ q := fun z => by rw [z, g] at h; cases h
theorem aupd_eq_none {A : AHp} {p q : Addr} {o : AO} : aupd A p o q = none ↔ q ≠ p ∧ A q = none := ⟨aupd_none, fun ⟨h, g⟩ => by rw [aupd_ne h]; exact g⟩
theorem sIx_min (n d k : Nat) : HT.sIx n d (some (k : Int)) = min k n := HT.sIx_nat n d k
theorem cutA_nat {xs : List AV} {i j : Int} {a b : Nat} (hi : i = (a : Nat)) (hj : j = (b : Nat)) : cutA xs (some i) (some j) = (xs.drop a).take (b - a) := by
  subst hi hj
  unfold cutA
  rw [sIx_min, sIx_min]
  by_cases h : a ≤ xs.length
  · rw [Nat.min_eq_left h]
    by_cases g : b ≤ xs.length
    · rw [Nat.min_eq_left g]
    · rw [Nat.min_eq_right (by omega), List.take_of_length_le (by simp), List.take_of_length_le (by simp; omega)]
  · have m1 : min a xs.length = xs.length := by omega
    rw [m1, List.drop_length, List.drop_eq_nil_of_le (by omega)]
    simp
theorem cutA_from {xs : List AV} {i : Int} {a : Nat} (hi : i = (a : Nat)) : cutA xs (some i) none = xs.drop a := by
  subst hi
  unfold cutA
  rw [sIx_min]
  show (xs.drop (min a xs.length)).take (xs.length - min a xs.length) = _
  by_cases h : a ≤ xs.length
  · rw [Nat.min_eq_left h, List.take_of_length_le (by simp)]
  · have m1 : min a xs.length = xs.length := by omega
    rw [m1, List.drop_length, List.drop_eq_nil_of_le (by omega)]
    simp
theorem cutA_to {xs : List AV} {j : Int} {b : Nat} (hj : j = (b : Nat)) : cutA xs none (some j) = xs.take b := by
  subst hj
  unfold cutA
  rw [sIx_min]
  show (xs.drop 0).take (min b xs.length - 0) = _
  rw [List.drop_zero, Nat.sub_zero]
  by_cases h : b ≤ xs.length
  · rw [Nat.min_eq_left h]
  · rw [Nat.min_eq_right (by omega), List.take_of_length_le (Nat.le_refl _), List.take_of_length_le (by omega)]
theorem cutA_but1 {xs : List AV} : cutA xs none (some (-1)) = xs.dropLast := by
  unfold cutA
  show (xs.drop 0).take (HT.sIx xs.length xs.length (some (-1)) - 0) = _
  rw [List.drop_zero, Nat.sub_zero, List.dropLast_eq_take]
  have e : HT.sIx xs.length xs.length (some (-1)) = xs.length - 1 := by
    unfold HT.sIx
    simp only [show (-1 : Int) < 0 from by decide, if_true]
    omega
  rw [e]
theorem at_last {α : Type} {xs : List α} {x : α} : at' (xs ++ [x]) (-1) = some x := by
  show nth (xs ++ [x]).reverse 0 = some x
  rw [List.reverse_append]
  rfl
theorem at_nat {α : Type} {xs : List α} {i : Int} {n : Nat} {x : α} (hi : i = (n : Nat)) (h : xs[n]? = some x) : at' xs i = some x := by
  subst hi
  show nth xs n = some x
  rw [nth_eq, h]
theorem zipIdx_split {α : Type} {l : List α} {pre r : List (α × Nat)} {x : α × Nat} (h : l.zipIdx = pre ++ x :: r) : x.2 = pre.length ∧ l[pre.length]? = some x.1 := by
  have h1 : l.zipIdx[pre.length]? = some x := by rw [h]; simp
  rw [List.getElem?_zipIdx] at h1
  cases e : l[pre.length]? with
  | none => rw [e] at h1; cases h1
  | some y =>
    rw [e] at h1
    have := Option.some.inj h1
    rw [← this]
    simp
theorem Sub.over {A B : AHp} (h : Sub A B) {p : Addr} (hp : A p = none) (o : AO) : Sub A (aupd B p o) := fun a u e => by
  rw [aupd_ne (fun z => by rw [z, hp] at e; cases e)]
  exact h a u e
/-- what is read at a list or a tuple -/
def SeqAt' (AH : AHp) (x : AV) (ys : List AV) : Prop := x = .tup ys ∨ ∃ p, x = .ref p ∧ LstAt AH p ys
theorem cpow_ok {i j : Int} (h : (decide (0 ≤ j) && decide (j ≤ 1000000) && decide (i.natAbs < 2 ^ 64)) = true := by decide) : CPow i j := by
  simp only [Bool.and_eq_true, decide_eq_true_eq] at h
  exact ⟨h.1.1, h.1.2, h.2⟩
theorem cmul_l {i j : Int} (h : -1000000000000 < i ∧ i < 1000000000000) : CMul i j := .inl ⟨by omega, by omega⟩
theorem cmul_r {i j : Int} (h : -1000000000000 < j ∧ j < 1000000000000) : CMul i j := .inr ⟨by omega, by omega⟩
theorem cdiv_ok {i j : Int} (h : (decide (0 < j) && decide (j < 1073741824)) = true := by decide) : CDiv i j := by
  simp only [Bool.and_eq_true, decide_eq_true_eq] at h
  exact h
theorem mod_ok {j : Int} (h : decide (0 < j) = true := by decide) : 0 < j := of_decide_eq_true h
/-- from a later heap back to one known -/
theorem Sub.at_ {A B : AHp} (h : Sub A B) {q : Addr} {o : AO} (e : B q = some o) (n : A q = none) : Sub (aupd A q o) B := fun a u z => by
  by_cases ne : a = q
  · subst ne; rw [aupd_same] at z; cases z; exact e
  · rw [aupd_ne ne] at z; exact h a u z
theorem Sub.none {A B : AHp} (h : Sub A B) {p : Addr} (e : B p = .none) : A p = .none := by
  cases q : A p with
  | none => rfl
  | some o => rw [h p o q] at e; cases e
theorem seq_with {t r : ATS} {D : AEnds} {σ : ASt} {AH : AHp} (I : ASt → AHp → Prop) (h1 : ∀ N : ASt → AHp → Prop, (∀ σ AH, I σ AH → N σ AH) → t { nx := N, rt := D.rt, bk := D.bk, ct := D.ct } σ AH) (h2 : ∀ σ AH, I σ AH → r D σ AH) : aSeq t r D σ AH := h1 _ h2
theorem nat_mod {n m : Int} (h : 0 < m) : ∃ k : Nat, n % m = (k : Int) ∧ (k : Int) < m := by
  obtain ⟨k, hk⟩ := Int.eq_ofNat_of_zero_le (Int.emod_nonneg n (show m ≠ 0 by omega))
  exact ⟨k, hk, hk ▸ Int.emod_lt_of_pos n h⟩
theorem LstAt.sub {A B : AHp} (h : Sub A B) {p : Addr} {xs : List AV} (l : LstAt A p xs) : LstAt B p xs := l.elim (fun e => .inl (h _ _ e)) fun e => .inr (h _ _ e)
theorem seq_with2 {a b r : ATS} {D : AEnds} {σ : ASt} {AH : AHp} (I : ASt → AHp → Prop) (h1 : ∀ N : ASt → AHp → Prop, (∀ σ AH, I σ AH → N σ AH) → aSeq a b { nx := N, rt := D.rt, bk := D.bk, ct := D.ct } σ AH) (h2 : ∀ σ AH, I σ AH → r D σ AH) : aSeq a (aSeq b r) D σ AH := h1 _ h2
theorem seq_with3 {a b c r : ATS} {D : AEnds} {σ : ASt} {AH : AHp} (I : ASt → AHp → Prop) (h1 : ∀ N : ASt → AHp → Prop, (∀ σ AH, I σ AH → N σ AH) → aSeq a (aSeq b c) { nx := N, rt := D.rt, bk := D.bk, ct := D.ct } σ AH) (h2 : ∀ σ AH, I σ AH → r D σ AH) : aSeq a (aSeq b (aSeq c r)) D σ AH := h1 _ h2
theorem ix_nat {l : Nat} {i : Int} {n : Nat} (hi : i = (n : Nat)) (h : n < l) : ixA l i = some n := by
  subst hi
  exact if_pos h
end Av
/-! Av10: more built-ins: max, min of two numbers, all, index. -/
namespace Av
open PySem PySem.Spec PyProof.Rows L2
section
variable {X : Cx}
def rMax2A : AR := fun xs AH Q => match xs with
  | [.int i, .int j] => Q (.int (if j > i then j else i)) AH
  | _ => False
theorem ac_max2 (hc : X.calm = true := by rfl) : CallR X (.builtin "max") (fun xs H Q => ∃ i j, xs = [.int i, .int j] ∧ Q (.int (if j > i then j else i)) H) ∧ ROk X.K rMax2A (fun xs H Q => ∃ i j, xs = [.int i, .int j] ∧ Q (.int (if j > i then j else i)) H) := by
  refine ⟨call_max2 hc, ?_⟩
  intro xs vs AH H Q QH R r h d
  unfold rMax2A at h
  split at h
  · obtain ⟨v, w, rfl, hv, hw⟩ := two_rep r
    cases hv; cases hw
    exact ⟨_, _, rfl, d.at_ (.int _) R rfl h⟩
  · exact h.elim
def rMin2A : AR := fun xs AH Q => match xs with
  | [.int i, .int j] => Q (.int (if j < i then j else i)) AH
  | _ => False
theorem ac_min2 (hc : X.calm = true := by rfl) : CallR X (.builtin "min") (fun xs H Q => ∃ i j, xs = [.int i, .int j] ∧ Q (.int (if j < i then j else i)) H) ∧ ROk X.K rMin2A (fun xs H Q => ∃ i j, xs = [.int i, .int j] ∧ Q (.int (if j < i then j else i)) H) := by
  refine ⟨call_min2 hc, ?_⟩
  intro xs vs AH H Q QH R r h d
  unfold rMin2A at h
  split at h
  · obtain ⟨v, w, rfl, hv, hw⟩ := two_rep r
    cases hv; cases hw
    exact ⟨_, _, rfl, d.at_ (.int _) R rfl h⟩
  · exact h.elim
theorem RepVs.ofBls {K : PySem.W.Frag} {H : Hp} : ∀ {bs : List Bool} {vs : List V}, RepVs K H (bs.map AV.bl) vs → vs = bs.map V.bl
  | [], _, h => by cases h; rfl
  | b :: bs, _, ⟨v, r, e, h1, h2⟩ => by subst e; cases h1; rw [RepVs.ofBls h2]; rfl
theorem RepVs.ofInts {K : PySem.W.Frag} {H : Hp} : ∀ {ns : List Int} {vs : List V}, RepVs K H (ns.map AV.int) vs → vs = ns.map V.int
  | [], _, h => by cases h; rfl
  | b :: bs, _, ⟨v, r, e, h1, h2⟩ => by subst e; cases h1; rw [RepVs.ofInts h2]; rfl
def rAllA : AR := fun xs AH Q => match xs with
  | [.ref p] => ∃ bs : List Bool, LstAt AH p (bs.map AV.bl) ∧ Q (.bl (bs.all id)) AH
  | _ => False
theorem ac_all (hc : X.calm = true := by rfl) : CallR X (.builtin "all") (rAll X.K) ∧ ROk X.K rAllA (rAll X.K) := by
  refine ⟨cr_all hc, ?_⟩
  intro xs vs AH H Q QH R r h d
  unfold rAllA at h
  split at h
  · obtain ⟨v, rfl, hv⟩ := one_rep r
    cases hv
    obtain ⟨bs, hl, q⟩ := h
    obtain ⟨vs, s, l, rs⟩ := hl.rep R
    have := rs.ofBls
    subst this
    exact ⟨_, bs, rfl, s, d.at_ (.bl _) R rfl q⟩
  · exact h.elim
def rSumA : AR := fun xs AH Q => match xs with
  | [.ref p] => ∃ ns : List Int, LstAt AH p (ns.map AV.int) ∧ Q (.int ns.sum) AH
  | _ => False
theorem ac_sum (hc : X.calm = true := by rfl) : CallR X (.builtin "sum") (rSum X.K) ∧ ROk X.K rSumA (rSum X.K) := by
  refine ⟨cr_sum hc, ?_⟩
  intro xs vs AH H Q QH R r h d
  unfold rSumA at h
  split at h
  · obtain ⟨v, rfl, hv⟩ := one_rep r
    cases hv
    obtain ⟨ns, hl, q⟩ := h
    obtain ⟨vs, s, l, rs⟩ := hl.rep R
    have := rs.ofInts
    subst this
    exact ⟨_, ns, rfl, s, d.at_ (.int _) R rfl q⟩
  · exact h.elim
/-- l.index(x), flat items: the first place -/
def findA (x : AV) : List AV → Nat → Option Nat
  | [], _ => none
  | y :: ys, n => if eqF y x = true then some n else findA x ys (n + 1)
theorem findA_ok (x : AV) : ∀ (ys : List AV) (n j : Nat), findA x ys n = some j → ∃ k z, j = n + k ∧ ys[k]? = some z ∧ eqF z x = true ∧ ∀ m z', m < k → ys[m]? = some z' → eqF z' x = false
  | [], _, _, h => by cases h
  | y :: ys, n, j, h => by
    unfold findA at h
    split at h
    · cases h
      exact ⟨0, y, rfl, rfl, by assumption, fun m z' hm => by omega⟩
    · rename_i hn
      obtain ⟨k, z, rfl, h1, h2, h3⟩ := findA_ok x ys (n + 1) j h
      refine ⟨k + 1, z, by omega, by simpa using h1, h2, fun m z' hm e => ?_⟩
      cases m with
      | zero => simp at e; subst e; simpa using hn
      | succ m => exact h3 m z' (by omega) (by simpa using e)
def rIndexA : ARM := fun q xs AH Q => match xs with
  | [x] => ∃ ys j, LstAt AH q ys ∧ flatA x = true ∧ ys.all flatA = true ∧ findA x ys 0 = some j ∧ Q (.int (j : Nat)) AH
  | _ => False
theorem flat_all {K : PySem.W.Frag} {H : Hp} {ys : List AV} {ws : List V} (rs : RepVs K H ys ws) (h : ys.all flatA = true) : ws.all flatV = true := (inF_rep (x := .non) (v := .non) rfl rfl rs h).1
theorem am_index : MtR X "list.index" (rIndex X.K) ∧ RMOk X.K rIndexA (rIndex X.K) := by
  refine ⟨mt_index, ?_⟩
  intro q xs vs AH H Q QH R r h d
  unfold rIndexA at h
  split at h
  · rename_i x
    obtain ⟨v, rfl, rv⟩ := one_rep r
    obtain ⟨ys, j, hl, f1, f2, hj, q1⟩ := h
    obtain ⟨ws, s, l, rs⟩ := hl.rep R
    obtain ⟨k, z, rfl, h1, h2, h3⟩ := findA_ok x ys 0 j hj
    obtain ⟨w, e1, rw⟩ := rs.get h1
    have fz : flatA z = true := List.all_eq_true.mp f2 z (List.mem_of_getElem? h1)
    rw [Nat.zero_add] at q1
    refine ⟨q, ws, v, k, w, rfl, rfl, s, flat_rep rv f1, flat_all rs f2, e1, by rw [eqF_rep rw rv fz f1]; exact h2, fun m z' hm e => ?_, d.at_ (.int _) R rfl q1⟩
    obtain ⟨y, ey, ry⟩ := rs.getV e
    have fy : flatA y = true := List.all_eq_true.mp f2 y (List.mem_of_getElem? ey)
    rw [eqF_rep ry rv fy f1]
    exact h3 m y hm ey
  · exact h.elim
end
end Av
/-! Av11: data read at values, for ==. -/
namespace Av
open PySem PySem.Spec PyProof.Rows L2
/-- data that == takes, so deep at most -/
def Lay (n : Nat) (d : PyData) : Prop := d.canLay0 = true ∧ d.depth ≤ n
theorem Lay.shaped {n : Nat} {d : PyData} (h : Lay n d) (hn : n ≤ 64) : SeqAt.shaped d = true := by
  unfold SeqAt.shaped
  rw [h.1, Bool.true_and]
  exact decide_eq_true (Nat.le_trans h.2 hn)
theorem Lay.int {n : Nat} {i : Int} : Lay n (.int i) := ⟨rfl, Nat.zero_le _⟩
theorem Lay.bl {n : Nat} {b : Bool} : Lay n (.bool b) := ⟨rfl, Nat.zero_le _⟩
theorem Lay.non {n : Nat} : Lay n .none := ⟨rfl, Nat.zero_le _⟩
theorem Lay.str {n : Nat} {x : Str} (h : PySem.PyData.canLay0 (.str x) = true) : Lay n (.str x) := ⟨h, Nat.zero_le _⟩
theorem layAll {n : Nat} : ∀ {ds : List PyData}, (∀ d ∈ ds, Lay n d) → PyData.canLayAll0 ds = true ∧ PyData.depthAll ds ≤ n
  | [], _ => ⟨rfl, Nat.zero_le _⟩
  | d :: ds, h => by
    have h1 := h d List.mem_cons_self
    have h2 := layAll (ds := ds) fun x hx => h x (List.mem_cons_of_mem _ hx)
    refine ⟨?_, ?_⟩
    · show (d.canLay0 && PyData.canLayAll0 ds) = true
      rw [h1.1, h2.1]; rfl
    · show max d.depth (PyData.depthAll ds) ≤ n
      exact Nat.max_le.mpr ⟨h1.2, h2.2⟩
theorem Lay.lst {n : Nat} {ds : List PyData} (h : ∀ d ∈ ds, Lay n d) : Lay (n + 1) (.list ds) := ⟨(layAll h).1, Nat.succ_le_succ (layAll h).2⟩
theorem Lay.tup {n : Nat} {ds : List PyData} (h : ∀ d ∈ ds, Lay n d) : Lay (n + 1) (.tuple ds) := ⟨(layAll h).1, Nat.succ_le_succ (layAll h).2⟩
theorem Lay.lstMap {α : Type} {n : Nat} {l : List α} {g : α → PyData} (h : ∀ x ∈ l, Lay n (g x)) : Lay (n + 1) (.list (l.map g)) := Lay.lst fun d hd => by
  obtain ⟨x, hx, rfl⟩ := List.mem_map.mp hd
  exact h x hx
theorem PyAt.lstMap {α : Type} {AH : AHp} {p : Addr} {l : List α} {f : α → AV} {g : α → PyData} (hp : LstAt AH p (l.map f)) (h : ∀ x ∈ l, PyAt AH (f x) (g x)) : PyAt AH (.ref p) (.list (l.map g)) := by
  refine .lst hp (by simp) fun i x d e1 e2 => ?_
  rw [List.getElem?_map] at e1 e2
  cases q : l[i]? with
  | none => rw [q] at e1; cases e1
  | some y =>
    rw [q] at e1 e2
    cases e1; cases e2
    exact h y (List.mem_of_getElem? q)
inductive PyAts (AH : AHp) : List AV → List PyData → Prop
  | nil : PyAts AH [] []
  | cons {x : AV} {d : PyData} {xs : List AV} {ds : List PyData} (h : PyAt AH x d) (t : PyAts AH xs ds) : PyAts AH (x :: xs) (d :: ds)
theorem PyAts.both {AH : AHp} {xs : List AV} {ds : List PyData} (h : PyAts AH xs ds) : xs.length = ds.length ∧ ∀ (i : Nat) (x : AV) (d : PyData), xs[i]? = some x → ds[i]? = some d → PyAt AH x d := by
  induction h with
  | nil => exact ⟨rfl, fun i x d e => by simp at e⟩
  | cons h _ ih =>
    refine ⟨by simp [ih.1], fun i x d e1 e2 => ?_⟩
    cases i with
    | zero => simp at e1 e2; subst e1 e2; exact h
    | succ i => exact ih.2 i x d (by simpa using e1) (by simpa using e2)
theorem PyAts.tup {AH : AHp} {xs : List AV} {ds : List PyData} (h : PyAts AH xs ds) : PyAt AH (.tup xs) (.tuple ds) := .tup h.both.1 h.both.2
theorem eq_py {d : PyData} {n : Nat} (h : Lay n d) : PyData.eqv d d = true := SeqAt.eqv_refl d h.1
end Av
/-! Av12: the law's end. -/
namespace Av
open PySem PySem.Spec PyProof.Rows L2
/-- no list stands in what the top has left -/
def noLists (K : PySem.W.Frag) : Bool := K.all fun q => match q.2.cls with | .type c => !decide (c = "list") | _ => true
theorem noLists_ok {K : PySem.W.Frag} (h : noLists K = true) {a : Addr} {o : Obj} (e : K.lookup a = some o) (c : o.cls = .type "list") : False := by
  have h1 := List.all_eq_true.mp h (a, o) (He.lookup_mem e)
  have h2 : (match o.cls with | .type c => !decide (c = "list") | _ => true) = true := h1
  rw [c] at h2
  exact absurd h2 (by decide)
/-- what a law's def promises -/
def LawSp (n : Nat) (sp : ASp) : Prop := ∀ (p : Addr) (cs : List Int) (AH : AHp) (Q : AVK) (E : AXK), cs.length ≤ n → LstAt AH p (cs.map .int) → (∀ AH', Q (.bl true) AH') → sp [.ref p] AH Q E
theorem rep_ints {K : PySem.W.Frag} {H : Hp} : ∀ {ns : List Int}, RepVs K H (ns.map AV.int) (ns.map V.int)
  | [] => rfl
  | n :: ns => ⟨.int n, ns.map V.int, rfl, rfl, rep_ints⟩
theorem LawSp.lift {K : PySem.W.Frag} {n : Nat} {sp : ASp} (S : LawSp n sp) (hn : n ≤ sizeLine) (hK : noLists K = true) (H : Hp) (a : Addr) (ns : List Int) (hl : ns.length ≤ n) (hO : Only H) (hS : SqL K H a (ns.map V.int)) :
    Av.lift K sp [.ref a] H (fun v _ => v = .bl true) fun _ _ _ => False := by
  have hfr : ∃ o, H a = some (.frz o (.lst (ns.map V.int))) := by
    rcases hS with (h | h) | ⟨o, its, m, h, c, _⟩
    · rcases hO a with z | ⟨o, xs, z⟩
      · rw [h] at z; cases z
      · rw [h] at z; cases z
    · exact h
    · exact (noLists_ok hK h c).elim
  obtain ⟨o, ho⟩ := hfr
  refine ⟨[.ref a], fun b => if b = a then some (.rls (ns.map .int)) else none, fun v _ => v = .bl true, fun _ _ _ => False, fun b u e => ?_, ⟨_, _, rfl, rfl, rfl⟩, ?_, ?_, ?_⟩
  · by_cases z : b = a
    · subst z
      have e' : some (AO.rls (ns.map .int)) = some u := (if_pos rfl).symm.trans e
      cases e'
      exact ⟨o, _, ho, by rw [List.length_map]; exact Nat.le_trans hl hn, rep_ints⟩
    · have e' := (if_neg z).symm.trans e
      cases e'
  · exact S a ns _ _ _ hl (.inr (if_pos rfl)) fun _ => rfl
  · intro v H' x AH' _ _ r q
    subst q
    exact r
  · intro _ _ _ _ _ _ _ _ h
    exact h.elim
theorem con_int {K : PySem.W.Frag} {mg : Str → Option Value} {x : Str} {i : Int} (h : ∃ t, mg x = some (.int i t)) : ConAt K mg x (.int i) := by
  obtain ⟨t, h⟩ := h
  exact ⟨_, .int i, h, ⟨t, rfl⟩, fun _ => rfl⟩
theorem con_str {K : PySem.W.Frag} {mg : Str → Option Value} {x z : Str} (h : ∃ t, mg x = some (.str z t)) (hz : z.length ≤ sizeLine := by decide +kernel) : ConAt K mg x (.str z) := by
  obtain ⟨t, h⟩ := h
  exact ⟨_, .str z, h, ⟨t, rfl⟩, fun _ => ⟨rfl, hz⟩⟩
end Av
namespace K81
open PySem PySem.Spec PyProof.Rows L2 Av
def top (i : Nat) : Stmt := PySem.Challenge.pw_likewise_k81_beginnings_written.main.body.getD i (.Pass ⟨0, 0, 0, 0⟩)
/-- what the top has left -/
structure Top (P : Program) (w : World) (K : PySem.W.Frag) (mg : Str → Option Value) (base : Heap) : Prop where
  b_all : mg "all" = none
  b_bool : mg "bool" = none
  b_enumerate : mg "enumerate" = none
  b_int : mg "int" = none
  b_isinstance : mg "isinstance" = none
  b_len : mg "len" = none
  b_list : mg "list" = none
  b_max : mg "max" = none
  b_range : mg "range" = none
  b_str : mg "str" = none
  b_tuple : mg "tuple" = none
  c_BOXES : ConAt K mg "BOXES" (.int 4)
  c_CELLS_OF_A_PAGE : ConAt K mg "CELLS_OF_A_PAGE" (.int 16)
  c_FIGURES : ConAt K mg "FIGURES" (.str "0123456789")
  c_GREATEST_WORD : ConAt K mg "GREATEST_WORD" (.int 4095)
  c_LONGEST : ConAt K mg "LONGEST" (.int 60)
  c_MOST_PAGES : ConAt K mg "MOST_PAGES" (.int 8)
  c_PAGE_CELLS : ConAt K mg "PAGE_CELLS" (.int 16)
  c_RIGHT_SIGNS : ConAt K mg "RIGHT_SIGNS" (.str "rwx")
  m_check_pages : mg "check_pages" = some (.ref (He.fAd K ("check_pages", none)))
  d_check_pages : DefAt K ("check_pages", none) "check_pages" "check_pages" (top 10)
  m_are_words : mg "are_words" = some (.ref (He.fAd K ("are_words", none)))
  d_are_words : DefAt K ("are_words", none) "are_words" "are_words" (top 11)
  m_check_state : mg "check_state" = some (.ref (He.fAd K ("check_state", none)))
  d_check_state : DefAt K ("check_state", none) "check_state" "check_state" (top 12)
  m_number_in : mg "number_in" = some (.ref (He.fAd K ("number_in", none)))
  d_number_in : DefAt K ("number_in", none) "number_in" "number_in" (top 18)
  m_numbers_in : mg "numbers_in" = some (.ref (He.fAd K ("numbers_in", none)))
  d_numbers_in : DefAt K ("numbers_in", none) "numbers_in" "numbers_in" (top 19)
  m_joined : mg "joined" = some (.ref (He.fAd K ("joined", none)))
  d_joined : DefAt K ("joined", none) "joined" "joined" (top 20)
  m_rights_text : mg "rights_text" = some (.ref (He.fAd K ("rights_text", none)))
  d_rights_text : DefAt K ("rights_text", none) "rights_text" "rights_text" (top 21)
  m_beginning_text : mg "beginning_text" = some (.ref (He.fAd K ("beginning_text", none)))
  d_beginning_text : DefAt K ("beginning_text", none) "beginning_text" "beginning_text" (top 22)
  m_rights_in : mg "rights_in" = some (.ref (He.fAd K ("rights_in", none)))
  d_rights_in : DefAt K ("rights_in", none) "rights_in" "rights_in" (top 23)
  m_page_read : mg "page_read" = some (.ref (He.fAd K ("page_read", none)))
  d_page_read : DefAt K ("page_read", none) "page_read" "page_read" (top 24)
  m_named_read : mg "named_read" = some (.ref (He.fAd K ("named_read", none)))
  d_named_read : DefAt K ("named_read", none) "named_read" "named_read" (top 25)
  m_ended_rows : mg "ended_rows" = some (.ref (He.fAd K ("ended_rows", none)))
  d_ended_rows : DefAt K ("ended_rows", none) "ended_rows" "ended_rows" (top 26)
  m_beginning_of : mg "beginning_of" = some (.ref (He.fAd K ("beginning_of", none)))
  d_beginning_of : DefAt K ("beginning_of", none) "beginning_of" "beginning_of" (top 27)
  m__law_cell_at : mg "_law_cell_at" = some (.ref (He.fAd K ("_law_cell_at", none)))
  d__law_cell_at : DefAt K ("_law_cell_at", none) "_law_cell_at" "_law_cell_at" (top 29)
  m__law_whole : mg "_law_whole" = some (.ref (He.fAd K ("_law_whole", none)))
  d__law_whole : DefAt K ("_law_whole", none) "_law_whole" "_law_whole" (top 30)
  m__law_numbers : mg "_law_numbers" = some (.ref (He.fAd K ("_law_numbers", none)))
  d__law_numbers : DefAt K ("_law_numbers", none) "_law_numbers" "_law_numbers" (top 31)
  m__law_kind : mg "_law_kind" = some (.ref (He.fAd K ("_law_kind", none)))
  d__law_kind : DefAt K ("_law_kind", none) "_law_kind" "_law_kind" (top 32)
  m__law_wide : mg "_law_wide" = some (.ref (He.fAd K ("_law_wide", none)))
  d__law_wide : DefAt K ("_law_wide", none) "_law_wide" "_law_wide" (top 33)
  m__law_row_words : mg "_law_row_words" = some (.ref (He.fAd K ("_law_row_words", none)))
  d__law_row_words : DefAt K ("_law_row_words", none) "_law_row_words" "_law_row_words" (top 34)
  m__law_goal : mg "_law_goal" = some (.ref (He.fAd K ("_law_goal", none)))
  d__law_goal : DefAt K ("_law_goal", none) "_law_goal" "_law_goal" (top 35)
  m__law_pages : mg "_law_pages" = some (.ref (He.fAd K ("_law_pages", none)))
  d__law_pages : DefAt K ("_law_pages", none) "_law_pages" "_law_pages" (top 36)
  m__law_laid : mg "_law_laid" = some (.ref (He.fAd K ("_law_laid", none)))
  d__law_laid : DefAt K ("_law_laid", none) "_law_laid" "_law_laid" (top 37)
  m__law_program : mg "_law_program" = some (.ref (He.fAd K ("_law_program", none)))
  d__law_program : DefAt K ("_law_program", none) "_law_program" "_law_program" (top 38)
  m__law_digits : mg "_law_digits" = some (.ref (He.fAd K ("_law_digits", none)))
  d__law_digits : DefAt K ("_law_digits", none) "_law_digits" "_law_digits" (top 39)
  m__law_beginning : mg "_law_beginning" = some (.ref (He.fAd K ("_law_beginning", none)))
  d__law_beginning : DefAt K ("_law_beginning", none) "_law_beginning" "_law_beginning" (top 40)
  m__law_text : mg "_law_text" = some (.ref (He.fAd K ("_law_text", none)))
  d__law_text : DefAt K ("_law_text", none) "_law_text" "_law_text" (top 41)
  m__law_right : mg "_law_right" = some (.ref (He.fAd K ("_law_right", none)))
  d__law_right : DefAt K ("_law_right", none) "_law_right" "_law_right" (top 42)
  m_law : mg "law" = some (.ref (He.fAd K ("law", none)))
  d_law : DefAt K ("law", none) "law" "law" (top 43)
end K81
namespace K81
open PySem PySem.Spec PyProof.Rows L2 Av
local macro_rules | `(tactic| walk_at "s") => `(tactic| conv => whnf)
local macro_rules | `(tactic| walk_at "n") => `(tactic| first | assumption | (apply Ne.symm; assumption) | exact ne_of_at (by assumption) (by assumption) | exact Ne.symm (ne_of_at (by assumption) (by assumption)))
local macro_rules | `(tactic| walk_at "h") => `(tactic| first | exact aupd_same | assumption | exact (aupd_ne (by walk_at "n")).trans (by walk_at "h"))
local macro_rules | `(tactic| walk_at "c") => `(tactic| ((first | refine ⟨mod_ok, ?_⟩ | refine ⟨cdiv_ok, ?_⟩ | refine ⟨cmul_l ⟨by omega, by omega⟩, ?_⟩ | refine ⟨cmul_r ⟨by omega, by omega⟩, ?_⟩); conv => whnf))
variable {P : Program} {w : World} {K : PySem.W.Frag} {mg : Str → Option Value} {base : Heap}
def optInt : Option Int → AV | some n => .int n | none => .non
def isDig (c : Nat) : Bool := decide (48 ≤ c) && decide (c ≤ 57)
theorem dig_in (c : Nat) : decide (c ∈ ("0123456789" : Str).cps.toList) = isDig c := by
  have e : ("0123456789" : Str).cps.toList = [48, 49, 50, 51, 52, 53, 54, 55, 56, 57] := by decide +kernel
  rw [e, Bool.eq_iff_iff]
  simp [isDig]
  omega
theorem sign_eq (c d : Nat) : decide ((⟨#[c]⟩ : Str) = ⟨#[d]⟩) = decide (c = d) := by
  rw [decide_eq_decide]
  simp
/-- the number that a text writes, as the program has it -/
def numberIn (s : Str) : Option Int := if s.cps.toList.all isDig && (decide (1 ≤ s.length) && decide (s.length ≤ 60)) && !(decide (s.cps.toList.head? = some 48) && decide (1 < s.length)) then PySem.intText? s else none
def sp_number_in : ASp := fun xs AH Q _ => ∃ s : Str, xs = [.str s] ∧ Q (optInt (numberIn s)) AH
theorem sc_number_in : FnScope ["word", "sign"] ["word"] (defScope (top 18)) := ⟨rfl, rfl, rfl, by decide +kernel, rfl, by decide +kernel, by decide +kernel⟩
theorem ok_number_in (T : Top P w K mg base) : DefOk P w K mg base CX0 1 (He.fAd K ("number_in", none)) ["word"] sp_number_in := by
  have sc := sc_number_in
  refine T.d_number_in.ok sc (fun _ _ _ _ _ _ us hl => match us, hl with | [_], _ => rfl) ?len (fun cdv A outer s H E hr => ⟨_, (ass_cons (as_for PassesOwn.never rfl (ai_any (av 0)) (ag_name (i := 1) sc.nd)
  (ass_fg (ass_one (as_if (at_cmp (ao_notIn (hu65 hr)) (av 1) (ae_con T.c_FIGURES))
  (ass_one (as_ret ae_non))
  ass_nil))))
  (ass_cons (as_if (PW.pt (aw_or (at_cmp ao_lt (ae_callB ac_len T.b_len (al_cons (av 0) al_nil)) ae_int) (aw_or (at_cmp ao_gt (ae_callB ac_len T.b_len (al_cons (av 0) al_nil)) (ae_con T.c_LONGEST)) (aw_or1 (PW.pt (aw_and (at_cmp (ao_eq (hu64 hr)) (ae_ix (av 0) ae_int) ae_str) (aw_and1 (at_cmp ao_gt (ae_callB ac_len T.b_len (al_cons (av 0) al_nil)) ae_int))))))))
  (ass_one (as_ret ae_non))
  ass_nil)
  (ass_one (as_ret (ae_callTy ac_int T.b_int (al_cons (av 0) al_nil)))))), ?body⟩)
  case len => rintro _ _ _ _ ⟨_, rfl, _⟩; rfl
  case body =>
    rintro xs AH Q EA ⟨z, rfl, hQ⟩
    walk_at "s"
    refine loop_fw (fun c => AV.str ⟨#[c]⟩) z.cps.toList (fun pre σ AH' => AH = AH' ∧ pre.all isDig = true ∧ ∃ sg, σ = [some (.str z), sg]) ?_ ?_ _ _ ⟨rfl, rfl, none, rfl⟩
    · rintro σ _ ⟨rfl, hp, sg, rfl⟩
      refine ⟨trivial, ?_⟩
      unfold numberIn at hQ
      rw [hp] at hQ
      walk_at "s"
      split <;> rename_i h1
      · replace h1 := of_decide_eq_true h1
        rw [if_neg (by simp; omega)] at hQ
        exact Wk.refl hQ
      · replace h1 := of_decide_eq_false h1
        walk_at "s"
        split <;> rename_i h2
        · replace h2 := of_decide_eq_true h2
          rw [if_neg (by simp; omega)] at hQ
          exact Wk.refl hQ
        · replace h2 := of_decide_eq_false h2
          walk_at "s"
          obtain ⟨c, l, hcl⟩ : ∃ c l, z.cps.toList = c :: l := by
            cases e : z.cps.toList with
            | nil =>
              have : z.length = 0 := by show z.cps.size = 0; rw [← Array.length_toList, e]; rfl
              omega
            | cons c l => exact ⟨c, l, rfl⟩
          have fin : (decide (c = 48) && decide (1 < z.length)) = false → ∃ n, PySem.intText? z = some n ∧ z.length ≤ 640 ∧ Wk Q (.int n) AH := by
            intro hc
            have hd : PySem.NumText.AllDigits z.cps.toList := by
              intro d hd
              have := List.all_eq_true.mp hp d hd
              simp [isDig] at this
              exact this
            have e := PySem.intText_digits hd (by rw [hcl]; exact List.cons_ne_nil _ _) (by omega)
            rw [e] at hQ
            rw [if_pos (by rw [hcl]; simp at hc ⊢; omega)] at hQ
            exact ⟨_, e, by omega, Wk.refl hQ⟩
          rw [hcl]
          walk_at "s"
          rw [show decide ((⟨#[c]⟩ : Str) = Str.ofString "0") = decide (c = 48) from sign_eq c 48]
          split <;> rename_i h3
          · walk_at "s"
            split <;> rename_i h4
            · replace h3 := of_decide_eq_true h3
              replace h4 := of_decide_eq_true h4
              rw [if_neg (by rw [hcl]; simp [h3]; omega)] at hQ
              exact Wk.refl hQ
            · walk_at "s"
              refine fin ?_
              have h4 := of_decide_eq_false h4
              simp; omega
          · walk_at "s"
            refine fin ?_
            rw [h3]; rfl
    · rintro N B Rt hB hR pre c l e ih σ _ ⟨rfl, hp, sg, rfl⟩
      refine ⟨trivial, ?_⟩
      walk_at "s"
      refine ⟨c, rfl, ?_⟩
      walk_at "s"
      rw [dig_in]
      split <;> rename_i h1
      · have hn : numberIn z = none := by
          unfold numberIn
          rw [if_neg]
          rw [e]
          simp at h1
          simp [h1]
        rw [hn] at hQ
        exact hR _ _ (Wk.refl hQ)
      · exact WkS.refl <| ih _ _ ⟨rfl, by simp at h1; simp [hp, h1], _, rfl⟩

theorem numL_head : ∀ (n : Nat), 1 ≤ n → (TL.numL n).head? ≠ some 48 := by
  intro n
  induction n using Nat.strongRecOn with
  | ind n ih =>
    intro h
    by_cases h10 : n < 10
    · rw [TL.numL_lt h10]
      simp; omega
    · rw [TL.numL_step (by omega)]
      have := ih (n / 10) (by omega) (by omega)
      have hne := TL.numL_ne (n / 10)
      cases e : TL.numL (n / 10) with
      | nil => exact absurd e hne
      | cons c l => rw [e] at this; simpa using this
theorem numT_tl (k : Nat) : (Str.ofString (toString ((k : Nat) : Int))).cps.toList = TL.numL k := TL.tl_num k
theorem numT_len {n : Int} (h0 : 0 ≤ n) (h1 : n < 10 ^ 60) : (Str.ofString (toString n)).length ≤ 60 := by
  obtain ⟨k, rfl⟩ := Int.eq_ofNat_of_zero_le h0
  rw [TL.len_tl, TL.tl_num]
  exact TL.numL_len (by decide) (by exact_mod_cast h1)
theorem numT_log {n : Int} (h0 : 0 ≤ n) (h1 : n < 10 ^ 60) : n.natAbs.log2 < 1920 := by
  obtain ⟨k, rfl⟩ := Int.eq_ofNat_of_zero_le h0
  have hk : k < 10 ^ 60 := by exact_mod_cast h1
  show k.log2 < 1920
  by_cases z : k = 0
  · subst z; decide
  · rw [Nat.log2_lt z]
    exact Nat.lt_of_lt_of_le hk (by decide +kernel)
theorem numT_free {n : Int} (h0 : 0 ≤ n) {s : Nat} (h : s < 48 ∨ 57 < s) : s ∉ (Str.ofString (toString n)).cps.toList := by
  obtain ⟨k, rfl⟩ := Int.eq_ofNat_of_zero_le h0
  rw [numT_tl]
  exact TL.numL_free h
theorem numberIn_of {n : Int} (h0 : 0 ≤ n) (h1 : n < 10 ^ 60) : numberIn (Str.ofString (toString n)) = some n := by
  have hl := numT_len h0 h1
  obtain ⟨k, rfl⟩ := Int.eq_ofNat_of_zero_le h0
  have e := numT_tl k
  have hlen : (Str.ofString (toString ((k : Nat) : Int))).length = (TL.numL k).length := by rw [← e]; exact TL.len_tl _
  unfold numberIn
  rw [if_pos]
  · exact TL.int_num (by omega)
  · rw [hlen] at hl ⊢
    rw [e]
    have hd : (TL.numL k).all isDig = true := List.all_eq_true.mpr fun c hc => by
      have := TL.numL_digits k c hc
      simp [isDig]; omega
    have hne := TL.numL_ne k
    rw [hd]
    have h1 : 1 ≤ (TL.numL k).length := by
      cases h : TL.numL k with
      | nil => exact absurd h hne
      | cons _ _ => simp
    simp only [Bool.true_and, Bool.and_eq_true, decide_eq_true_eq, Bool.not_eq_true', Bool.and_eq_false_iff, decide_eq_false_iff_not]
    refine ⟨⟨h1, hl⟩, ?_⟩
    by_cases q : k = 0
    · subst q
      right
      rw [TL.numL_lt (by decide)]
      simp
    · exact .inl (numL_head k (by omega))
/-- a word's text -/
def txt : AV → Str
  | .int i => Str.ofString (toString i)
  | .str s => s
  | _ => Str.empty
def TxtOk : AV → Prop
  | .int i => 0 ≤ i ∧ i < 10 ^ 60
  | .str _ => True
  | _ => False
theorem join_len (s : Str) : ∀ ys : List Str, (Txt.join s ys).length ≤ (ys.map (·.length)).sum + ys.length * s.length := by
  intro ys
  rw [TL.join_eq, TL.len_tl, TL.tl_join]
  induction ys with
  | nil => simp [TL.joinL]
  | cons y ys ih =>
    cases ys with
    | nil => simp [TL.joinL, TL.len_tl]
    | cons z zs =>
      simp only [List.map_cons, TL.joinL, List.length_append, List.sum_cons, List.length_cons, TL.len_tl] at ih ⊢
      have : (zs.length + 1 + 1) * (TL.tl s).length = (zs.length + 1) * (TL.tl s).length + (TL.tl s).length := by rw [Nat.add_mul]; simp
      omega
theorem str_elem {i : Nat} {σ : ASt} {y : AV} {R : AVK} {AH : AHp} (h : slot σ i = some y) (hy : TxtOk y) (hR : R (.str (txt y)) AH) : aFgE (aCB rStrA (aCons (aVar i) aNil)) σ AH R := by
  show aVar i σ AH _
  unfold aVar
  rw [h]
  cases y with
  | int i => exact ⟨numT_log hy.1 hy.2, Nat.le_trans (numT_len hy.1 hy.2) (by decide), Wk.refl hR⟩
  | str s => exact Wk.refl hR
  | _ => exact hy.elim
theorem one_len : ((" " : Str).length) = 1 := by decide +kernel
theorem txt_sum (ys : List AV) : ((ys.map txt).map (·.length)).sum = (ys.map fun y => (txt y).length).sum := by rw [List.map_map]; rfl
def sp_joined : ASp := fun xs AH Q _ => ∃ x ys, xs = [x] ∧ SeqAt' AH x ys ∧ (∀ y ∈ ys, TxtOk y) ∧ (ys.map fun y => (txt y).length).sum + ys.length ≤ 16777216 ∧ Q (.str (Txt.join " " (ys.map txt))) AH
theorem sc_joined : FnScope ["words", "word"] ["words"] (defScope (top 20)) := ⟨rfl, rfl, rfl, by decide +kernel, rfl, by decide +kernel, by decide +kernel⟩
theorem ok_joined (T : Top P w K mg base) : DefOk P w K mg base CX0 1 (He.fAd K ("joined", none)) ["words"] sp_joined := by
  have sc := sc_joined
  refine T.d_joined.ok sc (fun _ _ _ _ _ _ us hl => match us, hl with | [_], _ => rfl) ?len (fun cdv A outer s H E hr => ⟨_, (ass_one (as_ret (ae_sm PySem.F.slot_str_join PySem.F.type_str_join am_join ae_str (al_cons (ae_lc1 (i := 1) rfl sc.nd (ai_any (av 0)) (blkOk_by (own := [("word", 1)]) (N := ["words", "word"]) (sc := defScope (top 20)) (by decide +kernel)) (fun _ _ _ _ _ => (pg_name (i := 1) sc.nd rfl (Or.inl rfl))) (fun _ _ _ _ _ => ats_nil) (fun _ _ _ _ _ => (ae_fg (ae_callTy ac_str T.b_str (al_cons (av 1) al_nil))))) al_nil)))), ?body⟩)
  case len => rintro _ _ _ _ ⟨_, _, rfl, _⟩; rfl
  case body =>
    rintro xs AH Q EA ⟨x, ys, rfl, hx, ht, hl, hQ⟩
    have hj := join_len " " (ys.map txt)
    have e : ys.map (fun y => AV.str (txt y)) = strsA (ys.map txt) := by unfold strsA; rw [List.map_map]; rfl
    rw [one_len, txt_sum, List.length_map] at hj
    have hj2 : (Txt.join " " (ys.map txt)).length ≤ sizeLine := by rw [sizeLine_eq]; omega
    rcases hx with rfl | ⟨p, rfl, hp⟩
    · walk_at "s"
      refine comp_id (fun y => .str (txt y)) trivial ys (fun y hy => ⟨_, rfl, fun R hR => str_elem rfl (ht y hy) hR⟩) fun q hq => ?_
      walk_at "s"
      exact ⟨ys.map txt, by rw [aupd_same, e], by rw [one_len, txt_sum, List.length_map]; omega, hj2, AH, Sub.new hq, hQ⟩
    · walk_at "s"
      refine ⟨ys, hp, ?_⟩
      refine comp_id (fun y => .str (txt y)) hp ys (fun y hy => ⟨_, rfl, fun R hR => str_elem rfl (ht y hy) hR⟩) fun q hq => ?_
      walk_at "s"
      exact ⟨ys.map txt, by rw [aupd_same, e], by rw [one_len, txt_sum, List.length_map]; omega, hj2, AH, Sub.new hq, hQ⟩

/-- the rights of a page: three truths -/
def rightsL (a b c : Bool) : List Nat := [(if a then 114 else 45), (if b then 119 else 45), (if c then 120 else 45)]
def rightsT (a b c : Bool) : Str := ⟨(rightsL a b c).toArray⟩
def sp_rights_text : ASp := fun xs AH Q _ => ∃ a b c : Bool, xs = [.tup [.bl a, .bl b, .bl c]] ∧ Q (.str (rightsT a b c)) AH
theorem sc_rights_text : FnScope ["page", "k"] ["page"] (defScope (top 21)) := ⟨rfl, rfl, rfl, by decide +kernel, rfl, by decide +kernel, by decide +kernel⟩
theorem ok_rights_text (T : Top P w K mg base) : DefOk P w K mg base CX0 1 (He.fAd K ("rights_text", none)) ["page"] sp_rights_text := by
  have sc := sc_rights_text
  refine T.d_rights_text.ok sc (fun _ _ _ _ _ _ us hl => match us, hl with | [_], _ => rfl) ?len (fun cdv A outer s H E hr => ⟨_, (ass_one (as_ret (ae_sm PySem.F.slot_str_join PySem.F.type_str_join am_join ae_str (al_cons (ae_lc1 (i := 1) rfl sc.nd (ai_range1 T.b_range (al_cons ae_int al_nil)) (blkOk_by (own := [("k", 1)]) (N := ["page", "k"]) (sc := defScope (top 21)) (by decide +kernel)) (fun _ _ _ _ _ => (pg_name (i := 1) sc.nd rfl (Or.inl rfl))) (fun _ _ _ _ _ => ats_nil) (fun _ _ _ _ _ => (ae_fg (ae_ix (ae_lst (al_cons ae_str (al_cons (ae_ix (ae_con T.c_RIGHT_SIGNS) (av 1)) al_nil))) (ae_callTy ac_int T.b_int (al_cons (ae_ix (av 0) (av 1)) al_nil)))))) al_nil)))), ?body⟩)
  case len => rintro _ _ _ _ ⟨_, _, _, rfl, _⟩; rfl
  case body =>
    rintro xs AH Q EA ⟨a, b, c, rfl, hQ⟩
    walk_at "s"
    refine ⟨by decide, by decide, ?_⟩
    walk_at "s"
    refine ⟨trivial, ?_⟩
    walk_at "s"
    intro q1 h1
    walk_at "s"
    refine ⟨_, .str ⟨#[if a then 114 else 45]⟩, .inl aupd_same, by cases a <;> rfl, AH, Sub.new h1, trivial, ?_⟩
    walk_at "s"
    intro q2 h2
    walk_at "s"
    refine ⟨_, .str ⟨#[if b then 119 else 45]⟩, .inl aupd_same, by cases b <;> rfl, AH, Sub.new h2, trivial, ?_⟩
    walk_at "s"
    intro q3 h3
    walk_at "s"
    refine ⟨_, .str ⟨#[if c then 120 else 45]⟩, .inl aupd_same, by cases c <;> rfl, AH, Sub.new h3, trivial, fun q hq => ?_⟩
    walk_at "s"
    have e : Txt.join (Str.ofString "") [⟨#[if a then 114 else 45]⟩, ⟨#[if b then 119 else 45]⟩, ⟨#[if c then 120 else 45]⟩] = rightsT a b c := by
      rw [TL.join_eq]
      cases a <;> cases b <;> cases c <;> decide +kernel
    refine ⟨[⟨#[if a then 114 else 45]⟩, ⟨#[if b then 119 else 45]⟩, ⟨#[if c then 120 else 45]⟩], aupd_same, by cases a <;> cases b <;> cases c <;> decide +kernel, by rw [e]; show 3 ≤ sizeLine; decide, AH, Sub.new hq, by rw [e]; exact hQ⟩

/-- a beginning as data -/
structure Beg where
  pages : List (Bool × Bool × Bool)
  cells : List Int
  boxes : List Int
  place : Int
def pageA (x : Bool × Bool × Bool) : AV := .tup [.bl x.1, .bl x.2.1, .bl x.2.2]
def Word (n : Int) : Prop := 0 ≤ n ∧ n ≤ 4095
structure BegOk (B : Beg) : Prop where
  one : 1 ≤ B.pages.length
  most : B.pages.length ≤ 8
  size : B.cells.length = 16 * B.pages.length
  cell : ∀ n ∈ B.cells, Word n
  four : B.boxes.length = 4
  box : ∀ n ∈ B.boxes, Word n
  here : Word B.place
def BegAt (AH : AHp) (x : AV) (B : Beg) : Prop := ∃ p c b, x = .tup [.ref p, .ref c, .ref b, .int B.place] ∧ AH p = some (.lst (B.pages.map pageA)) ∧ AH c = some (.lst (B.cells.map .int)) ∧ AH b = some (.lst (B.boxes.map .int))
/-- a row's words -/
def rowT (ws : List AV) : Str := Txt.join " " (ws.map txt)
def pageRow (B : Beg) (k : Nat) (g : Bool × Bool × Bool) : List AV := [.str "page", .str (rightsT g.1 g.2.1 g.2.2)] ++ ((B.cells.drop (16 * k)).take 16).map .int
def pageRows (B : Beg) : List (List AV) := B.pages.zipIdx.map fun x => pageRow B x.2 x.1
def begRows (B : Beg) : List Str := rowT ([.str "boxes"] ++ B.boxes.map .int) :: rowT [.str "place", .int B.place] :: (pageRows B).map rowT
def begText (B : Beg) : Str := Txt.join "" ((begRows B).map fun r => r ++ "\n")
theorem Word.ok {n : Int} (h : Word n) : TxtOk (.int n) := ⟨h.1, Int.lt_of_le_of_lt h.2 (by decide)⟩
theorem txt_le {y : AV} (h : match y with | .int n => Word n | .str s => s.length ≤ 60 | _ => False) : TxtOk y ∧ (txt y).length ≤ 60 := by
  cases y with
  | int n => exact ⟨Word.ok h, numT_len (Word.ok h).1 (Word.ok h).2⟩
  | str s => exact ⟨trivial, h⟩
  | _ => exact h.elim
theorem row_sum {ys : List AV} (h : ∀ y ∈ ys, (txt y).length ≤ 60) : (ys.map fun y => (txt y).length).sum ≤ ys.length * 60 := by
  induction ys with
  | nil => simp
  | cons y ys ih =>
    have h1 := h y List.mem_cons_self
    have h2 := ih fun z hz => h z (List.mem_cons_of_mem _ hz)
    simp only [List.map_cons, List.sum_cons, List.length_cons]
    omega
theorem sum_le_len {n : Nat} {ys : List Str} (h : ∀ y ∈ ys, y.length ≤ n) : (ys.map (·.length)).sum ≤ ys.length * n := by
  induction ys with
  | nil => simp
  | cons y ys ih =>
    have h1 := h y List.mem_cons_self
    have h2 := ih fun z hz => h z (List.mem_cons_of_mem _ hz)
    simp only [List.map_cons, List.sum_cons, List.length_cons]
    rw [Nat.add_mul]
    omega
theorem rowT_len {ys : List AV} (h : ∀ y ∈ ys, (txt y).length ≤ 60) (hl : ys.length ≤ 18) : (rowT ys).length ≤ 1200 := by
  have h1 := row_sum h
  have h2 := join_len " " (ys.map txt)
  rw [one_len, txt_sum, List.length_map] at h2
  unfold rowT
  omega
theorem pageRow_ok {B : Beg} (ok : BegOk B) (k : Nat) (g : Bool × Bool × Bool) : ∀ y ∈ pageRow B k g, TxtOk y ∧ (txt y).length ≤ 60 := by
  intro y hy
  rcases List.mem_append.mp hy with h | h
  · have h : y = .str "page" ∨ y = .str (rightsT g.1 g.2.1 g.2.2) := by simpa using h
    rcases h with rfl | rfl
    · exact ⟨trivial, by show ("page" : Str).length ≤ 60; decide +kernel⟩
    · exact ⟨trivial, by show 3 ≤ 60; decide⟩
  · obtain ⟨n, hn, rfl⟩ := List.mem_map.mp h
    exact txt_le (ok.cell n (List.mem_of_mem_drop (List.mem_of_mem_take hn)))
theorem pageRow_len (B : Beg) (k : Nat) (g : Bool × Bool × Bool) : (pageRow B k g).length ≤ 18 := by
  unfold pageRow
  simp
  omega
theorem boxRow_ok {B : Beg} (ok : BegOk B) : ∀ y ∈ ([.str "boxes"] ++ B.boxes.map .int : List AV), TxtOk y ∧ (txt y).length ≤ 60 := by
  intro y hy
  rcases List.mem_append.mp hy with h | h
  · have e : y = .str "boxes" := by simpa using h
    subst e
    exact ⟨trivial, by show ("boxes" : Str).length ≤ 60; decide +kernel⟩
  · obtain ⟨n, hn, rfl⟩ := List.mem_map.mp h
    exact txt_le (ok.box n hn)
theorem placeRow_ok {B : Beg} (ok : BegOk B) : ∀ y ∈ ([.str "place", .int B.place] : List AV), TxtOk y ∧ (txt y).length ≤ 60 := by
  intro y hy
  rcases List.mem_cons.mp hy with rfl | h
  · exact ⟨trivial, by show ("place" : Str).length ≤ 60; decide +kernel⟩
  · have e : y = .int B.place := by simpa using h
    subst e
    exact txt_le ok.here
theorem begRows_len {B : Beg} (ok : BegOk B) : ∀ r ∈ begRows B, r.length ≤ 1200 := by
  intro r hr
  unfold begRows at hr
  rcases List.mem_cons.mp hr with rfl | hr
  · exact rowT_len (fun y hy => (boxRow_ok ok y hy).2) (by simp [ok.four])
  · rcases List.mem_cons.mp hr with rfl | hr
    · exact rowT_len (fun y hy => (placeRow_ok ok y hy).2) (by simp)
    · obtain ⟨ys, hy, rfl⟩ := List.mem_map.mp hr
      obtain ⟨x, hx, rfl⟩ := List.mem_map.mp hy
      exact rowT_len (fun y hy => (pageRow_ok ok _ _ y hy).2) (pageRow_len _ _ _)
theorem begRows_many {B : Beg} (ok : BegOk B) : (begRows B).length ≤ 10 := by
  have := ok.most
  unfold begRows pageRows
  simp
  omega
def sp_beginning_text : ASp := fun xs AH Q _ => ∃ x B, xs = [x] ∧ BegAt AH x B ∧ BegOk B ∧ Q (.str (begText B)) AH
theorem sc_beginning_text : FnScope ["beginning", "pages", "cells", "boxes", "place", "rows", "k", "page", "row"] ["beginning"] (defScope (top 22)) := ⟨rfl, rfl, rfl, by decide +kernel, rfl, by decide +kernel, by decide +kernel⟩
theorem ok_beginning_text (T : Top P w K mg base) : DefOk P w K mg base CX0 2 (He.fAd K ("beginning_text", none)) ["beginning"] sp_beginning_text := by
  have sc := sc_beginning_text
  refine T.d_beginning_text.ok sc (fun _ _ _ _ _ _ us hl => match us, hl with | [_], _ => rfl) ?len (fun cdv A outer s H E hr => ⟨_, (ass_cons (as_asg (av 0) (ag_tup (n := 4) rfl (ags_cons (ag_name (i := 1) sc.nd) (ags_cons (ag_name (i := 2) sc.nd) (ags_cons (ag_name (i := 3) sc.nd) (ags_cons (ag_name (i := 4) sc.nd) ags_nil))))))
  (ass_cons (as_set (i := 5) sc.nd (ae_lst (al_cons (ae_call (ok_joined T) T.m_joined (hr.mono (by decide)) (al_cons (ae_op ao_add (ae_lst (al_cons ae_str al_nil)) (av 3)) al_nil)) (al_cons (ae_call (ok_joined T) T.m_joined (hr.mono (by decide)) (al_cons (ae_lst (al_cons ae_str (al_cons (av 4) al_nil))) al_nil)) al_nil))))
  (ass_cons (as_for PassesOwn.never rfl (ai_enum T.b_enumerate (al_cons (av 1) al_nil)) (ag_tup (n := 2) rfl (ags_cons (ag_name (i := 6) sc.nd) (ags_cons (ag_name (i := 7) sc.nd) ags_nil)))
  (ass_fg (ass_one (as_expr (ae_lm PySem.F.slot_list_append PySem.F.type_list_append am_append (av 5) (al_cons (ae_call (ok_joined T) T.m_joined (hr.mono (by decide)) (al_cons (ae_op ao_add (ae_lst (al_cons ae_str (al_cons (ae_call (ok_rights_text T) T.m_rights_text (hr.mono (by decide)) (al_cons (av 7) al_nil)) al_nil))) (ae_slice (av 2) (ao_some (ae_op ao_mul (ae_con T.c_PAGE_CELLS) (av 6))) (ao_some (ae_op ao_add (ae_op ao_mul (ae_con T.c_PAGE_CELLS) (av 6)) (ae_con T.c_PAGE_CELLS))))) al_nil)) al_nil))))))
  (ass_one (as_ret (ae_sm PySem.F.slot_str_join PySem.F.type_str_join am_join ae_str (al_cons (ae_lc1 (i := 8) rfl sc.nd (ai_any (av 5)) (blkOk_by (own := [("row", 8)]) (N := ["beginning", "pages", "cells", "boxes", "place", "rows", "k", "page", "row"]) (sc := defScope (top 22)) (by decide +kernel)) (fun _ _ _ _ _ => (pg_name (i := 8) sc.nd rfl (Or.inl rfl))) (fun _ _ _ _ _ => ats_nil) (fun _ _ _ _ _ => (ae_fg (ae_op ao_add (av 8) ae_str)))) al_nil))))))), ?body⟩)
  case len => rintro _ _ _ _ ⟨_, _, rfl, _⟩; rfl
  case body =>
    rintro xs AH Q EA ⟨_, B, rfl, ⟨p, c, b, rfl, hp, hc, hb⟩, ok, hQ⟩
    walk_at "s"
    refine ⟨rfl, ?_⟩
    walk_at "s"
    have hbox := boxRow_ok ok
    have hplace := placeRow_ok ok
    intro q1 h1
    walk_at "s"
    refine ⟨_, _, aupd_same, by walk_at "h", by simp [ok.four]; decide, fun q2 h2 => ?_⟩
    rw [aupd_eq_none] at h2
    obtain ⟨n21, h2⟩ := h2
    walk_at "s"
    refine ⟨_, _, rfl, .inr ⟨q2, rfl, .inl aupd_same⟩, fun y hy => (hbox y hy).1, ?_, ?_⟩
    · have := row_sum fun y hy => (hbox y hy).2
      simp only [List.length_append, List.length_map, List.length_cons, List.length_nil, ok.four] at this ⊢
      omega
    walk_at "s"
    intro q3 h3
    rw [aupd_eq_none, aupd_eq_none] at h3
    obtain ⟨n32, n31, h3⟩ := h3
    walk_at "s"
    refine ⟨_, _, rfl, .inr ⟨q3, rfl, .inl aupd_same⟩, fun y hy => (hplace y hy).1, ?_, ?_⟩
    · have := row_sum fun y hy => (hplace y hy).2
      simp only [List.length_cons, List.length_nil] at this ⊢
      omega
    walk_at "s"
    have sub : Sub AH (aupd (aupd (aupd AH q1 (AO.lst [AV.str (Str.ofString "boxes")])) q2 (AO.lst ([AV.str (Str.ofString "boxes")] ++ List.map AV.int B.boxes))) q3 (AO.lst [AV.str (Str.ofString "place"), AV.int B.place])) :=
      (Sub.new h1).trans ((Sub.new (aupd_eq_none.mpr ⟨n21, h2⟩)).trans (Sub.new (aupd_eq_none.mpr ⟨n32, aupd_eq_none.mpr ⟨n31, h3⟩⟩)))
    generalize aupd (aupd (aupd AH q1 (AO.lst [AV.str (Str.ofString "boxes")])) q2 (AO.lst ([AV.str (Str.ofString "boxes")] ++ List.map AV.int B.boxes))) q3 (AO.lst [AV.str (Str.ofString "place"), AV.int B.place]) = A3 at sub
    clear h1 h2 h3 n21 n31 n32
    have hp3 := sub _ _ hp
    have hc3 := sub _ _ hc
    intro q4 h4
    walk_at "s"
    refine ⟨_, .inl (by walk_at "h"), ?_⟩
    rw [enumItems_map]
    refine loop_fw _ B.pages.zipIdx (fun pre σ AH' => aupd A3 q4 (.lst (strsA (rowT ([.str "boxes"] ++ B.boxes.map .int) :: rowT [.str "place", .int B.place] :: pre.map fun x => rowT (pageRow B x.2 x.1)))) = AH' ∧ ∃ a6 a7, σ = [some (.tup [.ref p, .ref c, .ref b, .int B.place]), some (.ref p), some (.ref c), some (.ref b), some (.int B.place), some (.ref q4), a6, a7, none]) ?_ ?_ _ _ ⟨rfl, none, none, rfl⟩
    · rintro σ _ ⟨rfl, a6, a7, rfl⟩
      refine ⟨.inl (by walk_at "h"), ?_⟩
      walk_at "s"
      refine ⟨_, .inl aupd_same, ?_⟩
      have hrows : (rowT ([AV.str "boxes"] ++ List.map AV.int B.boxes) :: rowT [AV.str "place", AV.int B.place] :: List.map (fun x => rowT (pageRow B x.2 x.1)) B.pages.zipIdx) = begRows B := by
        unfold begRows pageRows
        rw [List.map_map]
        rfl
      rw [show (rowT ([AV.str (Str.ofString "boxes")] ++ List.map AV.int B.boxes) :: rowT [AV.str (Str.ofString "place"), AV.int B.place] :: List.map (fun x => rowT (pageRow B x.2 x.1)) B.pages.zipIdx) = begRows B from hrows]
      have hlr : ∀ r ∈ begRows B, r.length ≤ 1200 := begRows_len ok
      refine comp_map (fun r : Str => AV.str r) (fun r => AV.str (r ++ "\n")) (.inl aupd_same) (begRows B) [] (fun r hr => ⟨_, rfl, fun R hR => ?_⟩) fun q hq => ?_
      · walk_at "s"
        have := hlr r hr
        refine ⟨?_, Wk.refl hR⟩
        have e : (Str.ofString "\n").length = 1 := by decide +kernel
        rw [e, sizeLine_eq]
        omega
      · walk_at "s"
        have e0 : (Str.ofString "").length = 0 := by decide +kernel
        have e1 : ("\n" : Str).length = 1 := by decide +kernel
        have hsum : (((begRows B).map fun r => r ++ ("\n" : Str)).map (·.length)).sum ≤ 10 * 1201 := by
          refine Nat.le_trans (sum_le_len (n := 1201) fun r hr => ?_) ?_
          · obtain ⟨r', hr', rfl⟩ := List.mem_map.mp hr
            have := hlr r' hr'
            rw [str_len_append, e1]; omega
          · rw [List.length_map]
            have := begRows_many ok
            omega
        have hj := join_len "" ((begRows B).map fun r => r ++ ("\n" : Str))
        rw [show ("" : Str).length = 0 from e0] at hj
        refine ⟨(begRows B).map fun r => r ++ ("\n" : Str), by rw [aupd_same]; unfold strsA; rw [List.map_map]; rfl, by rw [e0]; omega, by rw [sizeLine_eq]; exact Nat.le_trans hj (by omega), AH, ?_, hQ⟩
        exact sub.trans ((Sub.new h4).trans (Sub.new hq))
    · rintro N B' Rt hB hR pre x l e ih σ _ ⟨rfl, a6, a7, rfl⟩
      refine ⟨.inl (by walk_at "h"), ?_⟩
      walk_at "s"
      refine ⟨rfl, ?_⟩
      walk_at "s"
      refine ⟨⟨_, aupd_same⟩, ?_⟩
      walk_at "s"
      refine ⟨x.1.1, x.1.2.1, x.1.2.2, rfl, ?_⟩
      walk_at "s"
      intro r1 k1
      walk_at "s"
      refine ⟨.inl (by constructor <;> decide), ?_⟩
      walk_at "s"
      refine ⟨.inl (by constructor <;> decide), ?_⟩
      walk_at "s"
      have sb1 := fun o => (Sub.new h4).trans (Sub.new (o := o) k1)
      refine ⟨_, .inl (sb1 _ _ _ hc3), fun r2 k2 => ?_⟩
      rw [cutA_nat (a := 16 * x.2) (b := 16 * x.2 + 16) (by push_cast; rfl) (by push_cast; rfl)]
      have e1 : ((B.cells.map AV.int).drop (16 * x.2)).take (16 * x.2 + 16 - 16 * x.2) = ((B.cells.drop (16 * x.2)).take 16).map AV.int := by
        rw [List.map_take, List.map_drop, Nat.add_sub_cancel_left]
      rw [e1]
      have sb2 := fun o => (sb1 _).trans (Sub.new (o := o) k2)
      walk_at "s"
      rw [aupd_eq_none] at k2
      refine ⟨_, _, Sub.new (aupd_eq_none.mpr k2) _ _ aupd_same, aupd_same, ?_, fun r3 k3 => ?_⟩
      · simp; have : sizeLine = 16777216 := sizeLine_eq; omega
      have sb3 := fun o => (sb2 _).trans (Sub.new (o := o) k3)
      walk_at "s"
      have hrow := pageRow_ok ok x.2 x.1
      have hrl := pageRow_len B x.2 x.1
      refine ⟨_, _, rfl, .inr ⟨r3, rfl, .inl aupd_same⟩, fun y hy => (hrow y hy).1, ?_, ?_⟩
      · have := row_sum fun y hy => (hrow y hy).2
        show ((pageRow B x.2 x.1).map fun y => (txt y).length).sum + (pageRow B x.2 x.1).length ≤ _
        omega
      walk_at "s"
      have hlen : (B.pages.zipIdx).length = B.pages.length := List.length_zipIdx
      have hpre : pre.length < 8 := by rw [e] at hlen; simp at hlen; have := ok.most; omega
      refine ⟨_, ((Sub.new k1).trans ((Sub.new (aupd_eq_none.mpr k2)).trans (Sub.new k3))) _ _ aupd_same, ?_, _, Sub.mono (sb3 _) q4 _, ih _ _ ⟨?_, _, _, rfl⟩⟩
      · have : sizeLine = 16777216 := sizeLine_eq
        simp [strsA]
        omega
      · congr 2
        unfold strsA
        simp only [List.map_cons, List.map_append, List.map_nil, List.cons_append]
        rfl

/-- the sign of a right, c if it is there -/
def sg (a : Bool) (c : Nat) : Nat := if a then c else 45
theorem sg_dash {a : Bool} {c : Nat} (h : c ≠ 45) : decide ((⟨#[if a = true then c else 45]⟩ : Str) = Str.ofString "-") = !a := by
  rw [show Str.ofString "-" = ⟨#[45]⟩ by decide +kernel, sign_eq]
  cases a
  · rfl
  · simp [h]
theorem sg_is {a : Bool} {c : Nat} (ha : a = true) : decide ((⟨#[if a = true then c else 45]⟩ : Str) = ⟨#[c]⟩) = true := by
  rw [sign_eq, ha]; simp
def sp_rights_in : ASp := fun xs AH Q _ => ∃ (a b c : Bool) (at_ : Int), xs = [.str (rightsT a b c), .int at_] ∧ Q (.tup [.bl a, .bl b, .bl c]) AH
theorem sc_rights_in : FnScope ["word", "at", "k", "sign"] ["word", "at"] (defScope (top 23)) := ⟨rfl, rfl, rfl, by decide +kernel, rfl, by decide +kernel, by decide +kernel⟩
theorem ok_rights_in (T : Top P w K mg base) : DefOk P w K mg base CX0 3 (He.fAd K ("rights_in", none)) ["word", "at"] sp_rights_in := by
  have sc := sc_rights_in
  refine T.d_rights_in.ok sc (fun _ _ _ _ _ _ us hl => match us, hl with | [_, _], _ => rfl) ?len (fun cdv A outer s H E hr => ⟨_, (ass_cons (as_if (at_cmp (ao_ne (hu64 hr)) (ae_callB ac_len T.b_len (al_cons (av 0) al_nil)) ae_int)
  (ass_one as_never)
  ass_nil)
  (ass_cons (as_for PassesOwn.never rfl (ai_range1 T.b_range (al_cons ae_int al_nil)) (ag_name (i := 2) sc.nd)
  (ass_fg (ass_one (as_if (PW.pt (aw_and (at_cmp (ao_ne (hu64 hr)) (ae_ix (av 0) (av 2)) ae_str) (aw_and1 (at_cmp (ao_ne (hu64 hr)) (ae_ix (av 0) (av 2)) (ae_ix (ae_con T.c_RIGHT_SIGNS) (av 2))))))
  (ass_one as_never)
  ass_nil))))
  (ass_one (as_ret (ae_callTy ac_tuple T.b_tuple (al_cons (ae_lc1 (i := 3) rfl sc.nd (ai_any (av 0)) (blkOk_by (own := [("sign", 3)]) (N := ["word", "at", "k", "sign"]) (sc := defScope (top 23)) (by decide +kernel)) (fun _ _ _ _ _ => (pg_name (i := 3) sc.nd rfl (Or.inl rfl))) (fun _ _ _ _ _ => ats_nil) (fun _ _ _ _ _ => (ae_fg (ae_cmp (ao_ne (hu64 hr)) (av 3) ae_str)))) al_nil)))))), ?body⟩)
  case len => rintro _ _ _ _ ⟨_, _, _, _, rfl, _⟩; rfl
  case body =>
    rintro xs AH Q EA ⟨a, b, c, at_, rfl, hQ⟩
    walk_at "s"
    refine ⟨by decide, by decide, ?_⟩
    refine loop_fw (fun i : Nat => AV.int (0 + ((i : Nat) : Int))) [0, 1, 2] (fun _ σ AH' => AH = AH' ∧ ∃ a2, σ = [some (.str (rightsT a b c)), some (.int at_), a2, none]) ?_ ?_ _ _ ⟨rfl, none, rfl⟩
    · rintro σ _ ⟨rfl, a2, rfl⟩
      refine ⟨trivial, ?_⟩
      walk_at "s"
      refine ⟨trivial, ?_⟩
      walk_at "s"
      rw [sg_dash (by decide), Bool.not_not]
      refine ⟨AH, Sub.refl, trivial, ?_⟩
      walk_at "s"
      rw [sg_dash (by decide), Bool.not_not]
      refine ⟨AH, Sub.refl, trivial, ?_⟩
      walk_at "s"
      rw [sg_dash (by decide), Bool.not_not]
      refine ⟨AH, Sub.refl, trivial, fun q hq => ?_⟩
      walk_at "s"
      exact ⟨_, .inl aupd_same, AH, Sub.new hq, hQ⟩
    · rintro N B Rt hB hR pre x l e ih σ _ ⟨rfl, a2, rfl⟩
      refine ⟨trivial, ?_⟩
      have hx : x = 0 ∨ x = 1 ∨ x = 2 := by
        have : x ∈ [0, 1, 2] := by rw [e]; simp
        simpa using this
      rcases hx with rfl | rfl | rfl
      all_goals walk_at "s"
      all_goals rw [sg_dash (by decide)]
      · cases a
        · exact WkS.refl (ih _ _ ⟨rfl, _, rfl⟩)
        · walk_at "s"
          exact WkS.refl (ih _ _ ⟨rfl, _, rfl⟩)
      · cases b
        · exact WkS.refl (ih _ _ ⟨rfl, _, rfl⟩)
        · walk_at "s"
          exact WkS.refl (ih _ _ ⟨rfl, _, rfl⟩)
      · cases c
        · exact WkS.refl (ih _ _ ⟨rfl, _, rfl⟩)
        · walk_at "s"
          exact WkS.refl (ih _ _ ⟨rfl, _, rfl⟩)

def sp_numbers_in : ASp := fun xs AH Q _ => ∃ (p : Addr) (ws : List Str) (ns : List Int) (at_ : Int), xs = [.ref p, .int ns.length, .int at_] ∧ LstAt AH p (strsA ws) ∧ ws.map numberIn = ns.map some ∧ ∀ q, AH q = none → Q (.ref q) (aupd AH q (.lst (ns.map .int)))
theorem sc_numbers_in : FnScope ["words", "many", "at", "numbers", "word"] ["words", "many", "at"] (defScope (top 19)) := ⟨rfl, rfl, rfl, by decide +kernel, rfl, by decide +kernel, by decide +kernel⟩
theorem ok_numbers_in (T : Top P w K mg base) : DefOk P w K mg base CX0 3 (He.fAd K ("numbers_in", none)) ["words", "many", "at"] sp_numbers_in := by
  have sc := sc_numbers_in
  refine T.d_numbers_in.ok sc (fun _ _ _ _ _ _ us hl => match us, hl with | [_, _, _], _ => rfl) ?len (fun cdv A outer s H E hr => ⟨_, (ass_cons (as_if (at_cmp (ao_ne (hu64 hr)) (ae_callB ac_len T.b_len (al_cons (av 0) al_nil)) (av 1))
  (ass_one as_never)
  ass_nil)
  (ass_cons (as_setLc1 (i := 4) rfl sc.nd (ai_any (av 0)) (blkOk_by (own := [("word", 4)]) (N := ["words", "many", "at", "numbers", "word"]) (sc := defScope (top 19)) (by decide +kernel)) (fun _ _ _ _ _ => (pg_name (i := 4) sc.nd rfl (Or.inl rfl))) (fun _ _ _ _ _ => ats_nil) (fun _ _ _ _ _ => (ae_fg (ae_call (ok_number_in T) T.m_number_in (hr.mono (by decide)) (al_cons (av 4) al_nil)))) (sw_true rfl rfl rfl (by decide +kernel)) (n := 3))
  (ass_cons (as_if (at_cmp (ao_in (hu65 hr)) ae_non (av 3))
  (ass_one as_never)
  ass_nil)
  (ass_one (as_ret (av 3)))))), ?body⟩)
  case len => rintro _ _ _ _ ⟨_, _, _, _, rfl, _⟩; rfl
  case body =>
    rintro xs AH Q EA ⟨p, ws, ns, at_, rfl, hp, he, hQ⟩
    have hl : ws.length = ns.length := by have := congrArg List.length he; simpa using this
    walk_at "s"
    refine ⟨_, hp, ?_⟩
    walk_at "s"
    rw [show decide (((strsA ws).length : Int) = (ns.length : Int)) = true from decide_eq_true (by unfold strsA; simp [hl])]
    walk_at "s"
    refine ⟨_, hp, ?_⟩
    refine comp_map (fun w : Str => AV.str w) (fun w => optInt (numberIn w)) hp ws [] (fun w hw => ⟨_, rfl, fun R hR => ?_⟩) fun q hq => ?_
    · walk_at "s"
      exact ⟨_, rfl, Wk.refl hR⟩
    · have e : ws.map (fun w => optInt (numberIn w)) = ns.map AV.int := by
        have : ws.map (fun w => optInt (numberIn w)) = (ws.map numberIn).map optInt := by rw [List.map_map]; rfl
        rw [this, he, List.map_map]
        rfl
      walk_at "s"
      rw [List.nil_append, e]
      refine ⟨_, .inl aupd_same, .inl ⟨rfl, ?_, ?_⟩⟩
      · rw [List.all_map]
        exact List.all_eq_true.mpr fun _ _ => rfl
      · walk_at "s"
        have e2 : ((ns.map AV.int).any fun y => eqF y .non) = false := by
          rw [List.any_map]
          exact List.any_eq_false.mpr fun _ _ => by simp [eqF]
        rw [e2]
        exact Wk.refl (hQ q hq)

def sp_ended_rows : ASp := fun xs AH Q _ => ∃ (z : Str) (rs : List Str), xs = [.str z] ∧ z = Txt.join "\n" (rs ++ [Str.empty]) ∧ z.length ≤ 100000 ∧ (∀ r ∈ rs, 10 ∉ r.cps.toList) ∧ ∀ q, AH q = none → Q (.tup [.ref q, .bl false]) (aupd AH q (.lst (strsA rs)))
theorem sc_ended_rows : FnScope ["text", "rows"] ["text"] (defScope (top 26)) := ⟨rfl, rfl, rfl, by decide +kernel, rfl, by decide +kernel, by decide +kernel⟩
theorem ok_ended_rows (T : Top P w K mg base) : DefOk P w K mg base CX0 1 (He.fAd K ("ended_rows", none)) ["text"] sp_ended_rows := by
  have sc := sc_ended_rows
  refine T.d_ended_rows.ok sc (fun _ _ _ _ _ _ us hl => match us, hl with | [_], _ => rfl) ?len (fun cdv A outer s H E hr => ⟨_, (ass_cons (as_set (i := 1) sc.nd (ae_sm PySem.F.slot_str_split PySem.F.type_str_split am_split (av 0) (al_cons ae_str al_nil)))
  (ass_one (as_ret (ae_tup (al_cons (ae_slice (av 1) ao_none (ao_some (ae_neg ae_int))) (al_cons (ae_cmp (ao_ne (hu64 hr)) (ae_ix (av 1) (ae_neg ae_int)) ae_str) al_nil)))))), ?body⟩)
  case len => rintro _ _ _ _ ⟨_, _, rfl, _⟩; rfl
  case body =>
    rintro xs AH Q EA ⟨z, rs, rfl, hz, hl, hf, hQ⟩
    have hs : Txt.split z "\n" = rs ++ [Str.empty] := by
      rw [hz]
      refine TL.split_join (s := 10) (S := []) (by decide +kernel) (by decide +kernel) (by simp) fun r hr => ?_
      rcases List.mem_append.mp hr with h | h
      · exact hf r h
      · have : r = Str.empty := by simpa using h
        subst this
        exact fun h => nomatch h
    walk_at "s"
    refine ⟨by decide +kernel, by decide +kernel, by rw [sizeLine_eq]; omega, fun q hq => ?_⟩
    rw [hs]
    walk_at "s"
    refine ⟨_, .inl aupd_same, fun q2 hq2 => ?_⟩
    rw [cutA_but1]
    walk_at "s"
    refine ⟨_, .str Str.empty, .inl (Sub.new hq2 _ _ aupd_same), ?_, ?_⟩
    · unfold strsA
      rw [List.map_append]
      exact at_last
    walk_at "s"
    have e : (strsA (rs ++ [Str.empty])).dropLast = strsA rs := by
      unfold strsA
      rw [List.map_append]
      exact List.dropLast_concat
    rw [e]
    exact ⟨aupd AH q2 (.lst (strsA rs)), Sub.mono (Sub.new hq) _ _, hQ q2 (aupd_none hq2).2⟩

def sp_check_pages : ASp := fun xs AH Q _ => ∃ p ys, xs = [.ref p] ∧ LstAt AH p ys ∧ 1 ≤ ys.length ∧ ys.length ≤ 8 ∧ Q .non AH
theorem sc_check_pages : FnScope ["pages"] ["pages"] (defScope (top 10)) := ⟨rfl, rfl, rfl, by decide +kernel, rfl, by decide +kernel, by decide +kernel⟩
theorem ok_check_pages (T : Top P w K mg base) : DefOk P w K mg base CX0 1 (He.fAd K ("check_pages", none)) ["pages"] sp_check_pages := by
  have sc := sc_check_pages
  refine T.d_check_pages.ok sc (fun _ _ _ _ _ _ us hl => match us, hl with | [_], _ => rfl) ?len (fun cdv A outer s H E hr => ⟨_, (ass_one (as_if (PW.pt (aw_or (at_cmp ao_lt (ae_callB ac_len T.b_len (al_cons (av 0) al_nil)) ae_int) (aw_or1 (at_cmp ao_gt (ae_callB ac_len T.b_len (al_cons (av 0) al_nil)) (ae_con T.c_MOST_PAGES)))))
  (ass_one as_never)
  ass_nil)), ?body⟩)
  case len => rintro _ _ _ _ ⟨_, _, rfl, _⟩; rfl
  case body =>
    rintro xs AH Q EA ⟨p, ys, rfl, hp, h1, h2, hQ⟩
    walk_at "s"
    refine ⟨_, hp, ?_⟩
    walk_at "s"
    rw [show decide ((ys.length : Int) < 1) = false from decide_eq_false (by omega)]
    walk_at "s"
    refine ⟨_, hp, ?_⟩
    walk_at "s"
    rw [show decide ((8 : Int) < (ys.length : Int)) = false from decide_eq_false (by omega)]
    exact Wk.refl hQ

def wordB (n : Int) : Bool := decide (0 ≤ n) && decide (n ≤ 4095)
def sp_are_words : ASp := fun xs AH Q _ => ∃ (p : Addr) (ns : List Int) (m : Int), xs = [.ref p, .int m] ∧ LstAt AH p (ns.map .int) ∧ Q (.bl (decide ((ns.length : Int) = m) && ns.all wordB)) AH
theorem sc_are_words : FnScope ["numbers", "many", "number"] ["numbers", "many"] (defScope (top 11)) := ⟨rfl, rfl, rfl, by decide +kernel, rfl, by decide +kernel, by decide +kernel⟩
theorem ok_are_words (T : Top P w K mg base) : DefOk P w K mg base CX0 1 (He.fAd K ("are_words", none)) ["numbers", "many"] sp_are_words := by
  have sc := sc_are_words
  refine T.d_are_words.ok sc (fun _ _ _ _ _ _ us hl => match us, hl with | [_, _], _ => rfl) ?len (fun cdv A outer s H E hr => ⟨_, (ass_cons (as_if (at_cmp (ao_ne (hu64 hr)) (ae_callB ac_len T.b_len (al_cons (av 0) al_nil)) (av 1))
  (ass_one (as_ret ae_bl))
  ass_nil)
  (ass_one (as_ret (ae_callB ac_all T.b_all (al_cons (ae_lc1 (i := 2) rfl sc.nd (ai_any (av 0)) (blkOk_by (own := [("number", 2)]) (N := ["numbers", "many", "number"]) (sc := defScope (top 11)) (by decide +kernel)) (fun _ _ _ _ _ => (pg_name (i := 2) sc.nd rfl (Or.inl rfl))) (fun _ _ _ _ _ => ats_nil) (fun _ _ _ _ _ => (ae_fg (ae_chain ao_le ao_le ae_int (av 2) (ae_con T.c_GREATEST_WORD))))) al_nil))))), ?body⟩)
  case len => rintro _ _ _ _ ⟨_, _, _, rfl, _⟩; rfl
  case body =>
    rintro xs AH Q EA ⟨p, ns, m, rfl, hp, hQ⟩
    walk_at "s"
    refine ⟨_, hp, ?_⟩
    walk_at "s"
    rw [List.length_map]
    cases hm : decide ((ns.length : Int) = m) with
    | false =>
      rw [hm] at hQ
      exact Wk.refl hQ
    | true =>
      rw [hm] at hQ
      walk_at "s"
      refine ⟨_, hp, ?_⟩
      refine comp_map (fun n : Int => AV.int n) (fun n => .bl (wordB n)) hp ns [] (fun n hn => ⟨_, rfl, fun R hR => ?_⟩) fun q hq => ?_
      · walk_at "s"
        unfold wordB at hR
        dsimp only
        cases h0 : decide (0 ≤ n) with
        | false => rw [h0] at hR; exact Wk.refl hR
        | true => rw [h0] at hR; exact Wk.refl hR
      · walk_at "s"
        refine ⟨ns.map wordB, .inl (by rw [aupd_same, List.map_map]; rfl), AH, Sub.new hq, ?_⟩
        have e : (ns.map wordB).all id = ns.all wordB := by rw [List.all_map]; rfl
        rw [e]
        exact hQ

theorem wordB_of {ns : List Int} (h : ∀ n ∈ ns, Word n) : ns.all wordB = true := List.all_eq_true.mpr fun n hn => by
  obtain ⟨h1, h2⟩ := h n hn
  simp [wordB, h1, h2]
def sp_check_state : ASp := fun xs AH Q _ => ∃ (p c b : Addr) (ys : List AV) (B : Beg), xs = [.ref p, .ref c, .ref b, .int B.place] ∧ LstAt AH p ys ∧ ys.length = B.pages.length ∧ LstAt AH c (B.cells.map .int) ∧ LstAt AH b (B.boxes.map .int) ∧ BegOk B ∧ Q .non AH
theorem sc_check_state : FnScope ["pages", "cells", "boxes", "place"] ["pages", "cells", "boxes", "place"] (defScope (top 12)) := ⟨rfl, rfl, rfl, by decide +kernel, rfl, by decide +kernel, by decide +kernel⟩
theorem ok_check_state (T : Top P w K mg base) : DefOk P w K mg base CX0 2 (He.fAd K ("check_state", none)) ["pages", "cells", "boxes", "place"] sp_check_state := by
  have sc := sc_check_state
  refine T.d_check_state.ok sc (fun _ _ _ _ _ _ us hl => match us, hl with | [_, _, _, _], _ => rfl) ?len (fun cdv A outer s H E hr => ⟨_, (ass_cons (as_expr (ae_call (ok_check_pages T) T.m_check_pages (hr.mono (by decide)) (al_cons (av 0) al_nil)))
  (ass_cons (as_if (at_not (at_val (ae_call (ok_are_words T) T.m_are_words (hr.mono (by decide)) (al_cons (av 1) (al_cons (ae_op ao_mul (ae_con T.c_CELLS_OF_A_PAGE) (ae_callB ac_len T.b_len (al_cons (av 0) al_nil))) al_nil)))))
  (ass_one as_never)
  ass_nil)
  (ass_one (as_if (PW.pt (aw_or (at_not (at_val (ae_call (ok_are_words T) T.m_are_words (hr.mono (by decide)) (al_cons (av 2) (al_cons (ae_con T.c_BOXES) al_nil))))) (aw_or1 (at_not (at_val (ae_call (ok_are_words T) T.m_are_words (hr.mono (by decide)) (al_cons (ae_lst (al_cons (av 3) al_nil)) (al_cons ae_int al_nil))))))))
  (ass_one as_never)
  ass_nil)))), ?body⟩)
  case len => rintro _ _ _ _ ⟨_, _, _, _, _, rfl, _⟩; rfl
  case body =>
    rintro xs AH Q EA ⟨p, c, b, ys, B, rfl, hp, hl, hc, hb, ok, hQ⟩
    walk_at "s"
    refine ⟨p, ys, rfl, hp, by rw [hl]; exact ok.one, by rw [hl]; exact ok.most, ?_⟩
    walk_at "s"
    refine ⟨_, hp, ?_⟩
    walk_at "s"
    refine ⟨.inl (by constructor <;> decide), ?_⟩
    walk_at "s"
    refine ⟨c, B.cells, _, rfl, hc, ?_⟩
    rw [wordB_of ok.cell, hl, ok.size, show decide (((16 * B.pages.length : Nat) : Int) = 16 * (B.pages.length : Int)) = true from decide_eq_true (by push_cast; rfl)]
    walk_at "s"
    refine ⟨b, B.boxes, _, rfl, hb, ?_⟩
    rw [wordB_of ok.box, ok.four]
    walk_at "s"
    intro q hq
    walk_at "s"
    refine ⟨q, [B.place], _, rfl, .inl aupd_same, ?_⟩
    have e : [B.place].all wordB = true := wordB_of fun n hn => by
      have : n = B.place := by simpa using hn
      subst this
      exact ok.here
    rw [e]
    exact ⟨AH, Sub.new hq, hQ⟩

/-- a word's text has no blank and no line's end -/
def Free (ws : List AV) : Prop := ∀ y ∈ ws, 32 ∉ (txt y).cps.toList ∧ 10 ∉ (txt y).cps.toList
theorem Free.int {n : Int} (h : Word n) : 32 ∉ (txt (.int n)).cps.toList ∧ 10 ∉ (txt (.int n)).cps.toList := ⟨numT_free h.1 (.inl (by decide)), numT_free h.1 (.inl (by decide))⟩
theorem row_split {ws : List AV} (hne : ws ≠ []) (h : Free ws) : Txt.split (rowT ws) " " = ws.map txt := by
  refine TL.split_join (s := 32) (S := []) (by decide +kernel) (by decide +kernel) (by simpa using hne) fun p hp => ?_
  obtain ⟨y, hy, rfl⟩ := List.mem_map.mp hp
  exact (h y hy).1
theorem nums_in {ns : List Int} (h : ∀ n ∈ ns, Word n) : ((ns.map AV.int).map txt).map numberIn = ns.map some := by
  rw [List.map_map, List.map_map]
  refine List.map_congr_left fun n hn => ?_
  have := Word.ok (h n hn)
  exact numberIn_of this.1 this.2
def sp_named_read : ASp := fun xs AH Q _ => ∃ (name : Str) (ns : List Int) (at_ : Int), xs = [.str (rowT ([.str name] ++ ns.map .int)), .str name, .int ns.length, .int at_] ∧ (rowT ([.str name] ++ ns.map .int)).length ≤ 1200 ∧ 32 ∉ name.cps.toList ∧ 10 ∉ name.cps.toList ∧ (∀ n ∈ ns, Word n) ∧ ∀ q, AH q = none → Q (.ref q) (aupd AH q (.lst (ns.map .int)))
theorem sc_named_read : FnScope ["row", "name", "many", "at", "words"] ["row", "name", "many", "at"] (defScope (top 25)) := ⟨rfl, rfl, rfl, by decide +kernel, rfl, by decide +kernel, by decide +kernel⟩
theorem ok_named_read (T : Top P w K mg base) : DefOk P w K mg base CX0 4 (He.fAd K ("named_read", none)) ["row", "name", "many", "at"] sp_named_read := by
  have sc := sc_named_read
  refine T.d_named_read.ok sc (fun _ _ _ _ _ _ us hl => match us, hl with | [_, _, _, _], _ => rfl) ?len (fun cdv A outer s H E hr => ⟨_, (ass_cons (as_set (i := 4) sc.nd (ae_sm PySem.F.slot_str_split PySem.F.type_str_split am_split (av 0) (al_cons ae_str al_nil)))
  (ass_cons (as_if (at_cmp (ao_ne (hu64 hr)) (ae_ix (av 4) ae_int) (av 1))
  (ass_one as_never)
  ass_nil)
  (ass_one (as_ret (ae_call (ok_numbers_in T) T.m_numbers_in (hr.mono (by decide)) (al_cons (ae_slice (av 4) (ao_some ae_int) ao_none) (al_cons (av 2) (al_cons (av 3) al_nil)))))))), ?body⟩)
  case len => rintro _ _ _ _ ⟨_, _, _, rfl, _⟩; rfl
  case body =>
    rintro xs AH Q EA ⟨name, ns, at_, rfl, hl, f1, f2, hw, hQ⟩
    have hfree : Free ([.str name] ++ ns.map .int) := by
      intro y hy
      rcases List.mem_append.mp hy with h | h
      · have : y = .str name := by simpa using h
        subst this
        exact ⟨f1, f2⟩
      · obtain ⟨n, hn, rfl⟩ := List.mem_map.mp h
        exact Free.int (hw n hn)
    walk_at "s"
    refine ⟨by decide +kernel, by decide +kernel, by rw [sizeLine_eq]; omega, fun q hq => ?_⟩
    rw [show Txt.split (rowT ([.str name] ++ ns.map .int)) (Str.ofString " ") = _ from row_split (by simp) hfree]
    walk_at "s"
    refine ⟨_, .str name, .inl aupd_same, rfl, ?_⟩
    walk_at "s"
    rw [show decide (name = name) = true from decide_eq_true rfl]
    walk_at "s"
    refine ⟨_, .inl aupd_same, fun q2 hq2 => ?_⟩
    rw [cutA_from (i := 1) (a := 1) rfl]
    walk_at "s"
    refine ⟨q2, (ns.map AV.int).map txt, ns, at_, rfl, .inl (by rw [aupd_same]; rfl), nums_in hw, fun q3 hq3 => ?_⟩
    have h3 := aupd_none hq3
    have h32 := aupd_none h3.2
    exact ⟨_, Sub.mono ((Sub.new hq).trans (Sub.new hq2)) _ _, hQ q3 h32.2⟩

end K81
namespace K81
open PySem PySem.Spec PyProof.Rows L2 Av
local macro_rules | `(tactic| walk_at "s") => `(tactic| conv => whnf)
local macro_rules | `(tactic| walk_at "n") => `(tactic| first | assumption | (apply Ne.symm; assumption) | exact ne_of_at (by assumption) (by assumption) | exact Ne.symm (ne_of_at (by assumption) (by assumption)))
local macro_rules | `(tactic| walk_at "h") => `(tactic| first | exact aupd_same | assumption | exact (aupd_ne (by walk_at "n")).trans (by walk_at "h"))
local macro_rules | `(tactic| walk_at "c") => `(tactic| ((first | refine ⟨mod_ok, ?_⟩ | refine ⟨cdiv_ok, ?_⟩ | refine ⟨cmul_l ⟨by omega, by omega⟩, ?_⟩ | refine ⟨cmul_r ⟨by omega, by omega⟩, ?_⟩); conv => whnf))
variable {P : Program} {w : World} {K : PySem.W.Frag} {mg : Str → Option Value} {base : Heap}
def sp_page_read : ASp := fun xs AH Q _ => ∃ (a b c : Bool) (ns : List Int) (at_ : Int), xs = [.str (rowT ([.str "page", .str (rightsT a b c)] ++ ns.map .int)), .int at_] ∧ (rowT ([.str "page", .str (rightsT a b c)] ++ ns.map .int)).length ≤ 1200 ∧ ns.length = 16 ∧ (∀ n ∈ ns, Word n) ∧ ∀ q, AH q = none → Q (.tup [.tup [.bl a, .bl b, .bl c], .ref q]) (aupd AH q (.lst (ns.map .int)))
theorem sc_page_read : FnScope ["row", "at", "words"] ["row", "at"] (defScope (top 24)) := ⟨rfl, rfl, rfl, by decide +kernel, rfl, by decide +kernel, by decide +kernel⟩
theorem ok_page_read (T : Top P w K mg base) : DefOk P w K mg base CX0 4 (He.fAd K ("page_read", none)) ["row", "at"] sp_page_read := by
  have sc := sc_page_read
  refine T.d_page_read.ok sc (fun _ _ _ _ _ _ us hl => match us, hl with | [_, _], _ => rfl) ?len (fun cdv A outer s H E hr => ⟨_, (ass_cons (as_set (i := 2) sc.nd (ae_sm PySem.F.slot_str_split PySem.F.type_str_split am_split (av 0) (al_cons ae_str al_nil)))
  (ass_cons (as_if (PW.pt (aw_or (at_cmp (ao_ne (hu64 hr)) (ae_ix (av 2) ae_int) ae_str) (aw_or1 (at_cmp ao_lt (ae_callB ac_len T.b_len (al_cons (av 2) al_nil)) ae_int))))
  (ass_one as_never)
  ass_nil)
  (ass_one (as_ret (ae_tup (al_cons (ae_call (ok_rights_in T) T.m_rights_in (hr.mono (by decide)) (al_cons (ae_ix (av 2) ae_int) (al_cons (av 1) al_nil))) (al_cons (ae_call (ok_numbers_in T) T.m_numbers_in (hr.mono (by decide)) (al_cons (ae_slice (av 2) (ao_some ae_int) ao_none) (al_cons (ae_con T.c_PAGE_CELLS) (al_cons (av 1) al_nil)))) al_nil))))))), ?body⟩)
  case len => rintro _ _ _ _ ⟨_, _, _, _, _, rfl, _⟩; rfl
  case body =>
    rintro xs AH Q EA ⟨a, b, c, ns, at_, rfl, hl, h16, hw, hQ⟩
    have hfree : Free ([.str "page", .str (rightsT a b c)] ++ ns.map .int) := by
      intro y hy
      rcases List.mem_append.mp hy with h | h
      · have : y = .str "page" ∨ y = .str (rightsT a b c) := by simpa using h
        rcases this with rfl | rfl
        · exact ⟨by decide +kernel, by decide +kernel⟩
        · exact ⟨by cases a <;> cases b <;> cases c <;> decide +kernel, by cases a <;> cases b <;> cases c <;> decide +kernel⟩
      · obtain ⟨n, hn, rfl⟩ := List.mem_map.mp h
        exact Free.int (hw n hn)
    walk_at "s"
    refine ⟨by decide +kernel, by decide +kernel, by rw [sizeLine_eq]; omega, fun q hq => ?_⟩
    rw [show Txt.split (rowT ([.str "page", .str (rightsT a b c)] ++ ns.map .int)) (Str.ofString " ") = _ from row_split (by simp) hfree]
    walk_at "s"
    refine ⟨_, .str "page", .inl aupd_same, rfl, ?_⟩
    walk_at "s"
    refine ⟨_, .inl aupd_same, ?_⟩
    walk_at "s"
    refine ⟨_, .str (rightsT a b c), .inl aupd_same, rfl, ?_⟩
    walk_at "s"
    refine ⟨a, b, c, at_, rfl, ?_⟩
    walk_at "s"
    refine ⟨_, .inl aupd_same, fun q2 hq2 => ?_⟩
    rw [cutA_from (i := 2) (a := 2) rfl]
    walk_at "s"
    refine ⟨q2, (ns.map AV.int).map txt, ns, at_, by rw [h16]; rfl, .inl (by rw [aupd_same]; rfl), nums_in hw, fun q3 hq3 => ?_⟩
    have h3 := aupd_none hq3
    have h32 := aupd_none h3.2
    exact ⟨_, Sub.mono ((Sub.new hq).trans (Sub.new hq2)) _ _, hQ q3 h32.2⟩

theorem begText_join (B : Beg) : begText B = Txt.join "\n" (begRows B ++ [Str.empty]) := by
  unfold begText
  rw [TL.join_eq, TL.join_eq]
  refine TL.ext_tl ?_
  rw [TL.tl_join, TL.tl_join]
  have e0 : TL.tl ("" : Str) = [] := by decide +kernel
  have e1 : TL.tl ("\n" : Str) = [10] := by decide +kernel
  rw [show TL.tl (Str.ofString "") = [] from e0, show TL.tl (Str.ofString "\n") = [10] from e1]
  generalize begRows B = rs
  induction rs with
  | nil => rfl
  | cons r rs ih =>
    have h1 : ∀ l : List (List Nat), TL.joinL [] (TL.tl (r ++ ("\n" : Str)) :: l) = TL.tl r ++ ([10] ++ TL.joinL [] l) := by
      intro l
      rw [TL.tl_append, show TL.tl (Str.ofString "\n") = [10] from e1]
      cases l with
      | nil => simp [TL.joinL]
      | cons a l => simp [TL.joinL]
    have h2 : ∀ l : List (List Nat), l ≠ [] → TL.joinL [10] (TL.tl r :: l) = TL.tl r ++ ([10] ++ TL.joinL [10] l) := by
      intro l hl
      cases l with
      | nil => exact absurd rfl hl
      | cons a l => rfl
    simp only [List.map_cons, List.cons_append]
    rw [h1, h2 _ (by simp), ih]
theorem begText_len {B : Beg} (ok : BegOk B) : (begText B).length ≤ 100000 := by
  have e0 : (Str.ofString "").length = 0 := by decide +kernel
  have e1 : ("\n" : Str).length = 1 := by decide +kernel
  have hlr := begRows_len ok
  have hj := join_len "" ((begRows B).map fun r => r ++ ("\n" : Str))
  have hsum : (((begRows B).map fun r => r ++ ("\n" : Str)).map (·.length)).sum ≤ 10 * 1201 := by
    refine Nat.le_trans (sum_le_len (n := 1201) fun r hr => ?_) ?_
    · obtain ⟨r', hr', rfl⟩ := List.mem_map.mp hr
      have := hlr r' hr'
      rw [str_len_append, e1]; omega
    · rw [List.length_map]
      have := begRows_many ok
      omega
  rw [show ("" : Str).length = 0 from e0] at hj
  unfold begText
  omega
theorem row_free {ws : List AV} (h : Free ws) : 10 ∉ (rowT ws).cps.toList := by
  unfold rowT
  rw [TL.join_eq]
  show 10 ∉ TL.tl _
  rw [TL.tl_join, show TL.tl (Str.ofString " ") = [32] by decide +kernel]
  induction ws with
  | nil => simp [TL.joinL]
  | cons y ys ih =>
    have h1 := (h y List.mem_cons_self).2
    have h2 := ih fun z hz => h z (List.mem_cons_of_mem _ hz)
    cases ys with
    | nil => simpa [TL.joinL] using h1
    | cons z zs =>
      simp only [List.map_cons, TL.joinL, List.mem_append] at h2 ⊢
      rintro (q | q | q)
      · exact h1 q
      · simp at q
      · exact h2 q
theorem Free.ints {ns : List Int} (h : ∀ n ∈ ns, Word n) : Free (ns.map .int) := fun y hy => by
  obtain ⟨n, hn, rfl⟩ := List.mem_map.mp hy
  exact Free.int (h n hn)
theorem Free.cons {y : AV} {ws : List AV} (h1 : 32 ∉ (txt y).cps.toList ∧ 10 ∉ (txt y).cps.toList) (h : Free ws) : Free (y :: ws) := fun z hz => by
  rcases List.mem_cons.mp hz with rfl | hz
  · exact h1
  · exact h z hz
theorem rights_free (a b c : Bool) : 32 ∉ (txt (.str (rightsT a b c))).cps.toList ∧ 10 ∉ (txt (.str (rightsT a b c))).cps.toList := by
  constructor <;> (cases a <;> cases b <;> cases c <;> decide +kernel)
theorem pageRow_free {B : Beg} (ok : BegOk B) (k : Nat) (g : Bool × Bool × Bool) : Free (pageRow B k g) :=
  Free.cons (by constructor <;> decide +kernel) (Free.cons (rights_free _ _ _) (Free.ints fun n hn => ok.cell n (List.mem_of_mem_drop (List.mem_of_mem_take hn))))
theorem begRows_free {B : Beg} (ok : BegOk B) : ∀ r ∈ begRows B, 10 ∉ r.cps.toList := by
  intro r hr
  unfold begRows at hr
  rcases List.mem_cons.mp hr with rfl | hr
  · exact row_free (Free.cons (by constructor <;> decide +kernel) (Free.ints ok.box))
  · rcases List.mem_cons.mp hr with rfl | hr
    · exact row_free (Free.cons (by constructor <;> decide +kernel) (Free.cons (Free.int ok.here) fun _ h => nomatch h))
    · obtain ⟨ys, hy, rfl⟩ := List.mem_map.mp hr
      obtain ⟨x, hx, rfl⟩ := List.mem_map.mp hy
      exact row_free (pageRow_free ok _ _)
theorem begRows_at (B : Beg) (n : Nat) : (begRows B)[n + 2]? = B.pages[n]?.map fun g => rowT (pageRow B n g) := by
  unfold begRows pageRows
  simp only [List.getElem?_cons_succ, List.getElem?_map, List.getElem?_zipIdx, Nat.zero_add, Option.map_map]
  cases B.pages[n]? <;> rfl
/-- what stands at a turn of beginning_of's loop -/
structure BegTurn (B : Beg) (AH AH' : AHp) (q0 p c b q : Addr) (n : Nat) : Prop where
  sub : Sub AH AH'
  rows : AH' q0 = some (.lst (strsA (begRows B)))
  pages : AH' p = some (.lst ((B.pages.take (n - 2)).map pageA))
  cells : AH' c = some (.lst ((B.cells.take (16 * (n - 2))).map .int))
  boxes : 1 ≤ n → AH' b = some (.lst (B.boxes.map .int))
  here : 2 ≤ n → AH' q = some (.lst [.int B.place])
  np : AH p = none
  nc : AH c = none
  nb : AH b = none
  bt : ∃ o, AH' b = some o
  qt : ∃ o, AH' q = some o
  pc : p ≠ c
  bp : b ≠ p
  bc : b ≠ c
  qp : q ≠ p
  qc : q ≠ c
  zp : q0 ≠ p
  zc : q0 ≠ c
def sp_beginning_of : ASp := fun xs AH Q _ => ∃ B, xs = [.str (begText B)] ∧ BegOk B ∧ ∀ p c b, AH p = none → AH c = none → AH b = none → p ≠ c → p ≠ b → c ≠ b →
  Q (.tup [.ref p, .ref c, .ref b, .int B.place]) (aupd (aupd (aupd AH p (.lst (B.pages.map pageA))) c (.lst (B.cells.map .int))) b (.lst (B.boxes.map .int)))
theorem sc_beginning_of : FnScope ["text", "rows", "more", "pages", "cells", "boxes", "place", "k", "row", "rights", "words"] ["text"] (defScope (top 27)) := ⟨rfl, rfl, rfl, by decide +kernel, rfl, by decide +kernel, by decide +kernel⟩
theorem ok_beginning_of (T : Top P w K mg base) : DefOk P w K mg base CX0 5 (He.fAd K ("beginning_of", none)) ["text"] sp_beginning_of := by
  have sc := sc_beginning_of
  refine T.d_beginning_of.ok sc (fun _ _ _ _ _ _ us hl => match us, hl with | [_], _ => rfl) ?len (fun cdv A outer s H E hr => ⟨_, (ass_cons (as_asg (ae_call (ok_ended_rows T) T.m_ended_rows (hr.mono (by decide)) (al_cons (av 0) al_nil)) (ag_tup (n := 2) rfl (ags_cons (ag_name (i := 1) sc.nd) (ags_cons (ag_name (i := 2) sc.nd) ags_nil))))
  (ass_cons (as_set (i := 3) sc.nd (ae_lst al_nil))
  (ass_cons (as_set (i := 4) sc.nd (ae_lst al_nil))
  (ass_cons (as_set (i := 5) sc.nd (ae_lst al_nil))
  (ass_cons (as_set (i := 6) sc.nd (ae_lst (al_cons ae_int al_nil)))
  (ass_cons (as_for PassesOwn.never rfl (ai_enum T.b_enumerate (al_cons (av 1) al_nil)) (ag_tup (n := 2) rfl (ags_cons (ag_name (i := 7) sc.nd) (ags_cons (ag_name (i := 8) sc.nd) ags_nil)))
  (ass_fg (ass_one (as_if (at_cmp (ao_eq (hu64 hr)) (av 7) ae_int)
  (ass_one (as_set (i := 5) sc.nd (ae_call (ok_named_read T) T.m_named_read (hr.mono (by decide)) (al_cons (av 8) (al_cons ae_str (al_cons ae_int (al_cons ae_int al_nil)))))))
  (ass_one (as_if (at_cmp (ao_eq (hu64 hr)) (av 7) ae_int)
  (ass_one (as_set (i := 6) sc.nd (ae_call (ok_named_read T) T.m_named_read (hr.mono (by decide)) (al_cons (av 8) (al_cons ae_str (al_cons ae_int (al_cons ae_int al_nil)))))))
  (ass_cons (as_asg (ae_call (ok_page_read T) T.m_page_read (hr.mono (by decide)) (al_cons (av 8) (al_cons (ae_op ao_add (av 7) ae_int) al_nil))) (ag_tup (n := 2) rfl (ags_cons (ag_name (i := 9) sc.nd) (ags_cons (ag_name (i := 10) sc.nd) ags_nil))))
  (ass_cons (as_expr (ae_lm PySem.F.slot_list_append PySem.F.type_list_append am_append (av 3) (al_cons (av 9) al_nil)))
  (ass_one (as_expr (ae_lm PySem.F.slot_list_extend PySem.F.type_list_extend am_extend (av 4) (al_cons (av 10) al_nil))))))))))))
  (ass_cons (as_if (PW.pt (aw_or (at_val (av 2)) (aw_or1 (at_cmp ao_lt (ae_callB ac_len T.b_len (al_cons (av 1) al_nil)) ae_int))))
  (ass_one as_never)
  ass_nil)
  (ass_cons (as_expr (ae_call (ok_check_state T) T.m_check_state (hr.mono (by decide)) (al_cons (av 3) (al_cons (av 4) (al_cons (av 5) (al_cons (ae_ix (av 6) ae_int) al_nil))))))
  (ass_one (as_ret (ae_tup (al_cons (av 3) (al_cons (av 4) (al_cons (av 5) (al_cons (ae_ix (av 6) ae_int) al_nil))))))))))))))), ?body⟩)
  case len => rintro _ _ _ _ ⟨_, rfl, _⟩; rfl
  case body =>
    rintro xs AH Q EA ⟨B, rfl, ok, hQ⟩
    walk_at "s"
    refine ⟨begText B, begRows B, rfl, begText_join B, begText_len ok, begRows_free ok, fun q0 h0 => ?_⟩
    walk_at "s"
    refine ⟨rfl, ?_⟩
    walk_at "s"
    intro p hp
    walk_at "s"
    intro c hc
    walk_at "s"
    intro b0 hb0
    walk_at "s"
    intro q1 hq1
    walk_at "s"
    refine ⟨_, .inl (Sub.new hq1 _ _ (Sub.new hb0 _ _ (Sub.new hc _ _ (Sub.new hp _ _ aupd_same)))), ?_⟩
    have hp' := aupd_none hp
    have hc' := aupd_none hc
    have hc2 := aupd_none hc'.2
    have hb' := aupd_none hb0
    have hb2 := aupd_none hb'.2
    have hb3 := aupd_none hb2.2
    have hq' := aupd_none hq1
    have hq2 := aupd_none hq'.2
    have hq3 := aupd_none hq2.2
    have start : BegTurn B AH (aupd (aupd (aupd (aupd (aupd AH q0 (.lst (strsA (begRows B)))) p (.lst [])) c (.lst [])) b0 (.lst [])) q1 (.lst [.int 0])) q0 p c b0 q1 0 :=
      { sub := (Sub.new h0).trans ((Sub.new hp).trans ((Sub.new hc).trans ((Sub.new hb0).trans (Sub.new hq1))))
        rows := Sub.new hq1 _ _ (Sub.new hb0 _ _ (Sub.new hc _ _ (Sub.new hp _ _ aupd_same)))
        pages := Sub.new hq1 _ _ (Sub.new hb0 _ _ (Sub.new hc _ _ aupd_same))
        cells := Sub.new hq1 _ _ (Sub.new hb0 _ _ aupd_same)
        boxes := fun h => by omega
        here := fun h => by omega
        np := hp'.2, nc := hc2.2, nb := hb3.2
        bt := ⟨_, Sub.new hq1 _ _ aupd_same⟩, qt := ⟨_, aupd_same⟩
        pc := fun z => hc'.1 z.symm, bp := hb2.1, bc := hb'.1, qp := hq3.1, qc := hq2.1
        zp := fun z => hp'.1 z.symm, zc := fun z => hc2.1 z.symm }
    generalize aupd (aupd (aupd (aupd (aupd AH q0 (.lst (strsA (begRows B)))) p (.lst [])) c (.lst [])) b0 (.lst [])) q1 (.lst [.int 0]) = A0 at start
    clear hp hc hb0 hq1 hp' hc' hc2 hb' hb2 hb3 hq' hq2 hq3 h0
    rw [show enumItems 0 (strsA (begRows B)) = _ from enumItems_map AV.str (begRows B)]
    refine loop_fw _ (begRows B).zipIdx (fun pre σ AH' => ∃ b q a7 a8 a9 a10, BegTurn B AH AH' q0 p c b q pre.length ∧ σ = [some (.str (begText B)), some (.ref q0), some (.bl false), some (.ref p), some (.ref c), some (.ref b), some (.ref q), a7, a8, a9, a10]) ?_ ?_ _ _ ⟨b0, q1, none, none, none, none, start, rfl⟩
    · rintro σ AH' ⟨b, q, a7, a8, a9, a10, S, rfl⟩
      have hlen : ((begRows B).zipIdx).length = B.pages.length + 2 := by
        rw [List.length_zipIdx]
        unfold begRows pageRows
        simp
      rw [hlen] at S
      have e1 := S.pages
      have e2 := S.cells
      rw [show B.pages.length + 2 - 2 = B.pages.length by omega] at e1 e2
      rw [List.take_length] at e1
      rw [List.take_of_length_le (by rw [ok.size]; omega)] at e2
      have e3 := S.boxes (by omega)
      have e4 := S.here (by omega)
      refine ⟨.inl S.rows, ?_⟩
      walk_at "s"
      refine ⟨_, .inl S.rows, ?_⟩
      walk_at "s"
      refine ⟨_, .int B.place, .inl e4, rfl, ?_⟩
      walk_at "s"
      refine ⟨p, c, b, _, B, rfl, .inl e1, by rw [List.length_map], .inl e2, .inl e3, ok, ?_⟩
      walk_at "s"
      refine ⟨_, .int B.place, .inl e4, rfl, ?_⟩
      walk_at "s"
      refine ⟨_, ?_, hQ p c b S.np S.nc S.nb S.pc (Ne.symm S.bp) (Ne.symm S.bc)⟩
      intro a u ha
      by_cases zb : a = b
      · subst zb; rw [aupd_same] at ha; rw [← ha]; exact e3
      rw [aupd_ne zb] at ha
      by_cases zc : a = c
      · subst zc; rw [aupd_same] at ha; rw [← ha]; exact e2
      rw [aupd_ne zc] at ha
      by_cases zp : a = p
      · subst zp; rw [aupd_same] at ha; rw [← ha]; exact e1
      rw [aupd_ne zp] at ha
      exact S.sub a u ha
    · rintro N B' Rt hB hR pre x l e ih σ AH' ⟨b, q, a7, a8, a9, a10, S, rfl⟩
      obtain ⟨x1, hx⟩ := zipIdx_split e
      obtain ⟨x, k⟩ := x
      simp only at x1 hx
      subst x1
      refine ⟨.inl S.rows, ?_⟩
      walk_at "s"
      refine ⟨rfl, ?_⟩
      walk_at "s"
      obtain ⟨n, hn⟩ : ∃ n, pre.length = n := ⟨_, rfl⟩
      have hlen1 : (pre ++ [(x, pre.length)]).length = n + 1 := by simp [hn]
      simp only [hlen1] at ih
      rw [hn] at hx S ⊢
      clear e hlen1 hn
      match n, hx, S, ih with
      | 0, hx, S, ih =>
        have hx : x = rowT ([.str "boxes"] ++ B.boxes.map .int) := by unfold begRows at hx; simpa using hx.symm
        subst hx
        walk_at "s"
        refine ⟨"boxes", B.boxes, 1, by rw [ok.four]; rfl, begRows_len ok _ (by unfold begRows; exact List.mem_cons_self), by decide +kernel, by decide +kernel, ok.box, fun q' hq' => ?_⟩
        walk_at "s"
        refine WkS.refl (ih _ _ ⟨q', q, _, _, _, _, ?_, rfl⟩)
        exact {
          sub := S.sub.trans (Sub.new hq'), rows := Sub.new hq' _ _ S.rows
          pages := Sub.new hq' _ _ S.pages, cells := Sub.new hq' _ _ S.cells
          boxes := fun _ => aupd_same, here := fun h => by omega
          np := S.np, nc := S.nc, nb := S.sub.none hq'
          bt := ⟨_, aupd_same⟩, qt := S.qt.elim fun o h => ⟨o, Sub.new hq' _ _ h⟩
          pc := S.pc, bp := Ne.symm (ne_of_at S.pages hq'), bc := Ne.symm (ne_of_at S.cells hq'), qp := S.qp, qc := S.qc, zp := S.zp, zc := S.zc }
      | 1, hx, S, ih =>
        have hx : x = rowT ([.str "place"] ++ [B.place].map .int) := by unfold begRows at hx; simpa using hx.symm
        subst hx
        walk_at "s"
        refine ⟨"place", [B.place], 2, rfl, begRows_len ok _ (by unfold begRows; exact List.mem_cons_of_mem _ List.mem_cons_self), by decide +kernel, by decide +kernel, fun n hn => by rw [show n = B.place by simpa using hn]; exact ok.here, fun q' hq' => ?_⟩
        walk_at "s"
        refine WkS.refl (ih _ _ ⟨b, q', _, _, _, _, ?_, rfl⟩)
        exact {
          sub := S.sub.trans (Sub.new hq'), rows := Sub.new hq' _ _ S.rows
          pages := Sub.new hq' _ _ S.pages, cells := Sub.new hq' _ _ S.cells
          boxes := fun _ => Sub.new hq' _ _ (S.boxes (by omega)), here := fun _ => aupd_same
          np := S.np, nc := S.nc, nb := S.nb
          bt := S.bt.elim fun o h => ⟨o, Sub.new hq' _ _ h⟩, qt := ⟨_, aupd_same⟩
          pc := S.pc, bp := S.bp, bc := S.bc, qp := Ne.symm (ne_of_at S.pages hq'), qc := Ne.symm (ne_of_at S.cells hq'), zp := S.zp, zc := S.zc }
      | n + 2, hx, S, ih =>
        have hmem := List.mem_of_getElem? hx
        rw [begRows_at] at hx
        obtain ⟨g, hg, hx⟩ : ∃ g, B.pages[n]? = some g ∧ rowT (pageRow B n g) = x := by
          cases e : B.pages[n]? with
          | none => rw [e] at hx; cases hx
          | some g => rw [e] at hx; exact ⟨g, rfl, by simpa using hx⟩
        subst hx
        obtain ⟨g1, g2, g3⟩ := g
        have hnl : n < B.pages.length := (List.getElem?_eq_some_iff.mp hg).1
        dsimp only
        rw [show decide (((n + 2 : Nat) : Int) = 0) = false from decide_eq_false (by omega)]
        walk_at "s"
        refine ⟨g1, g2, g3, (B.cells.drop (16 * n)).take 16, _, rfl, begRows_len ok _ hmem, by simp [ok.size]; omega, fun m hm => ok.cell m (List.mem_of_mem_drop (List.mem_of_mem_take hm)), fun q' hq' => ?_⟩
        walk_at "s"
        have hS := Sub.new (o := .lst (((B.cells.drop (16 * n)).take 16).map .int)) hq'
        have hpl : (List.map pageA (List.take n B.pages)).length = n := by simp; omega
        have hcl : (List.map AV.int (List.take (16 * n) B.cells)).length = 16 * n := by simp [ok.size]; omega
        refine ⟨rfl, ?_⟩
        walk_at "s"
        refine ⟨⟨_, hS _ _ S.pages⟩, ?_⟩
        walk_at "s"
        refine ⟨_, hS _ _ S.pages, by rw [Nat.add_sub_cancel, hpl, sizeLine_eq]; have := ok.most; omega, ?_⟩
        walk_at "s"
        have npq : q' ≠ p := Ne.symm (ne_of_at S.pages hq')
        have ncq : q' ≠ c := Ne.symm (ne_of_at S.cells hq')
        refine ⟨⟨_, (aupd_ne (Ne.symm S.pc)).trans (hS _ _ S.cells)⟩, ?_⟩
        walk_at "s"
        refine ⟨_, _, (aupd_ne (Ne.symm S.pc)).trans (hS _ _ S.cells), (aupd_ne npq).trans aupd_same, ?_, ?_⟩
        · rw [Nat.add_sub_cancel, hcl, sizeLine_eq]; have := ok.most; simp; omega
        refine WkS.refl (ih _ _ ⟨b, q, _, _, _, _, ?_, rfl⟩)
        have ep : List.map pageA (List.take (n + 2 - 2) B.pages) ++ [pageA (g1, g2, g3)] = List.map pageA (List.take (n + 3 - 2) B.pages) := by
          rw [show n + 2 - 2 = n by omega, show n + 3 - 2 = n + 1 by omega, List.take_succ, hg]
          simp
        have ec : List.map AV.int (List.take (16 * (n + 2 - 2)) B.cells) ++ ((B.cells.drop (16 * n)).take 16).map .int = List.map AV.int (List.take (16 * (n + 3 - 2)) B.cells) := by
          rw [show n + 2 - 2 = n by omega, show 16 * (n + 3 - 2) = 16 * n + 16 by omega, List.take_add]
          simp
        exact {
          sub := ((S.sub.trans hS).over S.np _).over S.nc _
          rows := ((aupd_ne S.zc).trans (aupd_ne S.zp)).trans (hS _ _ S.rows)
          pages := by rw [← ep]; exact (aupd_ne S.pc).trans aupd_same
          cells := by rw [← ec]; exact aupd_same
          boxes := fun _ => ((aupd_ne S.bc).trans (aupd_ne S.bp)).trans (hS _ _ (S.boxes (by omega)))
          here := fun _ => ((aupd_ne S.qc).trans (aupd_ne S.qp)).trans (hS _ _ (S.here (by omega)))
          np := S.np, nc := S.nc, nb := S.nb
          bt := S.bt.elim fun o h => ⟨o, ((aupd_ne S.bc).trans (aupd_ne S.bp)).trans (hS _ _ h)⟩
          qt := S.qt.elim fun o h => ⟨o, ((aupd_ne S.qc).trans (aupd_ne S.qp)).trans (hS _ _ h)⟩
          pc := S.pc, bp := S.bp, bc := S.bc, qp := S.qp, qc := S.qc, zp := S.zp, zc := S.zc }

end K81
namespace K81
open PySem PySem.Spec PyProof.Rows L2 Av
local macro_rules | `(tactic| walk_at "s") => `(tactic| conv => whnf)
local macro_rules | `(tactic| walk_at "n") => `(tactic| first | assumption | (apply Ne.symm; assumption) | exact ne_of_at (by assumption) (by assumption) | exact Ne.symm (ne_of_at (by assumption) (by assumption)))
local macro_rules | `(tactic| walk_at "h") => `(tactic| first | exact aupd_same | assumption | exact (aupd_ne (by walk_at "n")).trans (by walk_at "h"))
local macro_rules | `(tactic| walk_at "c") => `(tactic| ((first | refine ⟨mod_ok, ?_⟩ | refine ⟨cdiv_ok, ?_⟩ | refine ⟨cmul_l ⟨by omega, by omega⟩, ?_⟩ | refine ⟨cmul_r ⟨by omega, by omega⟩, ?_⟩); conv => whnf))
variable {P : Program} {w : World} {K : PySem.W.Frag} {mg : Str → Option Value} {base : Heap}
def sp__law_cell_at : ASp := fun xs AH Q _ => ∃ (p : Addr) (ns : List Int) (k : Nat), xs = [.ref p, .int k] ∧ LstAt AH p (ns.map .int) ∧ ∀ c, Q (.int c) AH
theorem sc__law_cell_at : FnScope ["script", "k"] ["script", "k"] (defScope (top 29)) := ⟨rfl, rfl, rfl, by decide +kernel, rfl, by decide +kernel, by decide +kernel⟩
theorem ok__law_cell_at (T : Top P w K mg base) : DefOk P w K mg base CX0 1 (He.fAd K ("_law_cell_at", none)) ["script", "k"] sp__law_cell_at := by
  have sc := sc__law_cell_at
  refine T.d__law_cell_at.ok sc (fun _ _ _ _ _ _ us hl => match us, hl with | [_, _], _ => rfl) ?len (fun cdv A outer s H E hr => ⟨_, (ass_cons (as_if (at_cmp ao_lt (av 1) (ae_callB ac_len T.b_len (al_cons (av 0) al_nil)))
  (ass_one (as_ret (ae_ix (av 0) (av 1))))
  ass_nil)
  (ass_one (as_ret ae_int))), ?body⟩)
  case len => rintro _ _ _ _ ⟨_, _, _, rfl, _⟩; rfl
  case body =>
    rintro xs AH Q EA ⟨p, ns, k, rfl, hp, hQ⟩
    walk_at "s"
    refine ⟨_, hp, ?_⟩
    walk_at "s"
    rw [List.length_map]
    split <;> rename_i h1
    · replace h1 := of_decide_eq_true h1
      walk_at "s"
      refine ⟨_, .int ns[k], hp, at_nat rfl (by rw [List.getElem?_map, List.getElem?_eq_getElem (by omega)]; rfl), Wk.refl (hQ _)⟩
    · exact Wk.refl (hQ _)

def sp__law_whole : ASp := fun xs AH Q _ => ∃ n : Int, xs = [.int n] ∧ Q (.bl true) AH
theorem sc__law_whole : FnScope ["found"] ["found"] (defScope (top 30)) := ⟨rfl, rfl, rfl, by decide +kernel, rfl, by decide +kernel, by decide +kernel⟩
theorem ok__law_whole (T : Top P w K mg base) : DefOk P w K mg base CX0 1 (He.fAd K ("_law_whole", none)) ["found"] sp__law_whole := by
  have sc := sc__law_whole
  refine T.d__law_whole.ok sc (fun _ _ _ _ _ _ us hl => match us, hl with | [_], _ => rfl) ?len (fun cdv A outer s H E hr => ⟨_, (ass_one (as_ret (ae_and (ae_callB ac_isi T.b_isinstance (al_cons (av 0) (al_cons (ae_ty (n := "int") T.b_int) al_nil))) (ae_one (ae_not (ae_callB ac_isi T.b_isinstance (al_cons (av 0) (al_cons (ae_ty (n := "bool") T.b_bool) al_nil)))))))), ?body⟩)
  case len => rintro _ _ _ _ ⟨_, rfl, _⟩; rfl
  case body =>
    rintro xs AH Q EA ⟨n, rfl, hQ⟩
    walk_at "s"
    refine ⟨"int", true, rfl, rfl, ?_⟩
    walk_at "s"
    refine ⟨"int", false, rfl, rfl, ?_⟩
    exact Wk.refl hQ

theorem lt2 : (0 : Int) < 2 := by decide
theorem p6 : (10 : Int) ^ Int.toNat 6 = 1000000 := by decide
theorem p6pos : (0 : Int) < 10 ^ Int.toNat 6 := by decide
theorem p60 : (0 : Int) < 10 ^ Int.toNat 60 := by decide
/-- a draw -/
def Draw (n : Int) : Prop := 0 ≤ n ∧ n < 1000000
structure NumsAt (q1 q2 : Addr) (many : Nat) (ds : List Int) (AH AH' : AHp) (ns : List Int) : Prop where
  cells : AH' q1 = some (.lst (ds.map .int))
  found : AH' q2 = some (.lst (ns.map .int))
  most : ns.length ≤ many
  draw : ∀ n ∈ ns, Draw n
  sub : Sub AH AH'
def sp__law_numbers : ASp := fun xs AH Q _ => ∃ (p : Addr) (cs : List Int) (at_ many : Nat), xs = [.ref p, .int at_, .int many] ∧ LstAt AH p (cs.map .int) ∧ many ≤ 1000 ∧ ∀ (q : Addr) (ns : List Int), AH q = none → ns.length = many → (∀ n ∈ ns, Draw n) → Q (.ref q) (aupd AH q (.lst (ns.map .int)))
theorem sc__law_numbers : FnScope ["script", "at", "many", "cells", "found", "k", "cell", "near", "rest", "turn"] ["script", "at", "many"] (defScope (top 31)) := ⟨rfl, rfl, rfl, by decide +kernel, rfl, by decide +kernel, by decide +kernel⟩
theorem ok__law_numbers (T : Top P w K mg base) : DefOk P w K mg base CX0 1 (He.fAd K ("_law_numbers", none)) ["script", "at", "many"] sp__law_numbers := by
  have sc := sc__law_numbers
  refine T.d__law_numbers.ok sc (fun _ _ _ _ _ _ us hl => match us, hl with | [_, _, _], _ => rfl) ?len (fun cdv A outer s H E hr => ⟨_, (ass_cons (as_setLc1 (i := 6) rfl sc.nd (ai_any (ae_slice (av 0) (ao_some (av 1)) ao_none)) (blkOk_by (own := [("cell", 6)]) (N := ["script", "at", "many", "cells", "found", "k", "cell", "near", "rest", "turn"]) (sc := defScope (top 31)) (by decide +kernel)) (fun _ _ _ _ _ => (pg_name (i := 6) sc.nd rfl (Or.inl rfl))) (fun _ _ _ _ _ => ats_nil) (fun _ _ _ _ _ => (ae_fg (ae_op ao_mod (av 6) (ae_op ao_pow ae_int ae_int)))) (sw_true rfl rfl rfl (by decide +kernel)) (n := 3))
  (ass_cons (as_set (i := 4) sc.nd (ae_lst al_nil))
  (ass_cons (as_if (PW.pt (aw_and (at_cmp ao_gt (ae_callB ac_len T.b_len (al_cons (av 3) al_nil)) ae_int) (aw_and1 (at_cmp (ao_eq (hu64 hr)) (ae_op ao_mod (ae_ix (av 3) ae_int) ae_int) ae_int))))
  (ass_one (as_for PassesOwn.never rfl (ai_any (av 3)) (ag_name (i := 6) sc.nd)
  (ass_fg (ass_cons (as_set (i := 8) sc.nd (ae_op ao_fdiv (av 6) ae_int))
  (ass_one (as_for PassesOwn.never rfl (ai_range1 T.b_range (al_cons ae_int al_nil)) (ag_name (i := 9) sc.nd)
  (ass_fg (ass_one (as_if (PW.pt (aw_and (at_cmp ao_lt (ae_callB ac_len T.b_len (al_cons (av 4) al_nil)) (av 2)) (aw_and1 (PW.pt (aw_or (at_cmp (ao_eq (hu64 hr)) (av 9) ae_int) (aw_or1 (at_cmp ao_gt (av 8) ae_int)))))))
  (ass_cons (as_expr (ae_lm PySem.F.slot_list_append PySem.F.type_list_append am_append (av 4) (al_cons (ae_op ao_mod (av 8) (ae_op ao_pow ae_int ae_int)) al_nil)))
  (ass_one (as_set (i := 8) sc.nd (ae_op ao_fdiv (av 8) (ae_op ao_pow ae_int ae_int)))))
  ass_nil)))))))))
  ass_nil)
  (ass_cons (as_for PassesOwn.never rfl (ai_range2 T.b_range (al_cons (ae_callB ac_len T.b_len (al_cons (av 4) al_nil)) (al_cons (av 2) al_nil))) (ag_name (i := 5) sc.nd)
  (ass_fg (ass_cons (as_set (i := 7) sc.nd (ae_op ao_add (ae_op ao_add (ae_op ao_mul (ae_op ao_mul ae_int (av 5)) (av 5)) (ae_op ao_mul ae_int (av 5))) ae_int))
  (ass_cons (as_if (at_cmp ao_gt (ae_callB ac_len T.b_len (al_cons (av 3) al_nil)) ae_int)
  (ass_one (as_set (i := 7) sc.nd (ae_op ao_add (ae_op ao_add (av 7) (ae_op ao_mod (ae_ix (av 3) (ae_op ao_mod (av 5) (ae_callB ac_len T.b_len (al_cons (av 3) al_nil)))) ae_int)) (ae_op ao_mod (ae_ix (av 3) ae_int) ae_int))))
  ass_nil)
  (ass_cons (as_set (i := 7) sc.nd (ae_op ao_mod (ae_op ao_mul (av 7) (av 7)) ae_int))
  (ass_cons (as_set (i := 7) sc.nd (ae_op ao_mod (ae_op ao_add (ae_op ao_mul (av 7) ae_int) (ae_op ao_mul ae_int (av 5))) ae_int))
  (ass_one (as_expr (ae_lm PySem.F.slot_list_append PySem.F.type_list_append am_append (av 4) (al_cons (ae_op ao_mod (ae_op ao_mod (ae_op ao_mul (av 7) (av 7)) ae_int) (ae_op ao_pow ae_int ae_int)) al_nil))))))))))
  (ass_one (as_ret (av 4))))))), ?body⟩)
  case len => rintro _ _ _ _ ⟨_, _, _, _, rfl, _⟩; rfl
  case body =>
    rintro xs AH Q EA ⟨p, cs, at_, many, rfl, hp, hm, hQ⟩
    walk_at "s"
    refine ⟨_, hp, fun q0 h0 => ?_⟩
    rw [cutA_from (i := at_) (a := at_) rfl, ← List.map_drop]
    walk_at "s"
    refine ⟨_, .inl aupd_same, ?_⟩
    refine comp_map AV.int (fun n => .int (n % 10 ^ Int.toNat 60)) (.inl aupd_same) (cs.drop at_) [] (fun n hn => ⟨_, rfl, fun R hR => ?_⟩) fun q1 h1 => ?_
    · walk_at "s"
      exact ⟨cpow_ok, p60, Wk.refl hR⟩
    have hcell : ([] ++ (cs.drop at_).map fun n => AV.int (n % 10 ^ Int.toNat 60)) = ((cs.drop at_).map fun n => n % 10 ^ Int.toNat 60).map .int := by rw [List.map_map]; rfl
    rw [hcell]
    generalize (cs.drop at_).map (fun n => n % 10 ^ Int.toNat 60) = ds
    have h1' := aupd_none h1
    walk_at "s"
    intro q2 h2
    have h2' := aupd_none h2
    have h2'' := aupd_none h2'.2
    dsimp only [agName]
    have upd0 : ∀ {AH' : AHp} {ns : List Int} {d : Int}, NumsAt q1 q2 many ds AH AH' ns → ns.length + 1 ≤ many → Draw d → NumsAt q1 q2 many ds AH (aupd AH' q2 (.lst (ns.map .int ++ [.int d]))) (ns ++ [d]) := by
      intro AH' ns d S hl hd
      refine ⟨(aupd_ne (Ne.symm h2'.1)).trans S.cells, by rw [aupd_same]; simp, by simp; omega, fun n hn => ?_, S.sub.over h2''.2 _⟩
      rcases List.mem_append.mp hn with h | h
      · exact S.draw n h
      · rw [show n = d by simpa using h]; exact hd
    refine seq_with (fun σ AH' => ∃ a5 a6 a7 a8 a9 ns, σ = [some (.ref p), some (.int at_), some (.int many), some (.ref q1), some (.ref q2), a5, a6, a7, a8, a9] ∧ NumsAt q1 q2 many ds AH AH' ns) ?_ ?_
    · intro N hN
      have S0 : NumsAt q1 q2 many ds AH (aupd (aupd (aupd AH q0 (.lst ((cs.drop at_).map .int))) q1 (.lst (ds.map .int))) q2 (.lst [])) [] :=
        ⟨(aupd_ne (Ne.symm h2'.1)).trans aupd_same, aupd_same, Nat.zero_le _, fun _ hn => (nomatch hn), (Sub.new h0).trans ((Sub.new h1).trans (Sub.new h2))⟩
      have skip : N [some (.ref p), some (.int at_), some (.int many), some (.ref q1), some (.ref q2), none, none, none, none, none] (aupd (aupd (aupd AH q0 (.lst ((cs.drop at_).map .int))) q1 (.lst (ds.map .int))) q2 (.lst [])) :=
        hN _ _ ⟨_, _, _, _, _, _, rfl, S0⟩
      walk_at "s"
      refine ⟨_, .inl S0.cells, ?_⟩
      walk_at "s"
      rw [List.length_map]
      generalize aupd (aupd (aupd AH q0 (.lst ((cs.drop at_).map .int))) q1 (.lst (ds.map .int))) q2 (.lst []) = A0 at S0 skip
      split <;> rename_i hc
      · replace hc := of_decide_eq_true hc
        walk_at "s"
        obtain ⟨d, ds', rfl⟩ : ∃ d ds', ds = d :: ds' := by
          cases ds with
          | nil => simp at hc
          | cons d ds' => exact ⟨_, _, rfl⟩
        refine ⟨_, .int d, .inl S0.cells, rfl, ?_⟩
        walk_at "s"
        refine ⟨lt2, ?_⟩
        walk_at "s"
        split <;> rename_i he
        · walk_at "s"
          refine ⟨_, .inl S0.cells, ?_⟩
          refine loop_fw AV.int (d :: ds') (fun _ σ AH' => ∃ a5 a6 a7 a8 a9 ns, σ = [some (.ref p), some (.int at_), some (.int many), some (.ref q1), some (.ref q2), a5, a6, a7, a8, a9] ∧ NumsAt q1 q2 many (d :: ds') AH AH' ns) ?_ ?_ _ _ ⟨_, _, _, _, _, _, rfl, S0⟩
          · rintro _ AH' ⟨a5, a6, a7, a8, a9, ns, rfl, S⟩
            exact ⟨.inl S.cells, hN _ _ ⟨_, _, _, _, _, _, rfl, S⟩⟩
          · rintro N1 B' Rt hB hR pre x l e ih _ AH' ⟨a5, a6, a7, a8, a9, ns, rfl, S⟩
            refine ⟨.inl S.cells, ?_⟩
            walk_at "s"
            refine ⟨⟨by decide, by decide⟩, ?_⟩
            walk_at "s"
            refine ⟨by decide, by decide, ?_⟩
            refine loop_fw (fun i : Nat => AV.int (0 + ((i : Nat) : Int))) (List.range 10) (fun _ σ AH' => ∃ a5 a6 a7 r a9 ns, σ = [some (.ref p), some (.int at_), some (.int many), some (.ref q1), some (.ref q2), a5, a6, a7, some (.int r), a9] ∧ NumsAt q1 q2 many (d :: ds') AH AH' ns) ?_ ?_ _ _ ⟨_, _, _, _, _, _, rfl, S⟩
            · rintro _ AH' ⟨a5, a6, a7, r, a9, ns, rfl, S⟩
              exact ⟨trivial, WkS.refl (ih _ _ ⟨_, _, _, _, _, _, rfl, S⟩)⟩
            · rintro N2 B2 Rt2 hB2 hR2 pre2 x2 l2 e3 ih2 _ AH' ⟨a5, a6, a7, r, a9, ns, rfl, S⟩
              refine ⟨trivial, ?_⟩
              have skip2 := WkS.refl (ih2 _ _ ⟨a5, a6, a7, r, some (.int (0 + (x2 : Int))), ns, rfl, S⟩)
              walk_at "s"
              refine ⟨_, .inl S.found, ?_⟩
              walk_at "s"
              rw [List.length_map]
              split <;> rename_i hl
              · replace hl := of_decide_eq_true hl
                have go : N2 [some (.ref p), some (.int at_), some (.int many), some (.ref q1), some (.ref q2), a5, a6, a7, some (.int (r / 10 ^ Int.toNat 6)), some (.int (0 + (x2 : Int)))] (aupd AH' q2 (.lst (ns.map .int ++ [.int (r % 10 ^ Int.toNat 6)]))) :=
                  ih2 _ _ ⟨_, _, _, _, _, _, rfl, upd0 S (by omega) ⟨Int.emod_nonneg _ (by decide), Int.emod_lt_of_pos _ (by decide)⟩⟩
                walk_at "s"
                split
                · walk_at "s"
                  refine ⟨⟨_, S.found⟩, ?_⟩
                  walk_at "s"
                  refine ⟨cpow_ok, p6pos, ?_⟩
                  walk_at "s"
                  refine ⟨_, S.found, by rw [List.length_map, sizeLine_eq]; omega, ?_⟩
                  walk_at "s"
                  refine ⟨cpow_ok, by rw [p6]; exact ⟨by decide, by decide⟩, ?_⟩
                  exact WkS.refl go
                · walk_at "s"
                  split
                  · walk_at "s"
                    refine ⟨⟨_, S.found⟩, ?_⟩
                    walk_at "s"
                    refine ⟨cpow_ok, p6pos, ?_⟩
                    walk_at "s"
                    refine ⟨_, S.found, by rw [List.length_map, sizeLine_eq]; omega, ?_⟩
                    walk_at "s"
                    refine ⟨cpow_ok, by rw [p6]; exact ⟨by decide, by decide⟩, ?_⟩
                    exact WkS.refl go
                  · exact skip2
              · exact skip2
        · exact skip
      · exact skip
    · rintro _ AH' ⟨a5, a6, a7, a8, a9, ns, rfl, S⟩
      walk_at "s"
      refine ⟨_, .inl S.found, ?_⟩
      walk_at "s"
      rw [List.length_map]
      have hmost := S.most
      have hsl := sizeLine_eq
      refine ⟨⟨by omega, by omega, by omega, by omega, by omega⟩, ?_⟩
      rw [show ((many : Int) - (ns.length : Int)).toNat = many - ns.length by omega]
      refine loop_fw (fun i : Nat => AV.int ((ns.length : Int) + ((i : Nat) : Int))) (List.range (many - ns.length)) (fun pre σ AH' => ∃ a5 a6 a7 a8 a9 ns', σ = [some (.ref p), some (.int at_), some (.int many), some (.ref q1), some (.ref q2), a5, a6, a7, a8, a9] ∧ NumsAt q1 q2 many ds AH AH' ns' ∧ ns'.length = ns.length + pre.length) ?_ ?_ _ _ ⟨_, _, _, _, _, _, rfl, S, rfl⟩
      · rintro _ AH' ⟨a5, a6, a7, a8, a9, ns', rfl, S', hl⟩
        refine ⟨trivial, ?_⟩
        rw [List.length_range] at hl
        exact ⟨_, S'.sub.at_ S'.found h2''.2, hQ q2 ns' h2''.2 (by omega) S'.draw⟩
      · rintro N2 B2 Rt2 hB2 hR2 pre2 x2 l2 e3 ih2 _ AH' ⟨a5, a6, a7, a8, a9, ns', rfl, S', hl⟩
        refine ⟨trivial, ?_⟩
        have hk : (List.range (many - ns.length)).length = pre2.length + (l2.length + 1) := by rw [e3]; simp
        rw [List.length_range] at hk
        have hx : x2 < many - ns.length := by
          have : x2 ∈ List.range (many - ns.length) := by rw [e3]; simp
          simpa using this
        obtain ⟨k, hkk⟩ : ∃ k : Int, (ns.length : Int) + (x2 : Int) = k := ⟨_, rfl⟩
        rw [hkk]
        have k0 : 0 ≤ k := by omega
        have k1 : k ≤ 1000 := by omega
        walk_at "s"
        have kk0 : 0 ≤ 1009 * k * k := Int.mul_nonneg (by omega) k0
        have kk1 : 1009 * k * k ≤ 1009000 * 1000 := Int.mul_le_mul (by omega) k1 k0 (by decide)
        refine ⟨cmul_r (j := k) ⟨by omega, by omega⟩, ?_⟩
        walk_at "s"
        refine ⟨cmul_r (j := k) ⟨by omega, by omega⟩, ?_⟩
        walk_at "s"
        refine ⟨cmul_r (j := k) ⟨by omega, by omega⟩, ?_⟩
        walk_at "s"
        refine ⟨_, .inl S'.cells, ?_⟩
        walk_at "s"
        rw [List.length_map]
        split <;> rename_i hc
        · replace hc := of_decide_eq_true hc
          walk_at "s"
          refine ⟨_, .inl S'.cells, ?_⟩
          walk_at "s"
          rw [List.length_map]
          refine ⟨hc, ?_⟩
          have m0 := Int.emod_nonneg k (show (ds.length : Int) ≠ 0 by omega)
          have m1 := Int.emod_lt_of_pos k hc
          obtain ⟨m, hm⟩ := Int.eq_ofNat_of_zero_le m0
          have hmd : m < ds.length := by rw [hm] at m1; exact_mod_cast m1
          walk_at "s"
          refine ⟨_, .int ds[m], .inl S'.cells, at_nat hm (by rw [List.getElem?_map, List.getElem?_eq_getElem hmd]; rfl), ?_⟩
          walk_at "s"
          refine ⟨(by decide : (0 : Int) < 2147483647), ?_⟩
          walk_at "s"
          have h0d : 0 < ds.length := by omega
          refine ⟨_, .int ds[0], .inl S'.cells, at_nat (n := 0) rfl (by rw [List.getElem?_map, List.getElem?_eq_getElem h0d]; rfl), ?_⟩
          walk_at "s"
          refine ⟨(by decide : (0 : Int) < 1000003), ?_⟩
          walk_at "s"
          refine ⟨cmul_l ⟨by omega, by omega⟩, (by decide : (0 : Int) < 2147483629), ?_⟩
          walk_at "s"
          refine ⟨cmul_l ⟨by omega, by omega⟩, ?_⟩
          walk_at "s"
          refine ⟨cmul_r (j := k) ⟨by omega, by omega⟩, ?_⟩
          walk_at "s"
          refine ⟨(by decide : (0 : Int) < 2147483647), ?_⟩
          walk_at "s"
          refine ⟨⟨_, S'.found⟩, ?_⟩
          walk_at "s"
          refine ⟨cmul_l ⟨by omega, by omega⟩, ?_⟩
          walk_at "s"
          refine ⟨(by decide : (0 : Int) < 998244353), ?_⟩
          walk_at "s"
          refine ⟨cpow_ok, p6pos, ?_⟩
          walk_at "s"
          refine ⟨_, S'.found, by rw [List.length_map, sizeLine_eq]; omega, ?_⟩
          exact WkS.refl (ih2 _ _ ⟨_, _, _, _, _, _, rfl, upd0 S' (by omega) ⟨Int.emod_nonneg _ (by decide), Int.emod_lt_of_pos _ (by decide)⟩, by simp; omega⟩)
        · walk_at "s"
          refine ⟨cmul_l ⟨by omega, by omega⟩, (by decide : (0 : Int) < 2147483629), ?_⟩
          walk_at "s"
          refine ⟨cmul_l ⟨by omega, by omega⟩, ?_⟩
          walk_at "s"
          refine ⟨cmul_r (j := k) ⟨by omega, by omega⟩, ?_⟩
          walk_at "s"
          refine ⟨(by decide : (0 : Int) < 2147483647), ?_⟩
          walk_at "s"
          refine ⟨⟨_, S'.found⟩, ?_⟩
          walk_at "s"
          refine ⟨cmul_l ⟨by omega, by omega⟩, ?_⟩
          walk_at "s"
          refine ⟨(by decide : (0 : Int) < 998244353), ?_⟩
          walk_at "s"
          refine ⟨cpow_ok, p6pos, ?_⟩
          walk_at "s"
          refine ⟨_, S'.found, by rw [List.length_map, sizeLine_eq]; omega, ?_⟩
          exact WkS.refl (ih2 _ _ ⟨_, _, _, _, _, _, rfl, upd0 S' (by omega) ⟨Int.emod_nonneg _ (by decide), Int.emod_lt_of_pos _ (by decide)⟩, by simp; omega⟩)

end K81
namespace K81
open PySem PySem.Spec PyProof.Rows L2 Av
local macro_rules | `(tactic| walk_at "s") => `(tactic| conv => whnf)
local macro_rules | `(tactic| walk_at "n") => `(tactic| first | assumption | (apply Ne.symm; assumption) | exact ne_of_at (by assumption) (by assumption) | exact Ne.symm (ne_of_at (by assumption) (by assumption)))
local macro_rules | `(tactic| walk_at "h") => `(tactic| first | exact aupd_same | assumption | exact (aupd_ne (by walk_at "n")).trans (by walk_at "h"))
local macro_rules | `(tactic| walk_at "c") => `(tactic| ((first | refine ⟨mod_ok, ?_⟩ | refine ⟨cdiv_ok, ?_⟩ | refine ⟨cmul_l ⟨by omega, by omega⟩, ?_⟩ | refine ⟨cmul_r ⟨by omega, by omega⟩, ?_⟩); conv => whnf))
variable {P : Program} {w : World} {K : PySem.W.Frag} {mg : Str → Option Value} {base : Heap}
def kinds24 : List Str := ["set", "set", "set", "move", "add", "add", "sub", "sub", "mul", "and", "xor", "cmp", "cmp", "load", "load", "store", "store", "jump", "branch", "branch", "branch", "call", "back", "out"]
theorem kinds_cases {w : Str} (h : w ∈ kinds24) : w = "set" ∨ w = "move" ∨ w = "add" ∨ w = "sub" ∨ w = "mul" ∨ w = "and" ∨ w = "xor" ∨ w = "cmp" ∨ w = "load" ∨ w = "store" ∨ w = "jump" ∨ w = "branch" ∨ w = "call" ∨ w = "back" ∨ w = "out" := by
  unfold kinds24 at h
  simp only [List.mem_cons, List.not_mem_nil, or_false] at h
  rcases h with h | h | h | h | h | h | h | h | h | h | h | h | h | h | h | h | h | h | h | h | h | h | h | h <;> simp [h]
def wide (w : Str) : Nat := if w = "set" ∨ w = "jump" ∨ w = "branch" ∨ w = "call" then 2 else 1
def sp__law_kind : ASp := fun xs AH Q _ => ∃ n : Int, xs = [.int n] ∧ ∀ w ∈ kinds24, Q (.str w) AH
theorem sc__law_kind : FnScope ["number", "kinds"] ["number"] (defScope (top 32)) := ⟨rfl, rfl, rfl, by decide +kernel, rfl, by decide +kernel, by decide +kernel⟩
theorem ok__law_kind (T : Top P w K mg base) : DefOk P w K mg base CX0 1 (He.fAd K ("_law_kind", none)) ["number"] sp__law_kind := by
  have sc := sc__law_kind
  refine T.d__law_kind.ok sc (fun _ _ _ _ _ _ us hl => match us, hl with | [_], _ => rfl) ?len (fun cdv A outer s H E hr => ⟨_, (ass_cons (as_set (i := 1) sc.nd (ae_lst (al_cons ae_str (al_cons ae_str (al_cons ae_str (al_cons ae_str (al_cons ae_str (al_cons ae_str (al_cons ae_str (al_cons ae_str (al_cons ae_str (al_cons ae_str (al_cons ae_str (al_cons ae_str (al_cons ae_str (al_cons ae_str (al_cons ae_str al_nil)))))))))))))))))
  (ass_cons (as_set (i := 1) sc.nd (ae_op ao_add (av 1) (ae_lst (al_cons ae_str (al_cons ae_str (al_cons ae_str (al_cons ae_str (al_cons ae_str (al_cons ae_str (al_cons ae_str (al_cons ae_str (al_cons ae_str al_nil))))))))))))
  (ass_one (as_ret (ae_ix (av 1) (ae_op ao_mod (av 0) ae_int)))))), ?body⟩)
  case len => rintro _ _ _ _ ⟨_, rfl, _⟩; rfl
  case body =>
    rintro xs AH Q EA ⟨n, rfl, hQ⟩
    walk_at "s"
    intro q1 h1
    walk_at "s"
    intro q2 h2
    walk_at "s"
    refine ⟨_, _, (aupd_ne (Ne.symm (aupd_none h2).1)).trans aupd_same, aupd_same, by rw [sizeLine_eq]; decide, fun q3 h3 => ?_⟩
    walk_at "s"
    refine ⟨mod_ok, ?_⟩
    obtain ⟨m, hm⟩ := Int.eq_ofNat_of_zero_le (Int.emod_nonneg n (show (24 : Int) ≠ 0 by decide))
    have hm2 : m < 24 := by have := Int.emod_lt_of_pos n (show (0 : Int) < 24 by decide); omega
    walk_at "s"
    refine ⟨kinds24.map .str, .str (kinds24[m]'hm2), .inl aupd_same, at_nat hm (by rw [List.getElem?_map, List.getElem?_eq_getElem hm2]; rfl), ?_⟩
    exact ⟨AH, (Sub.new h1).trans ((Sub.new h2).trans (Sub.new h3)), hQ _ (List.getElem_mem hm2)⟩

def sp__law_wide : ASp := fun xs AH Q _ => ∃ w, xs = [.str w] ∧ w ∈ kinds24 ∧ Q (.int (wide w)) AH
theorem sc__law_wide : FnScope ["word"] ["word"] (defScope (top 33)) := ⟨rfl, rfl, rfl, by decide +kernel, rfl, by decide +kernel, by decide +kernel⟩
theorem ok__law_wide (T : Top P w K mg base) : DefOk P w K mg base CX0 1 (He.fAd K ("_law_wide", none)) ["word"] sp__law_wide := by
  have sc := sc__law_wide
  refine T.d__law_wide.ok sc (fun _ _ _ _ _ _ us hl => match us, hl with | [_], _ => rfl) ?len (fun cdv A outer s H E hr => ⟨_, (ass_one (as_ret (ae_op ao_add ae_int (ae_callTy ac_int T.b_int (al_cons (ae_cmp (ao_in (hu65 hr)) (av 0) (ae_lst (al_cons ae_str (al_cons ae_str (al_cons ae_str (al_cons ae_str al_nil)))))) al_nil))))), ?body⟩)
  case len => rintro _ _ _ _ ⟨_, rfl, _⟩; rfl
  case body =>
    rintro xs AH Q EA ⟨w, rfl, hw, hQ⟩
    walk_at "s"
    intro q1 h1
    walk_at "s"
    refine ⟨_, .inl aupd_same, .inl ⟨rfl, rfl, ?_⟩⟩
    rcases kinds_cases hw with rfl | rfl | rfl | rfl | rfl | rfl | rfl | rfl | rfl | rfl | rfl | rfl | rfl | rfl | rfl
    all_goals
      first
      | rw [show wide _ = 2 by decide +kernel] at hQ; exact ⟨AH, Sub.new h1, hQ⟩
      | rw [show wide _ = 1 by decide +kernel] at hQ; exact ⟨AH, Sub.new h1, hQ⟩

def sp__law_row_words : ASp := fun xs AH Q _ => ∃ (w : Str) (n to : Int), xs = [.str w, .int n, .int to] ∧ w ∈ kinds24 ∧ 0 ≤ n ∧ Word to ∧ ∀ (q : Addr) (ns : List Int), AH q = none → ns.length = wide w → (∀ n ∈ ns, Word n) → Q (.ref q) (aupd AH q (.lst (ns.map .int)))
theorem sc__law_row_words : FnScope ["word", "number", "to", "names", "op", "x", "y", "m"] ["word", "number", "to"] (defScope (top 34)) := ⟨rfl, rfl, rfl, by decide +kernel, rfl, by decide +kernel, by decide +kernel⟩
theorem ok__law_row_words (T : Top P w K mg base) : DefOk P w K mg base CX0 1 (He.fAd K ("_law_row_words", none)) ["word", "number", "to"] sp__law_row_words := by
  have sc := sc__law_row_words
  refine T.d__law_row_words.ok sc (fun _ _ _ _ _ _ us hl => match us, hl with | [_, _, _], _ => rfl) ?len (fun cdv A outer s H E hr => ⟨_, (ass_cons (as_set (i := 3) sc.nd (ae_lst (al_cons ae_str (al_cons ae_str (al_cons ae_str (al_cons ae_str (al_cons ae_str (al_cons ae_str (al_cons ae_str (al_cons ae_str (al_cons ae_str (al_cons ae_str (al_cons ae_str (al_cons ae_str (al_cons ae_str (al_cons ae_str al_nil))))))))))))))))
  (ass_cons (as_set (i := 4) sc.nd (ae_lm PySem.F.slot_list_index PySem.F.type_list_index am_index (ae_op ao_add (av 3) (ae_lst (al_cons ae_str (al_cons ae_str al_nil)))) (al_cons (av 0) al_nil)))
  (ass_cons (as_set (i := 5) sc.nd (ae_op ao_mod (ae_op ao_fdiv (av 1) ae_int) ae_int))
  (ass_cons (as_set (i := 6) sc.nd (ae_op ao_mod (ae_op ao_fdiv (av 1) ae_int) ae_int))
  (ass_cons (as_set (i := 7) sc.nd (ae_op ao_mod (ae_op ao_fdiv (av 1) ae_int) ae_int))
  (ass_cons (as_if (at_cmp (ao_eq (hu64 hr)) (av 0) ae_str)
  (ass_one (as_ret (ae_lst (al_cons (ae_op ao_add (ae_op ao_mul (av 4) ae_int) (ae_op ao_mod (ae_op ao_fdiv (av 1) ae_int) ae_int)) (al_cons (av 2) al_nil)))))
  ass_nil)
  (ass_cons (as_if (at_cmp (ao_eq (hu64 hr)) (av 0) ae_str)
  (ass_one (as_ret (ae_lst (al_cons (ae_op ao_mul (av 4) ae_int) (al_cons (av 2) al_nil)))))
  ass_nil)
  (ass_cons (as_if (PW.pt (aw_or (at_cmp (ao_eq (hu64 hr)) (av 0) ae_str) (aw_or1 (at_cmp (ao_eq (hu64 hr)) (av 0) ae_str))))
  (ass_one (as_ret (ae_lst (al_cons (ae_op ao_add (ae_op ao_mul (av 4) ae_int) (ae_op ao_mul (av 5) ae_int)) (al_cons (av 2) al_nil)))))
  ass_nil)
  (ass_cons (as_if (PW.pt (aw_or (at_cmp (ao_eq (hu64 hr)) (av 0) ae_str) (aw_or1 (at_cmp (ao_eq (hu64 hr)) (av 0) ae_str))))
  (ass_one (as_ret (ae_lst (al_cons (ae_op ao_add (ae_op ao_add (ae_op ao_add (ae_op ao_mul (av 4) ae_int) (ae_op ao_mul (av 5) ae_int)) (ae_op ao_mul (av 6) ae_int)) (av 7)) al_nil))))
  ass_nil)
  (ass_cons (as_if (PW.pt (aw_or (at_cmp (ao_eq (hu64 hr)) (av 0) ae_str) (aw_or1 (at_cmp (ao_eq (hu64 hr)) (av 0) ae_str))))
  (ass_one (as_ret (ae_lst (al_cons (ae_op ao_add (ae_op ao_mul (av 4) ae_int) (ae_op ao_mul (av 5) ae_int)) al_nil))))
  ass_nil)
  (ass_one (as_ret (ae_lst (al_cons (ae_op ao_add (ae_op ao_add (ae_op ao_mul (av 4) ae_int) (ae_op ao_mul (av 5) ae_int)) (ae_op ao_mul (av 6) ae_int)) al_nil)))))))))))))), ?body⟩)
  case len => rintro _ _ _ _ ⟨_, _, _, rfl, _⟩; rfl
  case body =>
    rintro xs AH Q EA ⟨w, n, to, rfl, hw, hn, ht, hQ⟩
    have fin2 : ∀ (B : AHp) (q : Addr) (a b : Int), Sub AH B → B q = none → Word a → Word b → wide w = 2 → Wk Q (.ref q) (aupd B q (.lst [.int a, .int b])) := fun B q a b hs hq ha hb hw => ⟨_, hs.mono q _, hQ q [a, b] (hs.none hq) hw.symm (fun m hm => by
      rcases List.mem_cons.mp hm with rfl | hm
      · exact ha
      · rw [show m = b by simpa using hm]; exact hb)⟩
    have fin1 : ∀ (B : AHp) (q : Addr) (a : Int), Sub AH B → B q = none → Word a → wide w = 1 → Wk Q (.ref q) (aupd B q (.lst [.int a])) := fun B q a hs hq ha hw => ⟨_, hs.mono q _, hQ q [a] (hs.none hq) hw.symm (fun m hm => by
      rw [show m = a by simpa using hm]; exact ha)⟩
    walk_at "s"
    intro q1 h1
    walk_at "s"
    intro q2 h2
    walk_at "s"
    have h2' := aupd_none h2
    refine ⟨_, _, (aupd_ne (Ne.symm h2'.1)).trans aupd_same, aupd_same, by rw [sizeLine_eq]; decide, fun q3 h3 => ?_⟩
    walk_at "s"
    refine ⟨⟨_, aupd_same⟩, ?_⟩
    walk_at "s"
    have hs := fun (o : AO) => (Sub.new h1).trans ((Sub.new h2).trans (Sub.new (o := o) h3))
    rcases kinds_cases hw with rfl | rfl | rfl | rfl | rfl | rfl | rfl | rfl | rfl | rfl | rfl | rfl | rfl | rfl | rfl
    all_goals
      refine ⟨_, _, .inl aupd_same, rfl, rfl, rfl, ?_⟩
      conv => whnf
      repeat (walk_at "c")
      intro q hq
      try dsimp only
      first
      | exact fin2 _ q _ _ (hs _) hq ⟨by omega, by omega⟩ ht (by decide +kernel)
      | exact fin1 _ q _ (hs _) hq ⟨by omega, by omega⟩ (by decide +kernel)

def sp__law_goal : ASp := fun xs AH Q _ => ∃ (w : Str) (n : Int) (p : Addr) (ps : List Int) (size : Int), xs = [.str w, .int n, .ref p, .int size] ∧ w ∈ kinds24 ∧ 0 ≤ n ∧ LstAt AH p (ps.map .int) ∧ ps ≠ [] ∧ (∀ x ∈ ps, 0 ≤ x ∧ x ≤ 200) ∧ 0 < size ∧ size ≤ 200 ∧ ∀ m, Word m → Q (.int m) AH
theorem sc__law_goal : FnScope ["word", "number", "places", "size", "here", "some"] ["word", "number", "places", "size"] (defScope (top 35)) := ⟨rfl, rfl, rfl, by decide +kernel, rfl, by decide +kernel, by decide +kernel⟩
theorem ok__law_goal (T : Top P w K mg base) : DefOk P w K mg base CX0 1 (He.fAd K ("_law_goal", none)) ["word", "number", "places", "size"] sp__law_goal := by
  have sc := sc__law_goal
  refine T.d__law_goal.ok sc (fun _ _ _ _ _ _ us hl => match us, hl with | [_, _, _, _], _ => rfl) ?len (fun cdv A outer s H E hr => ⟨_, (ass_cons (as_set (i := 4) sc.nd (ae_op ao_fdiv (av 1) ae_int))
  (ass_cons (as_if (at_cmp (ao_ne (hu64 hr)) (av 0) ae_str)
  (ass_one (as_ret (ae_ix (av 2) (ae_op ao_mod (av 4) (ae_callB ac_len T.b_len (al_cons (av 2) al_nil))))))
  ass_nil)
  (ass_cons (as_set (i := 5) sc.nd (ae_lst (al_cons (ae_op ao_mod (av 4) ae_int) (al_cons (ae_op ao_mod (av 4) (av 3)) (al_cons (ae_ix (av 2) (ae_op ao_mod (av 4) (ae_callB ac_len T.b_len (al_cons (av 2) al_nil)))) (al_cons (ae_op ao_add (ae_ix (av 2) ae_int) (ae_op ao_mod (av 4) ae_int)) (al_cons (ae_op ao_mod (ae_op ao_mul (av 4) ae_int) ae_int) al_nil)))))))
  (ass_one (as_ret (ae_ix (av 5) (ae_op ao_mod (ae_op ao_fdiv (av 1) ae_int) ae_int))))))), ?body⟩)
  case len => rintro _ _ _ _ ⟨_, _, _, _, _, rfl, _⟩; rfl
  case body =>
    rintro xs AH Q EA ⟨w, n, p, ps, size, rfl, hw, hn, hp, hne, hps, hs0, hs1, hQ⟩
    walk_at "s"
    walk_at "c"
    have h60 : 0 ≤ n / 6144 := Int.ediv_nonneg hn (by decide)
    have h61 : n / 6144 ≤ n := by omega
    obtain ⟨x0, ps', rfl⟩ : ∃ x0 ps', ps = x0 :: ps' := by
      cases ps with
      | nil => exact absurd rfl hne
      | cons a b => exact ⟨_, _, rfl⟩
    have hlen : (0 : Int) < ((x0 :: ps').length : Int) := by simp only [List.length_cons]; omega
    obtain ⟨m, hm, hm2⟩ := nat_mod (n := n / 6144) hlen
    have hml : m < (x0 :: ps').length := by exact_mod_cast hm2
    have hget : at' ((x0 :: ps').map AV.int) (n / 6144 % ((x0 :: ps').length : Int)) = some (.int (x0 :: ps')[m]) := at_nat hm (by rw [List.getElem?_map, List.getElem?_eq_getElem hml]; rfl)
    have hpx := hps _ (List.getElem_mem hml)
    generalize (x0 :: ps')[m] = pm at hget hpx
    have hp0 := hps x0 List.mem_cons_self
    split
    · walk_at "s"
      refine ⟨_, hp, ?_⟩
      walk_at "s"
      rw [List.length_map]
      refine ⟨hlen, ?_⟩
      walk_at "s"
      exact ⟨_, _, hp, hget, Wk.refl (hQ _ ⟨by omega, by omega⟩)⟩
    · repeat (walk_at "c")
      refine ⟨hs0, ?_⟩
      walk_at "s"
      refine ⟨_, hp, ?_⟩
      walk_at "s"
      rw [List.length_map]
      refine ⟨hlen, ?_⟩
      walk_at "s"
      refine ⟨_, _, hp, hget, ?_⟩
      walk_at "s"
      refine ⟨_, .int x0, hp, rfl, ?_⟩
      walk_at "s"
      repeat (walk_at "c")
      intro q5 h5
      try dsimp only
      have z0 := Int.emod_nonneg (n / 6144) (show size ≠ 0 by omega)
      have z1 := Int.emod_lt_of_pos (n / 6144) hs0
      obtain ⟨k, hk, hk2⟩ := nat_mod (n := n / 384) (show (0 : Int) < 5 by decide)
      walk_at "s"
      repeat (walk_at "c")
      have hk3 : k = 0 ∨ k = 1 ∨ k = 2 ∨ k = 3 ∨ k = 4 := by omega
      rcases hk3 with rfl | rfl | rfl | rfl | rfl
      all_goals exact ⟨_, _, .inl aupd_same, at_nat hk rfl, AH, Sub.new h5, hQ _ ⟨by omega, by omega⟩⟩

def sp__law_pages : ASp := fun xs AH Q _ => ∃ (p : Addr) (ns : List Int) (many : Nat), xs = [.ref p, .int many] ∧ LstAt AH p (ns.map .int) ∧ many ≤ ns.length ∧ many ≤ 8 ∧ ∀ (q : Addr) (gs : List (Bool × Bool × Bool)), AH q = none → gs.length = many → Q (.ref q) (aupd AH q (.lst (gs.map pageA)))
theorem sc__law_pages : FnScope ["numbers", "many", "pages", "k", "draw"] ["numbers", "many"] (defScope (top 36)) := ⟨rfl, rfl, rfl, by decide +kernel, rfl, by decide +kernel, by decide +kernel⟩
theorem ok__law_pages (T : Top P w K mg base) : DefOk P w K mg base CX0 1 (He.fAd K ("_law_pages", none)) ["numbers", "many"] sp__law_pages := by
  have sc := sc__law_pages
  refine T.d__law_pages.ok sc (fun _ _ _ _ _ _ us hl => match us, hl with | [_, _], _ => rfl) ?len (fun cdv A outer s H E hr => ⟨_, (ass_cons (as_set (i := 2) sc.nd (ae_lst al_nil))
  (ass_cons (as_for PassesOwn.never rfl (ai_range1 T.b_range (al_cons (av 1) al_nil)) (ag_name (i := 3) sc.nd)
  (ass_fg (ass_cons (as_set (i := 4) sc.nd (ae_ix (av 0) (av 3)))
  (ass_one (as_expr (ae_lm PySem.F.slot_list_append PySem.F.type_list_append am_append (av 2) (al_cons (ae_tup (al_cons (ae_cmp ao_gt (ae_op ao_mod (av 4) ae_int) ae_int) (al_cons (ae_cmp ao_gt (ae_op ao_mod (ae_op ao_fdiv (av 4) ae_int) ae_int) ae_int) (al_cons (ae_or (ae_cmp (ao_eq (hu64 hr)) (av 3) ae_int) (ae_one (ae_cmp ao_gt (ae_op ao_mod (ae_op ao_fdiv (av 4) ae_int) ae_int) ae_int))) al_nil)))) al_nil)))))))
  (ass_one (as_ret (av 2))))), ?body⟩)
  case len => rintro _ _ _ _ ⟨_, _, _, rfl, _⟩; rfl
  case body =>
    rintro xs AH Q EA ⟨p, ns, many, rfl, hp, hl, hm, hQ⟩
    walk_at "s"
    intro q1 h1
    refine ⟨by rw [sizeLine_eq]; omega, by omega, ?_⟩
    rw [Int.toNat_natCast]
    refine loop_fw (fun i : Nat => AV.int (0 + ((i : Nat) : Int))) (List.range many) (fun pre σ AH' => ∃ a3 a4, ∃ gs : List (Bool × Bool × Bool), σ = [some (.ref p), some (.int many), some (.ref q1), a3, a4] ∧ AH' q1 = some (.lst (gs.map pageA)) ∧ gs.length = pre.length ∧ Sub AH AH') ?_ ?_ _ _ ⟨_, _, [], rfl, aupd_same, rfl, Sub.new h1⟩
    · rintro _ AH' ⟨a3, a4, gs, rfl, e1, e2, hs⟩
      rw [List.length_range] at e2
      exact ⟨trivial, _, hs.at_ e1 h1, hQ q1 gs h1 e2⟩
    · rintro N B Rt hB hR pre k l e ih _ AH' ⟨a3, a4, gs, rfl, e1, e2, hs⟩
      refine ⟨trivial, ?_⟩
      have hk : k < many := by
        have : k ∈ List.range many := by rw [e]; simp
        simpa using this
      have hpre : pre.length < many := by
        have : (List.range many).length = pre.length + (l.length + 1) := by rw [e]; simp
        rw [List.length_range] at this; omega
      walk_at "s"
      refine ⟨_, .int (ns[k]'(by omega)), LstAt.sub hs hp, at_nat (n := k) (by omega) (by rw [List.getElem?_map, List.getElem?_eq_getElem (by omega)]; rfl), ?_⟩
      generalize ns[k]'(by omega) = d
      walk_at "s"
      refine ⟨⟨_, e1⟩, ?_⟩
      walk_at "s"
      repeat (walk_at "c")
      have fin : ∀ a b c : Bool, ∀ a3 a4, WkS N [some (.ref p), some (.int many), some (.ref q1), a3, a4] (aupd AH' q1 (.lst (gs.map pageA ++ [.tup [.bl a, .bl b, .bl c]]))) := fun a b c a3 a4 =>
        WkS.refl (ih _ _ ⟨_, _, gs ++ [(a, b, c)], rfl, by rw [aupd_same, List.map_append]; rfl, by simp [e2], hs.over h1 _⟩)
      have hlen : (gs.map pageA).length + 1 ≤ sizeLine := by rw [List.length_map, sizeLine_eq]; omega
      cases decide (0 + (k : Int) = 0) with
      | true =>
        walk_at "s"
        exact ⟨_, e1, hlen, fin _ _ _ _ _⟩
      | false =>
        walk_at "s"
        repeat (walk_at "c")
        exact ⟨_, e1, hlen, fin _ _ _ _ _⟩

end K81
namespace K81
open PySem PySem.Spec PyProof.Rows L2 Av
local macro_rules | `(tactic| walk_at "s") => `(tactic| conv => whnf)
local macro_rules | `(tactic| walk_at "n") => `(tactic| first | assumption | (apply Ne.symm; assumption) | exact ne_of_at (by assumption) (by assumption) | exact Ne.symm (ne_of_at (by assumption) (by assumption)))
local macro_rules | `(tactic| walk_at "h") => `(tactic| first | exact aupd_same | assumption | exact (aupd_ne (by walk_at "n")).trans (by walk_at "h"))
local macro_rules | `(tactic| walk_at "c") => `(tactic| ((first | refine ⟨mod_ok, ?_⟩ | refine ⟨cdiv_ok, ?_⟩ | refine ⟨cmul_l ⟨by omega, by omega⟩, ?_⟩ | refine ⟨cmul_r ⟨by omega, by omega⟩, ?_⟩); conv => whnf))
variable {P : Program} {w : World} {K : PySem.W.Frag} {mg : Str → Option Value} {base : Heap}
def kA (k : Str × Int) : AV := .tup [.str k.1, .int k.2]
def wides (ks : List (Str × Int)) : Nat := (ks.map fun k => wide k.1).sum
theorem wides_add (ks ls : List (Str × Int)) : wides (ks ++ ls) = wides ks + wides ls := by unfold wides; rw [List.map_append, List.sum_append]
theorem wide_le (w : Str) : 1 ≤ wide w ∧ wide w ≤ 2 := by unfold wide; split <;> omega
structure LaidAt (p1 p2 : Addr) (base size : Nat) (AH AH' : AHp) (ps : List Int) (ks : List (Str × Int)) : Prop where
  places : AH' p1 = some (.lst (ps.map .int))
  kinds : AH' p2 = some (.lst (ks.map kA))
  same : ps.length = ks.length
  good : ∀ k ∈ ks, k.1 ∈ kinds24 ∧ 0 ≤ k.2
  room : base + wides ks ≤ size
  place : ∀ x ∈ ps, 0 ≤ x ∧ x ≤ 200
  sub : Sub AH AH'
def sp__law_laid : ASp := fun xs AH Q _ => ∃ (p : Addr) (ns : List Int) (base size : Nat), xs = [.ref p, .int base, .int size] ∧ LstAt AH p (ns.map .int) ∧ ns ≠ [] ∧ ns.length ≤ 100 ∧ (∀ n ∈ ns, Draw n) ∧ base ≤ 5 ∧ 16 ≤ size ∧ size ≤ 128 ∧
  ∀ (a b : Addr) (ps ws : List Int), AH a = none → AH b = none → a ≠ b → (∀ x ∈ ps, 0 ≤ x ∧ x ≤ 200) → (∀ x ∈ ws, Word x) → base + ws.length ≤ size → Q (.tup [.ref a, .ref b]) (aupd (aupd AH a (.lst (ps.map .int))) b (.lst (ws.map .int)))
theorem sc__law_laid : FnScope ["numbers", "base", "size", "places", "kinds", "at", "number", "words", "word"] ["numbers", "base", "size"] (defScope (top 37)) := ⟨rfl, rfl, rfl, by decide +kernel, rfl, by decide +kernel, by decide +kernel⟩
theorem ok__law_laid (T : Top P w K mg base) : DefOk P w K mg base CX0 2 (He.fAd K ("_law_laid", none)) ["numbers", "base", "size"] sp__law_laid := by
  have sc := sc__law_laid
  refine T.d__law_laid.ok sc (fun _ _ _ _ _ _ us hl => match us, hl with | [_, _, _], _ => rfl) ?len (fun cdv A outer s H E hr => ⟨_, (ass_cons (as_set (i := 3) sc.nd (ae_lst al_nil))
  (ass_cons (as_set (i := 4) sc.nd (ae_lst al_nil))
  (ass_cons (as_set (i := 5) sc.nd (av 1))
  (ass_cons (as_for PassesOwn.never rfl (ai_any (av 0)) (ag_name (i := 6) sc.nd)
  (ass_fg (ass_cons (as_set (i := 8) sc.nd (ae_call (ok__law_kind T) T.m__law_kind (hr.mono (by decide)) (al_cons (av 6) al_nil)))
  (ass_one (as_if (at_cmp ao_le (ae_op ao_add (ae_op ao_add (av 5) (ae_call (ok__law_wide T) T.m__law_wide (hr.mono (by decide)) (al_cons (av 8) al_nil))) ae_int) (av 2))
  (ass_cons (as_expr (ae_lm PySem.F.slot_list_append PySem.F.type_list_append am_append (av 3) (al_cons (av 5) al_nil)))
  (ass_cons (as_expr (ae_lm PySem.F.slot_list_append PySem.F.type_list_append am_append (av 4) (al_cons (ae_tup (al_cons (av 8) (al_cons (av 6) al_nil))) al_nil)))
  (ass_one (as_set (i := 5) sc.nd (ae_op ao_add (av 5) (ae_call (ok__law_wide T) T.m__law_wide (hr.mono (by decide)) (al_cons (av 8) al_nil)))))))
  ass_nil)))))
  (ass_cons (as_set (i := 7) sc.nd (ae_lst al_nil))
  (ass_cons (as_for PassesOwn.never rfl (ai_any (av 4)) (ag_tup (n := 2) rfl (ags_cons (ag_name (i := 8) sc.nd) (ags_cons (ag_name (i := 6) sc.nd) ags_nil)))
  (ass_fg (ass_one (as_set (i := 7) sc.nd (ae_op ao_add (av 7) (ae_call (ok__law_row_words T) T.m__law_row_words (hr.mono (by decide)) (al_cons (av 8) (al_cons (av 6) (al_cons (ae_call (ok__law_goal T) T.m__law_goal (hr.mono (by decide)) (al_cons (av 8) (al_cons (av 6) (al_cons (av 3) (al_cons (av 2) al_nil))))) al_nil)))))))))
  (ass_cons (as_if (PW.pt (aw_and (at_cmp ao_le (ae_op ao_add (av 5) ae_int) (av 2)) (aw_and1 (at_cmp ao_gt (ae_op ao_mod (ae_op ao_fdiv (ae_ix (av 0) ae_int) ae_int) ae_int) ae_int))))
  (ass_one (as_set (i := 7) sc.nd (ae_op ao_add (av 7) (ae_lst (al_cons (ae_op ao_mul ae_int ae_int) (al_cons (av 1) al_nil))))))
  ass_nil)
  (ass_one (as_ret (ae_tup (al_cons (av 3) (al_cons (av 7) al_nil)))))))))))), ?body⟩)
  case len => rintro _ _ _ _ ⟨_, _, _, _, rfl, _⟩; rfl
  case body =>
    rintro xs AH Q EA ⟨p, ns, base, size, rfl, hp, hne, hnl, hd, hb, hs0, hs1, hQ⟩
    walk_at "s"
    intro p1 h1
    walk_at "s"
    intro p2 h2
    have h2' := aupd_none h2
    walk_at "s"
    refine ⟨_, LstAt.sub ((Sub.new h1).trans (Sub.new h2)) hp, ?_⟩
    refine loop_fw AV.int ns (fun pre σ AH' => ∃ a6 a7 a8, ∃ (ps : List Int) (ks : List (Str × Int)), σ = [some (.ref p), some (.int base), some (.int size), some (.ref p1), some (.ref p2), some (.int ((base + wides ks : Nat) : Int)), a6, a7, a8] ∧ LaidAt p1 p2 base size AH AH' ps ks ∧ ks.length ≤ pre.length) ?_ ?_ _ _ ⟨_, _, _, [], [], rfl, ⟨(aupd_ne (Ne.symm h2'.1)).trans aupd_same, aupd_same, rfl, (fun _ h => nomatch h), by unfold wides; simp; omega, (fun _ h => nomatch h), (Sub.new h1).trans (Sub.new h2)⟩, Nat.zero_le _⟩
    · rintro _ AH' ⟨a6, a7, a8, ps, ks, rfl, S, hk⟩
      refine ⟨LstAt.sub S.sub hp, ?_⟩
      walk_at "s"
      intro b0 hb0
      walk_at "s"
      refine ⟨_, .inl (Sub.new hb0 _ _ S.kinds), ?_⟩
      have hb1 : ∀ {A b}, Sub AH A → A b = none → AH b = none := fun h g => h.none g
      refine loop_fw kA ks (fun pre σ A2 => ∃ b a6 a8, ∃ ws : List Int, σ = [some (.ref p), some (.int base), some (.int size), some (.ref p1), some (.ref p2), some (.int ((base + wides ks : Nat) : Int)), a6, some (.ref b), a8] ∧ LaidAt p1 p2 base size AH A2 ps ks ∧ A2 b = some (.lst (ws.map .int)) ∧ ws.length = wides pre ∧ (∀ x ∈ ws, Word x) ∧ AH b = none ∧ b ≠ p1 ∧ b ≠ p2) ?_ ?_ _ _
        ⟨b0, a6, a8, [], rfl, ⟨Sub.new hb0 _ _ S.places, Sub.new hb0 _ _ S.kinds, S.same, S.good, S.room, S.place, S.sub.trans (Sub.new hb0)⟩, aupd_same, rfl, (fun _ h => nomatch h), S.sub.none hb0, Ne.symm (ne_of_at S.places hb0), Ne.symm (ne_of_at S.kinds hb0)⟩
      · rintro _ A2 ⟨b, a6, a8, ws, rfl, S2, e1, e2, e3, e4, e5, e6⟩
        refine ⟨.inl S2.kinds, ?_⟩
        walk_at "s"
        have fin : ∀ (A3 : AHp) (b : Addr) (ws : List Int), Sub AH A3 → A3 p1 = some (.lst (ps.map .int)) → A3 b = some (.lst (ws.map .int)) → AH b = none → b ≠ p1 → (∀ x ∈ ws, Word x) → base + ws.length ≤ size → Wk Q (.tup [.ref p1, .ref b]) A3 := fun A3 b ws g1 g2 g3 g4 g5 g6 g7 =>
          ⟨_, (g1.at_ g2 h1).at_ g3 ((aupd_ne g5).trans g4), hQ p1 b ps ws h1 g4 (Ne.symm g5) S2.place g6 g7⟩
        have fin0 := fin A2 b ws S2.sub S2.places e1 e4 e5 e3 (by rw [e2]; exact S2.room)
        split <;> rename_i hc
        · replace hc := of_decide_eq_true hc
          walk_at "s"
          obtain ⟨n0, ns', rfl⟩ : ∃ n0 ns', ns = n0 :: ns' := by
            cases ns with
            | nil => exact absurd rfl hne
            | cons a b => exact ⟨_, _, rfl⟩
          refine ⟨_, _, LstAt.sub S2.sub hp, rfl, ?_⟩
          walk_at "s"
          repeat (walk_at "c")
          split
          · repeat (walk_at "c")
            intro r hr
            walk_at "s"
            refine ⟨ws.map .int, [11 * 256, (base : Int)].map .int, Sub.new hr _ _ e1, aupd_same, by rw [List.length_map, e2, sizeLine_eq]; have := S2.room; simp; omega, fun r2 hr2 => ?_⟩
            have sb := fun o => S2.sub.trans ((Sub.new hr).trans (Sub.new (o := o) hr2))
            refine fin _ r2 (ws ++ [11 * 256, (base : Int)]) (sb _) (Sub.new hr2 _ _ (Sub.new hr _ _ S2.places)) (by rw [aupd_same, List.map_append]) ((S2.sub.trans (Sub.new hr)).none hr2) ?_ ?_ ?_
            · exact Ne.symm (ne_of_at (Sub.new hr _ _ S2.places) hr2)
            · intro x hx
              rcases List.mem_append.mp hx with h | h
              · exact e3 x h
              · have h' : x = 11 * 256 ∨ x = base := by simpa using h
                rcases h' with rfl | rfl
                · exact ⟨by decide, by decide⟩
                · exact ⟨by omega, by omega⟩
            · rw [List.length_append, e2]; simp; omega
          · exact fin0
        · exact fin0
      · rintro N B Rt hB hR pre2 k l2 e ih _ A2 ⟨b, a6, a8, ws, rfl, S2, e1, e2, e3, e4, e5, e6⟩
        refine ⟨.inl S2.kinds, ?_⟩
        walk_at "s"
        have hk := S2.good k (by rw [e]; simp)
        have hps : ps ≠ [] := by
          intro z
          have := S2.same
          rw [z, e] at this
          simp at this
        walk_at "s"
        refine ⟨rfl, ?_⟩
        walk_at "s"
        refine ⟨k.1, k.2, p1, ps, size, rfl, hk.1, hk.2, .inl S2.places, hps, S2.place, by omega, by omega, fun m hm => ?_⟩
        walk_at "s"
        refine ⟨k.1, k.2, m, rfl, hk.1, hk.2, hm, fun q ns' hq hl hd' => ?_⟩
        walk_at "s"
        have ew : wides pre2 + wide k.1 ≤ wides ks := by
          rw [e, wides_add]
          unfold wides
          simp
        have hroom := S2.room
        refine ⟨_, _, Sub.new hq _ _ e1, aupd_same, by rw [List.length_map, List.length_map, e2, hl, sizeLine_eq]; omega, fun q2 hq2 => ?_⟩
        have sb := (Sub.new (o := .lst (ns'.map .int)) hq).trans (Sub.new (o := .lst (ws.map .int ++ ns'.map .int)) hq2)
        refine WkS.refl (ih _ _ ⟨q2, _, _, ws ++ ns', rfl, ⟨sb _ _ S2.places, sb _ _ S2.kinds, S2.same, S2.good, S2.room, S2.place, S2.sub.trans sb⟩, by rw [aupd_same, List.map_append], ?_, ?_, (S2.sub.trans (Sub.new hq)).none hq2, Ne.symm (ne_of_at (Sub.new hq _ _ S2.places) hq2), Ne.symm (ne_of_at (Sub.new hq _ _ S2.kinds) hq2)⟩)
        · rw [List.length_append, e2, hl, wides_add]
          unfold wides
          simp
        · intro x hx
          rcases List.mem_append.mp hx with h | h
          · exact e3 x h
          · exact hd' x h
    · rintro N B Rt hB hR pre n l e ih _ AH' ⟨a6, a7, a8, ps, ks, rfl, S, hk⟩
      refine ⟨LstAt.sub S.sub hp, ?_⟩
      walk_at "s"
      refine ⟨n, rfl, fun w hw => ?_⟩
      walk_at "s"
      refine ⟨w, rfl, hw, ?_⟩
      walk_at "s"
      have hkl : ks.length + 1 ≤ sizeLine := by
        have : ns.length = pre.length + (l.length + 1) := by rw [e]; simp
        rw [sizeLine_eq]; omega
      have h21 := (aupd_none h2).1
      split <;> rename_i hc
      · replace hc := of_decide_eq_true hc
        walk_at "s"
        refine ⟨⟨_, S.places⟩, ?_⟩
        walk_at "s"
        refine ⟨_, S.places, by rw [List.length_map, S.same]; exact hkl, ?_⟩
        walk_at "s"
        refine ⟨⟨_, (aupd_ne h21).trans S.kinds⟩, ?_⟩
        walk_at "s"
        refine ⟨_, (aupd_ne h21).trans S.kinds, by rw [List.length_map]; exact hkl, ?_⟩
        walk_at "s"
        refine ⟨w, rfl, hw, ?_⟩
        walk_at "s"
        have eks : wides (ks ++ [(w, n)]) = wides ks + wide w := by rw [wides_add]; unfold wides; simp
        refine WkS.refl (ih _ _ ⟨some (.int n), a7, some (.str w), ps ++ [((base + wides ks : Nat) : Int)], ks ++ [(w, n)], ?_, ⟨?_, ?_, ?_, ?_, ?_, ?_, ?_⟩, ?_⟩)
        · have z : ((base + wides ks : Nat) : Int) + ((wide w : Nat) : Int) = ((base + (wides ks + wide w) : Nat) : Int) := by omega
          rw [eks, ← z]
          rfl
        · rw [aupd_ne (Ne.symm h21), aupd_same, List.map_append]; rfl
        · rw [aupd_same, List.map_append]; rfl
        · simp [S.same]
        · intro k hk
          rcases List.mem_append.mp hk with h | h
          · exact S.good k h
          · rw [show k = (w, n) by simpa using h]
            exact ⟨hw, (hd n (by rw [e]; simp)).1⟩
        · rw [eks]; omega
        · intro x hx
          rcases List.mem_append.mp hx with h | h
          · exact S.place x h
          · rw [show x = ((base + wides ks : Nat) : Int) by simpa using h]
            omega
        · exact (S.sub.over h1 _).over h2'.2 _
        · simp; omega
      · exact WkS.refl (ih _ _ ⟨_, _, _, ps, ks, rfl, S, by simp; omega⟩)

end K81
namespace K81
open PySem PySem.Spec PyProof.Rows L2 Av
local macro_rules | `(tactic| walk_at "s") => `(tactic| conv => whnf)
local macro_rules | `(tactic| walk_at "n") => `(tactic| first | assumption | (apply Ne.symm; assumption) | exact ne_of_at (by assumption) (by assumption) | exact Ne.symm (ne_of_at (by assumption) (by assumption)))
local macro_rules | `(tactic| walk_at "h") => `(tactic| first | exact aupd_same | assumption | exact (aupd_ne (by walk_at "n")).trans (by walk_at "h"))
local macro_rules | `(tactic| walk_at "c") => `(tactic| ((first | refine ⟨mod_ok, ?_⟩ | refine ⟨cdiv_ok, ?_⟩ | refine ⟨cmul_l ⟨by omega, by omega⟩, ?_⟩ | refine ⟨cmul_r ⟨by omega, by omega⟩, ?_⟩); conv => whnf))
variable {P : Program} {w : World} {K : PySem.W.Frag} {mg : Str → Option Value} {base : Heap}
/-- what a maker of a beginning promises -/
def BegOut (Q : AVK) (AH : AHp) : Prop := ∀ (B : Beg), BegOk B → ∀ p c b, AH p = none → AH c = none → AH b = none → p ≠ c → p ≠ b → c ≠ b →
  Q (.tup [.ref p, .ref c, .ref b, .int B.place]) (aupd (aupd (aupd AH p (.lst (B.pages.map pageA))) c (.lst (B.cells.map .int))) b (.lst (B.boxes.map .int)))
def sp__law_program : ASp := fun xs AH Q _ => ∃ (p : Addr) (cs : List Int) (at_ : Nat), xs = [.ref p, .int at_] ∧ LstAt AH p (cs.map .int) ∧ BegOut Q AH
theorem sc__law_program : FnScope ["script", "at", "numbers", "head", "many", "size", "cells", "k", "base", "places", "words", "boxes", "place", "draw"] ["script", "at"] (defScope (top 38)) := ⟨rfl, rfl, rfl, by decide +kernel, rfl, by decide +kernel, by decide +kernel⟩
theorem ok__law_program (T : Top P w K mg base) : DefOk P w K mg base CX0 3 (He.fAd K ("_law_program", none)) ["script", "at"] sp__law_program := by
  have sc := sc__law_program
  refine T.d__law_program.ok sc (fun _ _ _ _ _ _ us hl => match us, hl with | [_, _], _ => rfl) ?len (fun cdv A outer s H E hr => ⟨_, (ass_cons (as_set (i := 2) sc.nd (ae_call (ok__law_numbers T) T.m__law_numbers (hr.mono (by decide)) (al_cons (av 0) (al_cons (av 1) (al_cons ae_int al_nil)))))
  (ass_cons (as_set (i := 3) sc.nd (ae_ix (av 2) ae_int))
  (ass_cons (as_set (i := 4) sc.nd (ae_op ao_add ae_int (ae_op ao_mod (av 3) ae_int)))
  (ass_cons (as_if (at_cmp (ao_eq (hu64 hr)) (ae_op ao_mod (ae_op ao_fdiv (av 3) ae_int) ae_int) ae_int)
  (ass_one (as_set (i := 4) sc.nd ae_int))
  ass_nil)
  (ass_cons (as_set (i := 5) sc.nd (ae_op ao_mul ae_int (av 4)))
  (ass_cons (as_set (i := 6) sc.nd (ae_lst al_nil))
  (ass_cons (as_for PassesOwn.never rfl (ai_range1 T.b_range (al_cons (av 5) al_nil)) (ag_name (i := 7) sc.nd)
  (ass_fg (ass_cons (as_set (i := 13) sc.nd (ae_op ao_add (ae_ix (av 2) (ae_op ao_add ae_int (ae_op ao_mod (av 7) ae_int))) (ae_op ao_mul ae_int (av 7))))
  (ass_one (as_expr (ae_lm PySem.F.slot_list_append PySem.F.type_list_append am_append (av 6) (al_cons (ae_ix (ae_lst (al_cons ae_int (al_cons (ae_op ao_mod (av 13) ae_int) (al_cons (ae_op ao_mod (av 13) (av 5)) (al_cons (ae_op ao_mod (av 13) ae_int) al_nil))))) (ae_op ao_mod (ae_op ao_fdiv (av 13) ae_int) ae_int)) al_nil)))))))
  (ass_cons (as_set (i := 8) sc.nd (ae_op ao_mod (ae_op ao_fdiv (av 3) ae_int) ae_int))
  (ass_cons (as_asg (ae_call (ok__law_laid T) T.m__law_laid (hr.mono (by decide)) (al_cons (ae_slice (av 2) (ao_some ae_int) (ao_some (ae_op ao_add (ae_op ao_add ae_int ae_int) (ae_op ao_mod (ae_op ao_fdiv (av 3) ae_int) ae_int)))) (al_cons (av 8) (al_cons (av 5) al_nil)))) (ag_tup (n := 2) rfl (ags_cons (ag_name (i := 9) sc.nd) (ags_cons (ag_name (i := 10) sc.nd) ags_nil))))
  (ass_cons (as_for PassesOwn.never rfl (ai_range1 T.b_range (al_cons (ae_callB ac_len T.b_len (al_cons (av 10) al_nil)) al_nil)) (ag_name (i := 7) sc.nd)
  (ass_fg (ass_one (as_asg (ae_ix (av 10) (av 7)) (ag_sub aset_list (av 6) (ae_op ao_add (av 8) (av 7)))))))
  (ass_cons (as_set (i := 11) sc.nd (ae_lst (al_cons (ae_op ao_mod (ae_ix (av 2) ae_int) ae_int) (al_cons (ae_op ao_mod (ae_ix (av 2) ae_int) (av 5)) (al_cons (ae_op ao_add (av 8) (ae_op ao_mod (ae_ix (av 2) ae_int) ae_int)) (al_cons (ae_op ao_mod (ae_ix (av 2) ae_int) ae_int) al_nil))))))
  (ass_cons (as_set (i := 12) sc.nd (av 8))
  (ass_cons (as_if (PW.pt (aw_and (at_cmp (ao_eq (hu64 hr)) (ae_op ao_mod (ae_ix (av 2) ae_int) ae_int) ae_int) (aw_and1 (at_cmp ao_gt (ae_callB ac_len T.b_len (al_cons (av 9) al_nil)) ae_int))))
  (ass_one (as_set (i := 12) sc.nd (ae_ix (av 9) (ae_op ao_mod (ae_op ao_fdiv (ae_ix (av 2) ae_int) ae_int) (ae_callB ac_len T.b_len (al_cons (av 9) al_nil))))))
  ass_nil)
  (ass_one (as_ret (ae_tup (al_cons (ae_call (ok__law_pages T) T.m__law_pages (hr.mono (by decide)) (al_cons (ae_slice (av 2) (ao_some ae_int) (ao_some ae_int)) (al_cons (av 4) al_nil))) (al_cons (av 6) (al_cons (av 11) (al_cons (av 12) al_nil)))))))))))))))))))), ?body⟩)
  case len => rintro _ _ _ _ ⟨_, _, _, rfl, _⟩; rfl
  case body =>
    rintro xs AH Q EA ⟨p, cs, at_, rfl, hp, hQ⟩
    walk_at "s"
    refine ⟨p, cs, at_, 80, rfl, hp, by decide, fun q0 ns h0 hl hd => ?_⟩
    have en : ∀ (i : Nat) (h : i < 80), ∃ x, ns[i]? = some x ∧ Draw x := fun i h => ⟨ns[i]'(by omega), List.getElem?_eq_getElem _, hd _ (List.getElem_mem _)⟩
    have ga : ∀ {i : Int} (n : Nat) {x : Int}, i = (n : Int) → ns[n]? = some x → at' (ns.map AV.int) i = some (.int x) := fun n x h g => at_nat h (by rw [List.getElem?_map, g]; rfl)
    obtain ⟨d0, g0, hd0⟩ := en 0 (by decide)
    obtain ⟨d0a, d0b⟩ := hd0
    dsimp only [agName]
    have hs0 := Sub.new (o := .lst (ns.map .int)) h0
    refine seq_with3 (fun σ A1 => ∃ m : Nat, 1 ≤ m ∧ m ≤ 8 ∧ σ = [some (.ref p), some (.int at_), some (.ref q0), some (.int d0), some (.int m), none, none, none, none, none, none, none, none, none] ∧ A1 = aupd AH q0 (.lst (ns.map .int))) ?_ ?_
    · intro N hN
      walk_at "s"
      refine ⟨_, _, .inl aupd_same, ga 0 rfl g0, ?_⟩
      repeat (walk_at "c")
      split
      · exact hN _ _ ⟨8, by decide, by decide, rfl, rfl⟩
      · obtain ⟨k, hk, hk2⟩ := nat_mod (n := d0) (show (0 : Int) < 4 by decide)
        refine hN _ _ ⟨k + 1, by omega, by omega, ?_, rfl⟩
        rw [show (((k + 1 : Nat) : Int)) = 1 + d0 % 4 by omega]
        rfl
    rintro _ _ ⟨m, m1, m8, rfl, rfl⟩
    repeat (walk_at "c")
    intro q1 h1
    walk_at "s"
    have hs1 := hs0.trans (Sub.new (o := .lst []) h1)
    refine ⟨by rw [sizeLine_eq]; omega, by omega, ?_⟩
    rw [show (16 * (m : Int)).toNat = 16 * m by omega]
    have h1' := aupd_none h1
    refine loop_fw (fun i : Nat => AV.int (0 + ((i : Nat) : Int))) (List.range (16 * m)) (fun pre σ A2 => ∃ a7 a13, ∃ ms : List Int, σ = [some (.ref p), some (.int at_), some (.ref q0), some (.int d0), some (.int m), some (.int (16 * m)), some (.ref q1), a7, none, none, none, none, none, a13] ∧ A2 q1 = some (.lst (ms.map .int)) ∧ ms.length = pre.length ∧ (∀ x ∈ ms, Word x) ∧ Sub AH A2 ∧ A2 q0 = some (.lst (ns.map .int))) ?_ ?_ _ _ ⟨_, _, [], rfl, aupd_same, rfl, (fun _ h => nomatch h), hs1, (aupd_ne (Ne.symm h1'.1)).trans aupd_same⟩
    · rintro _ A2 ⟨a7, a13, ms, rfl, e1, e2, e3, hs, eq0⟩
      rw [List.length_range] at e2
      refine ⟨trivial, ?_⟩
      repeat (walk_at "c")
      obtain ⟨base, hbase, hb2⟩ := nat_mod (n := d0 / 36) (show (0 : Int) < 6 by decide)
      obtain ⟨t, ht, ht2⟩ := nat_mod (n := d0 / 216) (show (0 : Int) < 24 by decide)
      refine ⟨_, .inl eq0, fun q2 h2 => ?_⟩
      try dsimp only
      rw [cutA_nat (i := 20) (j := 20 + 2 + d0 / 216 % 24) (a := 20) (b := 22 + t) rfl (by omega), hbase]
      walk_at "s"
      refine ⟨q2, (ns.drop 20).take (22 + t - 20), base, 16 * m, by push_cast; rfl, .inl (by rw [aupd_same, List.map_take, List.map_drop]), ?_, ?_, ?_, by omega, by omega, by omega, ?_⟩
      · intro z
        have := congrArg List.length z
        simp [hl] at this
        omega
      · simp; omega
      · exact fun n hn => hd n (List.mem_of_mem_drop (List.mem_of_mem_take hn))
      intro a b ps ws ha hb hab hps hws hlen
      have ha' := aupd_none ha
      have hb' := aupd_none hb
      have q1a : q1 ≠ a := ne_of_at e1 ha'.2
      have q1b : q1 ≠ b := ne_of_at e1 hb'.2
      have sb := fun (o o' : AO) => (Sub.new (o := o) ha).trans (Sub.new (o := o') (aupd_eq_none.mpr ⟨Ne.symm hab, hb⟩))
      have s2 := fun (o : AO) => Sub.new (o := o) h2
      walk_at "s"
      refine ⟨rfl, ?_⟩
      walk_at "s"
      refine ⟨_, .inl aupd_same, ?_⟩
      walk_at "s"
      rw [List.length_map]
      refine ⟨by rw [sizeLine_eq]; omega, by omega, ?_⟩
      rw [Int.toNat_natCast]
      refine loop_fw (fun i : Nat => AV.int (0 + ((i : Nat) : Int))) (List.range ws.length) (fun pre σ A3 => ∃ a7, ∃ ms : List Int, σ = [some (.ref p), some (.int at_), some (.ref q0), some (.int d0), some (.int m), some (.int (16 * m)), some (.ref q1), a7, some (.int base), some (.ref a), some (.ref b), none, none, a13] ∧ A3 q1 = some (.lst (ms.map .int)) ∧ ms.length = 16 * m ∧ (∀ x ∈ ms, Word x) ∧ Sub AH A3 ∧ A3 q0 = some (.lst (ns.map .int)) ∧ A3 a = some (.lst (ps.map .int)) ∧ A3 b = some (.lst (ws.map .int))) ?_ ?_ _ _
        ⟨_, ms, rfl, sb _ _ _ _ (s2 _ _ _ e1), e2, e3, hs.trans ((s2 _).trans (sb _ _)), sb _ _ _ _ (s2 _ _ _ eq0), (aupd_ne hab).trans aupd_same, aupd_same⟩
      · rintro _ A3 ⟨a7, ms, rfl, e1, e2, e3, hs, eq0, ea, eb⟩
        refine ⟨trivial, ?_⟩
        have hm16 : (0 : Int) < 16 * (m : Int) := by omega
        obtain ⟨x70, g70, k70, l70⟩ := en 70 (by decide)
        obtain ⟨x71, g71, k71, l71⟩ := en 71 (by decide)
        obtain ⟨x72, g72, k72, l72⟩ := en 72 (by decide)
        obtain ⟨x73, g73, k73, l73⟩ := en 73 (by decide)
        obtain ⟨x74, g74, k74, l74⟩ := en 74 (by decide)
        have z0 := Int.emod_nonneg x71 (show (16 * (m : Int)) ≠ 0 by omega)
        have z1 := Int.emod_lt_of_pos x71 hm16
        have end_ : ∀ (pl : Int) (q5 : Addr) (gs : List (Bool × Bool × Bool)) (A4 : AHp), Word pl → A3 q5 = none → Sub (aupd A3 q5 (.lst [.int (x70 % 16), .int (x71 % (16 * m)), .int (base + x72 % 16), .int (x73 % 4096)])) A4 → ∀ q7, A4 q7 = none → gs.length = m → Wk Q (.tup [.ref q7, .ref q1, .ref q5, .int pl]) (aupd A4 q7 (.lst (gs.map pageA))) := by
          intro pl q5 gs A4 hpl h5 s5 q7 h7 hgl
          have ok : BegOk ⟨gs, ms, [x70 % 16, x71 % (16 * m), base + x72 % 16, x73 % 4096], pl⟩ :=
            { one := by show 1 ≤ gs.length; omega
              most := by show gs.length ≤ 8; omega
              size := by show ms.length = 16 * gs.length; omega
              cell := e3
              four := rfl
              box := fun n hn => by
                have hn : n = x70 % 16 ∨ n = x71 % (16 * m) ∨ n = base + x72 % 16 ∨ n = x73 % 4096 := by simpa using hn
                rcases hn with rfl | rfl | rfl | rfl <;> exact ⟨by omega, by omega⟩
              here := hpl }
          have n5 : AH q5 = none := hs.none h5
          have n7 : AH q7 = none := hs.none ((Sub.new h5).none (s5.none h7))
          have d75 : q7 ≠ q5 := Ne.symm (ne_of_at (s5 _ _ aupd_same) h7)
          have d71 : q7 ≠ q1 := Ne.symm (ne_of_at (s5 _ _ (Sub.new h5 _ _ e1)) h7)
          have d15 : q1 ≠ q5 := ne_of_at e1 h5
          refine ⟨_, ?_, hQ _ ok q7 q1 q5 n7 h1'.2 n5 d71 d75 d15⟩
          intro c u hc
          by_cases c5 : c = q5
          · subst c5; rw [aupd_same] at hc; cases hc
            exact (aupd_ne (Ne.symm d75)).trans (s5 _ _ aupd_same)
          rw [aupd_ne c5] at hc
          by_cases c1 : c = q1
          · subst c1; rw [aupd_same] at hc; cases hc
            exact (aupd_ne (Ne.symm d71)).trans (s5 _ _ (Sub.new h5 _ _ e1))
          rw [aupd_ne c1] at hc
          by_cases c7 : c = q7
          · subst c7; rw [aupd_same] at hc; cases hc
            exact aupd_same
          rw [aupd_ne c7] at hc
          exact (aupd_ne c7).trans (s5 _ _ (Sub.new h5 _ _ (hs _ _ hc)))
        walk_at "s"
        refine ⟨_, _, .inl eq0, ga 70 rfl g70, ?_⟩
        repeat (walk_at "c")
        refine ⟨_, _, .inl eq0, ga 71 rfl g71, ?_⟩
        walk_at "s"
        refine ⟨hm16, ?_⟩
        walk_at "s"
        refine ⟨_, _, .inl eq0, ga 72 rfl g72, ?_⟩
        repeat (walk_at "c")
        refine ⟨_, _, .inl eq0, ga 73 rfl g73, ?_⟩
        repeat (walk_at "c")
        intro q5 h5
        walk_at "s"
        have s5 := Sub.new (o := .lst [.int (x70 % 16), .int (x71 % (16 * m)), .int (base + x72 % 16), .int (x73 % 4096)]) h5
        have e05 := s5 _ _ eq0
        refine ⟨_, _, .inl e05, ga 74 rfl g74, ?_⟩
        repeat (walk_at "c")
        split
        · walk_at "s"
          have ea5 := s5 _ _ ea
          refine ⟨_, .inl ea5, ?_⟩
          walk_at "s"
          rw [List.length_map]
          split <;> rename_i hpl
          · replace hpl := of_decide_eq_true hpl
            walk_at "s"
            refine ⟨_, _, .inl e05, ga 74 rfl g74, ?_⟩
            repeat (walk_at "c")
            refine ⟨_, .inl ea5, ?_⟩
            walk_at "s"
            rw [List.length_map]
            refine ⟨hpl, ?_⟩
            walk_at "s"
            obtain ⟨g, hg, hg2⟩ := nat_mod (n := x74 / 8) hpl
            have hg3 : g < ps.length := by omega
            have hgb := hps _ (List.getElem_mem hg3)
            refine ⟨_, .int ps[g], .inl ea5, at_nat hg (by rw [List.getElem?_map, List.getElem?_eq_getElem hg3]; rfl), ?_⟩
            walk_at "s"
            refine ⟨_, .inl e05, fun q6 h6 => ?_⟩
            rw [cutA_nat (i := 1) (j := 9) (a := 1) (b := 9) rfl rfl]
            walk_at "s"
            refine ⟨q6, (ns.drop 1).take 8, m, rfl, .inl (by rw [aupd_same, List.map_take, List.map_drop]), by simp [hl]; omega, by omega, fun q7 gs h7 hgl => ?_⟩
            exact end_ _ q5 gs _ ⟨by omega, by omega⟩ h5 (Sub.new h6) q7 h7 hgl
          · walk_at "s"
            refine ⟨_, .inl e05, fun q6 h6 => ?_⟩
            rw [cutA_nat (i := 1) (j := 9) (a := 1) (b := 9) rfl rfl]
            walk_at "s"
            refine ⟨q6, (ns.drop 1).take 8, m, rfl, .inl (by rw [aupd_same, List.map_take, List.map_drop]), by simp [hl]; omega, by omega, fun q7 gs h7 hgl => ?_⟩
            exact end_ _ q5 gs _ ⟨by omega, by omega⟩ h5 (Sub.new h6) q7 h7 hgl
        · walk_at "s"
          refine ⟨_, .inl e05, fun q6 h6 => ?_⟩
          rw [cutA_nat (i := 1) (j := 9) (a := 1) (b := 9) rfl rfl]
          walk_at "s"
          refine ⟨q6, (ns.drop 1).take 8, m, rfl, .inl (by rw [aupd_same, List.map_take, List.map_drop]), by simp [hl]; omega, by omega, fun q7 gs h7 hgl => ?_⟩
          exact end_ _ q5 gs _ ⟨by omega, by omega⟩ h5 (Sub.new h6) q7 h7 hgl
      · rintro N B Rt hB hR pre k l e ih _ A3 ⟨a7, ms, rfl, e1, e2, e3, hs, eq0, ea, eb⟩
        refine ⟨trivial, ?_⟩
        have hk : k < ws.length := by
          have : k ∈ List.range ws.length := by rw [e]; simp
          simpa using this
        walk_at "s"
        refine ⟨_, _, .inl eb, at_nat (n := k) (by omega) (by rw [List.getElem?_map, List.getElem?_eq_getElem hk]; rfl), ?_⟩
        walk_at "s"
        refine ⟨_, base + k, e1, ix_nat (by omega) (by rw [List.length_map]; omega), ?_⟩
        refine WkS.refl (ih _ _ ⟨_, ms.set (base + k) ws[k], rfl, by rw [aupd_same, List.map_set], by simp [e2], fun x hx => ?_, hs.over h1'.2 _, (aupd_ne (Ne.symm h1'.1)).trans eq0, (aupd_ne (Ne.symm q1a)).trans ea, (aupd_ne (Ne.symm q1b)).trans eb⟩)
        rcases List.mem_or_eq_of_mem_set hx with h | h
        · exact e3 x h
        · rw [h]; exact hws _ (List.getElem_mem hk)
    · rintro N B Rt hB hR pre k l e ih _ A2 ⟨a7, a13, ms, rfl, e1, e2, e3, hs, eq0⟩
      refine ⟨trivial, ?_⟩
      have hpre : pre.length < 16 * m := by
        have : (List.range (16 * m)).length = pre.length + (l.length + 1) := by rw [e]; simp
        rw [List.length_range] at this; omega
      have hk : k < 16 * m := by
        have : k ∈ List.range (16 * m) := by rw [e]; simp
        simpa using this
      have hm16 : (0 : Int) < 16 * (m : Int) := by omega
      have fin : ∀ (v : Int) (q : Addr) (o : AO) (a7 a13 : Option AV), Word v → A2 q = none → WkS N [some (.ref p), some (.int at_), some (.ref q0), some (.int d0), some (.int m), some (.int (16 * m)), some (.ref q1), a7, none, none, none, none, none, a13] (aupd (aupd A2 q o) q1 (.lst (ms.map .int ++ [.int v]))) := fun v q o a7 a13 hv hq =>
        ⟨aupd A2 q1 (.lst (ms.map .int ++ [.int v])), (Sub.new hq).mono _ _, ih _ _ ⟨a7, a13, ms ++ [v], rfl, by rw [aupd_same, List.map_append]; rfl, by simp [e2], (fun x hx => by
          rcases List.mem_append.mp hx with h | h
          · exact e3 x h
          · rw [show x = v by simpa using h]; exact hv), hs.over h1'.2 _, (aupd_ne (Ne.symm h1'.1)).trans eq0⟩⟩
      walk_at "c"
      obtain ⟨j, hj, hj2⟩ := nat_mod (n := 0 + (k : Int)) (show (0 : Int) < 60 by decide)
      obtain ⟨x, gx, hx⟩ := en (10 + j) (by omega)
      refine ⟨_, _, .inl eq0, ga (10 + j) (by omega) gx, ?_⟩
      repeat (walk_at "c")
      refine ⟨⟨_, e1⟩, ?_⟩
      repeat (walk_at "c")
      refine ⟨hm16, ?_⟩
      repeat (walk_at "c")
      obtain ⟨D, hD⟩ : ∃ D, x + 37 * (0 + (k : Int)) = D := ⟨_, rfl⟩
      try dsimp only
      rw [hD]
      intro q hq
      walk_at "s"
      repeat (walk_at "c")
      obtain ⟨t, ht, ht2⟩ := nat_mod (n := D / 16) (show (0 : Int) < 4 by decide)
      have z0 := Int.emod_nonneg D (show (16 * (m : Int)) ≠ 0 by omega)
      have z1 := Int.emod_lt_of_pos D hm16
      have t4 : t = 0 ∨ t = 1 ∨ t = 2 ∨ t = 3 := by omega
      have hlen : (ms.map AV.int).length + 1 ≤ sizeLine := by rw [List.length_map, sizeLine_eq]; omega
      rcases t4 with rfl | rfl | rfl | rfl
      all_goals
        refine ⟨_, _, .inl aupd_same, at_nat ht rfl, ?_⟩
        walk_at "s"
        exact ⟨_, Sub.new hq _ _ e1, hlen, fin _ _ _ _ _ ⟨by omega, by omega⟩ hq⟩

def sp__law_digits : ASp := fun xs AH Q _ => ∃ (r : Int) (many : Nat), xs = [.int r, .int many] ∧ many ≤ 100 ∧ ∀ (q : Addr) (ns : List Int), AH q = none → ns.length = many → (∀ n ∈ ns, Word n) → Q (.ref q) (aupd AH q (.lst (ns.map .int)))
theorem sc__law_digits : FnScope ["rest", "many", "found", "k"] ["rest", "many"] (defScope (top 39)) := ⟨rfl, rfl, rfl, by decide +kernel, rfl, by decide +kernel, by decide +kernel⟩
theorem ok__law_digits (T : Top P w K mg base) : DefOk P w K mg base CX0 1 (He.fAd K ("_law_digits", none)) ["rest", "many"] sp__law_digits := by
  have sc := sc__law_digits
  refine T.d__law_digits.ok sc (fun _ _ _ _ _ _ us hl => match us, hl with | [_, _], _ => rfl) ?len (fun cdv A outer s H E hr => ⟨_, (ass_cons (as_set (i := 2) sc.nd (ae_lst al_nil))
  (ass_cons (as_for PassesOwn.never rfl (ai_range1 T.b_range (al_cons (av 1) al_nil)) (ag_name (i := 3) sc.nd)
  (ass_fg (ass_cons (as_expr (ae_lm PySem.F.slot_list_append PySem.F.type_list_append am_append (av 2) (al_cons (ae_op ao_mod (av 0) ae_int) al_nil)))
  (ass_one (as_set (i := 0) sc.nd (ae_op ao_fdiv (av 0) ae_int))))))
  (ass_one (as_ret (av 2))))), ?body⟩)
  case len => rintro _ _ _ _ ⟨_, _, rfl, _⟩; rfl
  case body =>
    rintro xs AH Q EA ⟨r, many, rfl, hm, hQ⟩
    walk_at "s"
    intro q1 h1
    walk_at "s"
    refine ⟨by rw [sizeLine_eq]; omega, by omega, ?_⟩
    rw [Int.toNat_natCast]
    refine loop_fw (fun i : Nat => AV.int (0 + ((i : Nat) : Int))) (List.range many) (fun pre σ AH' => ∃ a4, ∃ r : Int, ∃ ns : List Int, σ = [some (.int r), some (.int many), some (.ref q1), a4] ∧ AH' q1 = some (.lst (ns.map .int)) ∧ ns.length = pre.length ∧ (∀ n ∈ ns, Word n) ∧ Sub AH AH') ?_ ?_ _ _ ⟨_, _, [], rfl, aupd_same, rfl, (fun _ h => nomatch h), Sub.new h1⟩
    · rintro _ AH' ⟨a4, r, ns, rfl, e1, e2, e3, hs⟩
      rw [List.length_range] at e2
      exact ⟨trivial, _, hs.at_ e1 h1, hQ q1 ns h1 e2 e3⟩
    · rintro N B Rt hB hR pre k l e ih _ AH' ⟨a4, r, ns, rfl, e1, e2, e3, hs⟩
      refine ⟨trivial, ?_⟩
      have hpre : pre.length < many := by
        have : (List.range many).length = pre.length + (l.length + 1) := by rw [e]; simp
        rw [List.length_range] at this; omega
      walk_at "s"
      refine ⟨⟨_, e1⟩, ?_⟩
      walk_at "s"
      repeat (walk_at "c")
      refine ⟨_, e1, by rw [List.length_map, sizeLine_eq]; omega, ?_⟩
      walk_at "s"
      repeat (walk_at "c")
      refine WkS.refl (ih _ _ ⟨some (.int (0 + (k : Int))), r / 4096, ns ++ [r % 4096], rfl, by rw [aupd_same, List.map_append]; rfl, by simp [e2], fun n hn => ?_, hs.over h1 _⟩)
      rcases List.mem_append.mp hn with h | h
      · exact e3 n h
      · rw [show n = r % 4096 by simpa using h]
        exact ⟨by omega, by omega⟩

def sp__law_beginning : ASp := fun xs AH Q _ => ∃ (p : Addr) (cs : List Int), xs = [.ref p] ∧ LstAt AH p (cs.map .int) ∧ BegOut Q AH
theorem sc__law_beginning : FnScope ["script", "head", "pages", "cells", "cell"] ["script"] (defScope (top 40)) := ⟨rfl, rfl, rfl, by decide +kernel, rfl, by decide +kernel, by decide +kernel⟩
theorem ok__law_beginning (T : Top P w K mg base) : DefOk P w K mg base CX0 4 (He.fAd K ("_law_beginning", none)) ["script"] sp__law_beginning := by
  have sc := sc__law_beginning
  refine T.d__law_beginning.ok sc (fun _ _ _ _ _ _ us hl => match us, hl with | [_], _ => rfl) ?len (fun cdv A outer s H E hr => ⟨_, (ass_cons (as_set (i := 1) sc.nd (ae_call (ok__law_cell_at T) T.m__law_cell_at (hr.mono (by decide)) (al_cons (av 0) (al_cons ae_int al_nil))))
  (ass_cons (as_if (at_cmp (ao_eq (hu64 hr)) (ae_op ao_mod (av 1) ae_int) ae_int)
  (ass_one (as_ret (ae_call (ok__law_program T) T.m__law_program (hr.mono (by decide)) (al_cons (av 0) (al_cons ae_int al_nil)))))
  ass_nil)
  (ass_cons (as_set (i := 2) sc.nd (ae_lst al_nil))
  (ass_cons (as_set (i := 3) sc.nd (ae_lst al_nil))
  (ass_cons (as_for PassesOwn.never rfl (ai_any (ae_slice (ae_op ao_add (ae_slice (av 0) (ao_some ae_int) (ao_some ae_int)) (ae_lst (al_cons (av 1) al_nil))) ao_none (ao_some (ae_callB ac_max2 T.b_max (al_cons ae_int (al_cons (ae_callB ac_len T.b_len (al_cons (ae_slice (av 0) (ao_some ae_int) (ao_some ae_int)) al_nil)) al_nil)))))) (ag_name (i := 4) sc.nd)
  (ass_fg (ass_cons (as_expr (ae_lm PySem.F.slot_list_append PySem.F.type_list_append am_append (av 2) (al_cons (ae_tup (al_cons (ae_cmp (ao_eq (hu64 hr)) (ae_op ao_mod (av 4) ae_int) ae_int) (al_cons (ae_cmp (ao_eq (hu64 hr)) (ae_op ao_mod (ae_op ao_fdiv (av 4) ae_int) ae_int) ae_int) (al_cons (ae_cmp (ao_eq (hu64 hr)) (ae_op ao_mod (ae_op ao_fdiv (av 4) ae_int) ae_int) ae_int) al_nil)))) al_nil)))
  (ass_one (as_set (i := 3) sc.nd (ae_op ao_add (av 3) (ae_call (ok__law_digits T) T.m__law_digits (hr.mono (by decide)) (al_cons (ae_op ao_fdiv (av 4) ae_int) (al_cons ae_int al_nil)))))))))
  (ass_one (as_ret (ae_tup (al_cons (av 2) (al_cons (av 3) (al_cons (ae_call (ok__law_digits T) T.m__law_digits (hr.mono (by decide)) (al_cons (ae_op ao_fdiv (av 1) ae_int) (al_cons ae_int al_nil))) (al_cons (ae_ix (ae_call (ok__law_digits T) T.m__law_digits (hr.mono (by decide)) (al_cons (ae_op ao_fdiv (ae_op ao_fdiv (av 1) ae_int) ae_int) (al_cons ae_int al_nil))) ae_int) al_nil)))))))))))), ?body⟩)
  case len => rintro _ _ _ _ ⟨_, _, rfl, _⟩; rfl
  case body =>
    rintro xs AH Q EA ⟨p, cs, rfl, hp, hQ⟩
    walk_at "s"
    refine ⟨p, cs, 0, rfl, hp, fun head => ?_⟩
    walk_at "c"
    walk_at "s"
    split
    · walk_at "s"
      exact ⟨p, cs, 1, rfl, hp, fun B ok p1 c1 b1 hp1 hc1 hb1 n1 n2 n3 => Wk.refl (hQ B ok p1 c1 b1 hp1 hc1 hb1 n1 n2 n3)⟩
    walk_at "s"
    intro p1 h1
    walk_at "s"
    intro c0 hc0
    have hc0' := aupd_none hc0
    walk_at "s"
    refine ⟨_, LstAt.sub ((Sub.new h1).trans (Sub.new hc0)) hp, fun q2 h2 => ?_⟩
    rw [cutA_nat (i := 1) (j := 9) (a := 1) (b := 9) rfl rfl]
    walk_at "s"
    intro q3 h3
    walk_at "s"
    obtain ⟨L, hL⟩ : ∃ L, (cs.drop 1).take 8 = L := ⟨_, rfl⟩
    have hLl : L.length ≤ 8 := by rw [← hL]; simp; omega
    refine ⟨L.map .int, [head].map .int, by rw [aupd_ne (ne_of_at aupd_same h3), aupd_same, ← hL, List.map_take, List.map_drop], aupd_same, by simp [sizeLine_eq]; omega, fun q4 h4 => ?_⟩
    walk_at "s"
    have sB := fun o => (Sub.new h2).trans ((Sub.new h3).trans (Sub.new (o := o) h4))
    have sA := fun o => (Sub.new h1).trans ((Sub.new hc0).trans (sB o))
    refine ⟨_, LstAt.sub (sA _) hp, fun q5 h5 => ?_⟩
    rw [cutA_nat (i := 1) (j := 9) (a := 1) (b := 9) rfl rfl]
    walk_at "s"
    refine ⟨_, .inl aupd_same, ?_⟩
    walk_at "s"
    rw [show (((cs.map AV.int).drop 1).take (9 - 1)).length = L.length by rw [← hL]; simp]
    obtain ⟨n, hn, hn1, hn8⟩ : ∃ n : Nat, (if (L.length : Int) > 1 then (L.length : Int) else 1) = n ∧ 1 ≤ n ∧ n ≤ 8 ∧ n ≤ L.length + 1 := by
      by_cases h : (L.length : Int) > 1
      · exact ⟨L.length, by rw [if_pos h], by omega, hLl, by omega⟩
      · exact ⟨1, by rw [if_neg h]; rfl, by omega, by omega, by omega⟩
    refine ⟨_, .inl (Sub.new h5 _ _ aupd_same), fun q6 h6 => ?_⟩
    rw [hn, cutA_to (j := (n : Int)) (b := n) rfl]
    walk_at "s"
    refine ⟨_, .inl aupd_same, ?_⟩
    have hit : (L.map AV.int ++ [head].map AV.int).take n = ((L ++ [head]).take n).map .int := by rw [← List.map_append, List.map_take]
    rw [hit]
    have hlen : ((L ++ [head]).take n).length = n := by simp; omega
    have sD := fun o => (Sub.new h2).trans ((Sub.new h3).trans ((Sub.new h4).trans ((Sub.new h5).trans (Sub.new (o := o) h6))))
    have sC := fun o => (Sub.new h1).trans ((Sub.new hc0).trans (sD o))
    generalize (L ++ [head]).take n = its at hlen
    refine loop_fw AV.int its (fun pre σ A2 => ∃ c a4, ∃ (gs : List (Bool × Bool × Bool)) (ms : List Int), σ = [some (.ref p), some (.int head), some (.ref p1), some (.ref c), a4] ∧ A2 q6 = some (.lst (its.map .int)) ∧ A2 p1 = some (.lst (gs.map pageA)) ∧ A2 c = some (.lst (ms.map .int)) ∧ gs.length = pre.length ∧ ms.length = 16 * pre.length ∧ (∀ x ∈ ms, Word x) ∧ Sub AH A2 ∧ AH c = none ∧ c ≠ p1 ∧ q6 ≠ p1) ?_ ?_ _ _
      ⟨c0, none, [], [], rfl, aupd_same, sD _ _ _ (Sub.new hc0 _ _ aupd_same), sD _ _ _ aupd_same, rfl, rfl, (fun _ h => nomatch h), sC _, hc0'.2, hc0'.1, ?_⟩
    · rintro _ A2 ⟨c, a4, gs, ms, rfl, eI, e1, e2, l1, l2, e3, hs, nc, nc1, _⟩
      refine ⟨.inl eI, ?_⟩
      walk_at "c"
      refine ⟨head / 2, 4, rfl, by decide, fun q7 bx h7 hbl hbx => ?_⟩
      repeat (walk_at "c")
      refine ⟨head / 2 / 4096, 5, rfl, by decide, fun q8 ds h8 hdl hds => ?_⟩
      walk_at "s"
      have h4d : 4 < ds.length := by omega
      refine ⟨_, .int ds[4], .inl aupd_same, at_nat (n := 4) rfl (by rw [List.getElem?_map, List.getElem?_eq_getElem h4d]; rfl), ?_⟩
      have hw := hds _ (List.getElem_mem h4d)
      have n7 : AH q7 = none := hs.none h7
      refine ⟨_, ?_, hQ ⟨gs, ms, bx, ds[4]⟩ ⟨by show 1 ≤ gs.length; omega, by show gs.length ≤ 8; omega, by show ms.length = 16 * gs.length; omega, e3, hbl, hbx, hw⟩ p1 c q7 h1 nc n7 (Ne.symm nc1) (ne_of_at e1 h7) (ne_of_at e2 h7)⟩
      exact (((hs.at_ e1 h1).at_ e2 ((aupd_ne nc1).trans nc)).mono q7 _).trans (Sub.new h8)
    · rintro N B Rt hB hR pre x l e ih _ A2 ⟨c, a4, gs, ms, rfl, eI, e1, e2, l1, l2, e3, hs, nc, nc1, n61⟩
      refine ⟨.inl eI, ?_⟩
      have hpl : pre.length < 8 := by rw [e] at hlen; simp at hlen; omega
      walk_at "s"
      refine ⟨⟨_, e1⟩, ?_⟩
      repeat (walk_at "c")
      refine ⟨_, e1, by rw [List.length_map, sizeLine_eq]; omega, ?_⟩
      repeat (walk_at "c")
      refine ⟨x / 8, 16, rfl, by decide, fun q ns hq hl hd => ?_⟩
      walk_at "s"
      have hq' := aupd_none hq
      have e2' := fun (o : AO) => (aupd_ne (o := o) nc1).trans e2
      refine ⟨_, _, Sub.new hq _ _ (e2' _), aupd_same, by rw [List.length_map, List.length_map, sizeLine_eq]; omega, fun q2 hq2 => ?_⟩
      have sb := fun o => (Sub.new (o := .lst (ns.map .int)) hq).trans (Sub.new (o := o) hq2)
      have hq2' := aupd_none hq2
      have hs1 := hs.over h1
      refine WkS.refl (ih _ _ ⟨q2, _, gs ++ [(decide (x % 2 = 1), decide (x / 2 % 2 = 1), decide (x / 4 % 2 = 1))], ms ++ ns, rfl, sb _ _ _ ((aupd_ne n61).trans eI), ?_, by rw [aupd_same, List.map_append], by simp [l1], by simp [l2, hl]; omega, ?_, (hs1 _).trans (sb _), (hs1 _).none hq2'.2, Ne.symm (ne_of_at aupd_same hq2'.2), n61⟩)
      · rw [List.map_append]
        exact sb _ _ _ aupd_same
      · intro y hy
        rcases List.mem_append.mp hy with h | h
        · exact e3 y h
        · exact hd y h
    · exact Ne.symm (ne_of_at (Sub.new h5 _ _ (sB _ _ _ (Sub.new hc0 _ _ aupd_same))) h6)

end K81
namespace K81
open PySem PySem.Spec PyProof.Rows L2 Av
local macro_rules | `(tactic| walk_at "s") => `(tactic| conv => whnf)
local macro_rules | `(tactic| walk_at "n") => `(tactic| first | assumption | (apply Ne.symm; assumption) | exact ne_of_at (by assumption) (by assumption) | exact Ne.symm (ne_of_at (by assumption) (by assumption)))
local macro_rules | `(tactic| walk_at "h") => `(tactic| first | exact aupd_same | assumption | exact (aupd_ne (by walk_at "n")).trans (by walk_at "h"))
local macro_rules | `(tactic| walk_at "c") => `(tactic| ((first | refine ⟨mod_ok, ?_⟩ | refine ⟨cdiv_ok, ?_⟩ | refine ⟨cmul_l ⟨by omega, by omega⟩, ?_⟩ | refine ⟨cmul_r ⟨by omega, by omega⟩, ?_⟩); conv => whnf))
variable {P : Program} {w : World} {K : PySem.W.Frag} {mg : Str → Option Value} {base : Heap}
def prefT (B : Beg) (n : Nat) : Str := Txt.join "" (((begRows B).take (n + 2)).map fun r => r ++ "\n")
theorem join0_snoc (l : List Str) (a : Str) : Txt.join "" (l ++ [a]) = Txt.join "" l ++ a := by
  refine TL.ext_tl ?_
  rw [TL.tl_append, TL.join_eq, TL.join_eq, TL.tl_join, TL.tl_join, show TL.tl (Str.ofString "") = [] by decide +kernel]
  induction l with
  | nil => simp [TL.joinL]
  | cons x l ih =>
    have h : ∀ (x : List Nat) (l : List (List Nat)), TL.joinL [] (x :: l) = x ++ TL.joinL [] l := fun x l => by cases l <;> simp [TL.joinL]
    simp only [List.map_cons, List.cons_append, h, ih, List.append_assoc]
theorem begRows_length (B : Beg) : (begRows B).length = B.pages.length + 2 := by unfold begRows pageRows; simp
theorem prefT_step {B : Beg} {n : Nat} {g : Bool × Bool × Bool} (h : B.pages[n]? = some g) : prefT B (n + 1) = prefT B n ++ (rowT (pageRow B n g) ++ "\n") := by
  have e := begRows_at B n
  rw [h] at e
  have e' : (begRows B)[n + 2]? = some (rowT (pageRow B n g)) := e
  unfold prefT
  rw [show n + 1 + 2 = (n + 2) + 1 by omega, List.take_succ, e', List.map_append]
  exact join0_snoc _ _
theorem prefT_all (B : Beg) : prefT B B.pages.length = begText B := by
  unfold prefT begText
  rw [List.take_of_length_le (Nat.le_of_eq (begRows_length B))]
theorem prefT_zero (B : Beg) : prefT B 0 = (rowT ([.str "boxes"] ++ B.boxes.map .int) ++ "\n") ++ (rowT [.str "place", .int B.place] ++ "\n") := by
  unfold prefT begRows
  rw [show ∀ (a b : Str) (l : List Str), (a :: b :: l).take (0 + 2) = [] ++ [a] ++ [b] from fun _ _ _ => rfl, List.map_append, List.map_append]
  show Txt.join "" (([].map (fun r : Str => r ++ ("\n" : Str)) ++ [_]) ++ [_]) = _
  rw [join0_snoc, join0_snoc]
  refine TL.ext_tl ?_
  rw [TL.tl_append, TL.tl_append, TL.tl_append, show TL.tl (Txt.join (Str.ofString "") (List.map (fun r => r ++ Str.ofString "\n") [])) = [] by decide +kernel]
  simp [TL.tl_append]
theorem prefT_len {B : Beg} (ok : BegOk B) (n : Nat) : (prefT B n).length ≤ 20000 := by
  have e0 : (Str.ofString "").length = 0 := by decide +kernel
  have e1 : ("\n" : Str).length = 1 := by decide +kernel
  have hlr := begRows_len ok
  have hj := join_len "" (((begRows B).take (n + 2)).map fun r => r ++ ("\n" : Str))
  have hsum : ((((begRows B).take (n + 2)).map fun r => r ++ ("\n" : Str)).map (·.length)).sum ≤ 10 * 1201 := by
    refine Nat.le_trans (sum_le_len (n := 1201) fun r hr => ?_) ?_
    · obtain ⟨r', hr', rfl⟩ := List.mem_map.mp hr
      have := hlr r' (List.mem_of_mem_take hr')
      rw [str_len_append, e1]; omega
    · rw [List.length_map, List.length_take]
      have := begRows_many ok
      omega
  rw [show ("" : Str).length = 0 from e0] at hj
  unfold prefT
  omega
theorem rowT_cons {a : AV} {l : List AV} (h : l ≠ []) : rowT (a :: l) = (txt a ++ " ") ++ rowT l := by
  cases l with
  | nil => exact absurd rfl h
  | cons b l =>
    refine TL.ext_tl ?_
    unfold rowT
    rw [TL.tl_append, TL.tl_append, TL.join_eq, TL.join_eq, TL.tl_join, TL.tl_join, show TL.tl (Str.ofString " ") = [32] by decide +kernel]
    simp [TL.joinL]
theorem ints_join {ns : List Int} (h : ∀ n ∈ ns, Word n) (hl : ns.length ≤ 16) : ((ns.map fun n => txt (.int n)).map (·.length)).sum + (ns.map fun n => txt (.int n)).length * (Str.ofString " ").length ≤ 16777216 ∧ Txt.join " " (ns.map fun n => txt (.int n)) = rowT (ns.map .int) ∧ (rowT (ns.map .int)).length ≤ 1200 := by
  have e : (ns.map fun n => txt (.int n)) = (ns.map AV.int).map txt := by rw [List.map_map]; rfl
  have h2 : ∀ y ∈ ns.map AV.int, (txt y).length ≤ 60 := fun y hy => by
    obtain ⟨n, hn, rfl⟩ := List.mem_map.mp hy
    exact (txt_le (y := .int n) (h n hn)).2
  have h3 := row_sum h2
  rw [List.length_map] at h3
  refine ⟨?_, by rw [e]; rfl, rowT_len h2 (by rw [List.length_map]; omega)⟩
  rw [e, txt_sum, List.length_map, List.length_map, show (Str.ofString " ").length = 1 from one_len]
  omega
theorem text0 {B : Beg} (ok : BegOk B) : ("boxes " : Str) ++ rowT (B.boxes.map .int) ++ "\nplace " ++ txt (.int B.place) ++ "\n" = prefT B 0 := by
  rw [prefT_zero, show ∀ l : List AV, [AV.str "boxes"] ++ l = AV.str "boxes" :: l from fun _ => rfl, rowT_cons (a := .str "boxes") (l := B.boxes.map .int) (by intro z; have := ok.four; simp at z; rw [z] at this; cases this), rowT_cons (a := .str "place") (l := [.int B.place]) (by simp)]
  refine TL.ext_tl ?_
  have e : rowT [.int B.place] = txt (.int B.place) := by
    refine TL.ext_tl ?_
    unfold rowT
    rw [TL.join_eq, TL.tl_join]
    simp [TL.joinL]
  rw [e]
  simp only [TL.tl_append, List.append_assoc, txt]
  rw [show TL.tl ("boxes " : Str) = TL.tl ("boxes" : Str) ++ TL.tl (" " : Str) by decide +kernel, show TL.tl ("\nplace " : Str) = TL.tl ("\n" : Str) ++ (TL.tl ("place" : Str) ++ TL.tl (" " : Str)) by decide +kernel]
  simp only [List.append_assoc]
theorem textk {B : Beg} {n : Nat} {g : Bool × Bool × Bool} (h : B.pages[n]? = some g) (ok : BegOk B) : prefT B n ++ "page " ++ rightsT g.1 g.2.1 g.2.2 ++ " " ++ rowT (((B.cells.drop (16 * n)).take 16).map .int) ++ "\n" = prefT B (n + 1) := by
  have hn : n < B.pages.length := (List.getElem?_eq_some_iff.mp h).1
  rw [prefT_step h]
  unfold pageRow
  rw [show ∀ l : List AV, [AV.str "page", AV.str (rightsT g.1 g.2.1 g.2.2)] ++ l = AV.str "page" :: AV.str (rightsT g.1 g.2.1 g.2.2) :: l from fun _ => rfl, rowT_cons (by simp), rowT_cons (by
    intro z
    have z2 := congrArg List.length z
    have := ok.size
    simp at z2
    omega)]
  refine TL.ext_tl ?_
  simp only [TL.tl_append, List.append_assoc, txt]
  rw [show TL.tl ("page " : Str) = TL.tl ("page" : Str) ++ TL.tl (" " : Str) by decide +kernel]
  simp only [List.append_assoc]
def pagePy (x : Bool × Bool × Bool) : PyData := .tuple [.bool x.1, .bool x.2.1, .bool x.2.2]
def begPy (B : Beg) : PyData := .tuple [.list (B.pages.map pagePy), .list (B.cells.map .int), .list (B.boxes.map .int), .int B.place]
theorem page_at (AH : AHp) (x : Bool × Bool × Bool) : PyAt AH (pageA x) (pagePy x) := PyAts.tup (.cons (.bl _) (.cons (.bl _) (.cons (.bl _) .nil)))
theorem beg_at {AH : AHp} {x : AV} {B : Beg} (h : BegAt AH x B) : PyAt AH x (begPy B) := by
  obtain ⟨p, c, b, rfl, hp, hc, hb⟩ := h
  exact PyAts.tup (.cons (.lstMap (.inl hp) fun x _ => page_at _ x) (.cons (.lstMap (.inl hc) fun n _ => .int n) (.cons (.lstMap (.inl hb) fun n _ => .int n) (.cons (.int _) .nil))))
theorem page_lay (x : Bool × Bool × Bool) : Lay 1 (pagePy x) := Lay.tup fun d hd => by
  have hd : d = .bool x.1 ∨ d = .bool x.2.1 ∨ d = .bool x.2.2 := by simpa using hd
  rcases hd with rfl | rfl | rfl <;> exact Lay.bl
theorem beg_lay (B : Beg) : Lay 3 (begPy B) := Lay.tup fun d hd => by
  have hd : d = .list (B.pages.map pagePy) ∨ d = .list (B.cells.map .int) ∨ d = .list (B.boxes.map .int) ∨ d = .int B.place := by simpa using hd
  rcases hd with rfl | rfl | rfl | rfl
  · exact Lay.lstMap fun x _ => page_lay x
  · exact Lay.lstMap fun x _ => Lay.int
  · exact Lay.lstMap fun x _ => Lay.int
  · exact Lay.int
theorem str_assoc (a b c : Str) : (a ++ b) ++ c = a ++ (b ++ c) := TL.ext_tl (by simp [TL.tl_append])
def sp__law_text : ASp := fun xs AH Q _ => ∃ x B, xs = [x] ∧ BegAt AH x B ∧ BegOk B ∧ Q (.str (begText B)) AH
theorem sc__law_text : FnScope ["beginning", "pages", "cells", "boxes", "place", "text", "k", "rights", "j", "word"] ["beginning"] (defScope (top 41)) := ⟨rfl, rfl, rfl, by decide +kernel, rfl, by decide +kernel, by decide +kernel⟩
theorem ok__law_text (T : Top P w K mg base) : DefOk P w K mg base CX0 1 (He.fAd K ("_law_text", none)) ["beginning"] sp__law_text := by
  have sc := sc__law_text
  refine T.d__law_text.ok sc (fun _ _ _ _ _ _ us hl => match us, hl with | [_], _ => rfl) ?len (fun cdv A outer s H E hr => ⟨_, (ass_cons (as_asg (av 0) (ag_tup (n := 4) rfl (ags_cons (ag_name (i := 1) sc.nd) (ags_cons (ag_name (i := 2) sc.nd) (ags_cons (ag_name (i := 3) sc.nd) (ags_cons (ag_name (i := 4) sc.nd) ags_nil))))))
  (ass_cons (as_set (i := 5) sc.nd (ae_op ao_add (ae_op ao_add (ae_op ao_add (ae_op ao_add ae_str (ae_sm PySem.F.slot_str_join PySem.F.type_str_join am_join ae_str (al_cons (ae_lc1 (i := 9) rfl sc.nd (ai_any (av 3)) (blkOk_by (own := [("word", 9)]) (N := ["beginning", "pages", "cells", "boxes", "place", "text", "k", "rights", "j", "word"]) (sc := defScope (top 41)) (by decide +kernel)) (fun _ _ _ _ _ => (pg_name (i := 9) sc.nd rfl (Or.inl rfl))) (fun _ _ _ _ _ => ats_nil) (fun _ _ _ _ _ => (ae_fg (ae_callTy ac_str T.b_str (al_cons (av 9) al_nil))))) al_nil))) ae_str) (ae_callTy ac_str T.b_str (al_cons (av 4) al_nil))) ae_str))
  (ass_cons (as_for PassesOwn.never rfl (ai_range1 T.b_range (al_cons (ae_callB ac_len T.b_len (al_cons (av 1) al_nil)) al_nil)) (ag_name (i := 6) sc.nd)
  (ass_fg (ass_cons (as_set (i := 7) sc.nd (ae_sm PySem.F.slot_str_join PySem.F.type_str_join am_join ae_str (al_cons (ae_lc1 (i := 8) rfl sc.nd (ai_range1 T.b_range (al_cons ae_int al_nil)) (blkOk_by (own := [("j", 8)]) (N := ["beginning", "pages", "cells", "boxes", "place", "text", "k", "rights", "j", "word"]) (sc := defScope (top 41)) (by decide +kernel)) (fun _ _ _ _ _ => (pg_name (i := 8) sc.nd rfl (Or.inl rfl))) (fun _ _ _ _ _ => ats_nil) (fun _ _ _ _ _ => (ae_fg (ae_ix (ae_lst (al_cons ae_str (al_cons (ae_ix ae_str (av 8)) al_nil))) (ae_callTy ac_int T.b_int (al_cons (ae_ix (ae_ix (av 1) (av 6)) (av 8)) al_nil)))))) al_nil)))
  (ass_one (as_set (i := 5) sc.nd (ae_op ao_add (ae_op ao_add (ae_op ao_add (ae_op ao_add (ae_op ao_add (av 5) ae_str) (av 7)) ae_str) (ae_sm PySem.F.slot_str_join PySem.F.type_str_join am_join ae_str (al_cons (ae_lc1 (i := 9) rfl sc.nd (ai_any (ae_slice (av 2) (ao_some (ae_op ao_mul ae_int (av 6))) (ao_some (ae_op ao_add (ae_op ao_mul ae_int (av 6)) ae_int)))) (blkOk_by (own := [("word", 9)]) (N := ["beginning", "pages", "cells", "boxes", "place", "text", "k", "rights", "j", "word"]) (sc := defScope (top 41)) (by decide +kernel)) (fun _ _ _ _ _ => (pg_name (i := 9) sc.nd rfl (Or.inl rfl))) (fun _ _ _ _ _ => ats_nil) (fun _ _ _ _ _ => (ae_fg (ae_callTy ac_str T.b_str (al_cons (av 9) al_nil))))) al_nil))) ae_str))))))
  (ass_one (as_ret (av 5)))))), ?body⟩)
  case len => rintro _ _ _ _ ⟨_, _, rfl, _⟩; rfl
  case body =>
    rintro xs AH Q EA ⟨_, B, rfl, ⟨p, c, b, rfl, hp, hc, hb⟩, ok, hQ⟩
    walk_at "s"
    refine ⟨rfl, ?_⟩
    walk_at "s"
    refine ⟨_, .inl hb, ?_⟩
    refine comp_map AV.int (fun n => .str (txt (.int n))) (.inl hb) B.boxes [] (fun n hn => ⟨_, rfl, fun R hR => str_elem rfl (Word.ok (ok.box n hn)) hR⟩) fun q1 h1 => ?_
    walk_at "s"
    obtain ⟨j1, j2, j3⟩ := ints_join (ns := B.boxes) ok.box (by rw [ok.four]; decide)
    refine ⟨B.boxes.map fun n => txt (.int n), by rw [aupd_same]; unfold strsA; rw [List.map_map]; rfl, j1, by rw [j2, sizeLine_eq]; omega, ?_⟩
    have x0 := prefT_len ok 0
    rw [← text0 ok, str_len_append, str_len_append, str_len_append, str_len_append] at x0
    walk_at "s"
    rw [j2]
    refine ⟨by rw [sizeLine_eq]; omega, ?_⟩
    walk_at "s"
    refine ⟨by rw [str_len_append, sizeLine_eq]; omega, ?_⟩
    walk_at "s"
    have hpl := numT_len (Word.ok ok.here).1 (Word.ok ok.here).2
    refine ⟨numT_log (Word.ok ok.here).1 (Word.ok ok.here).2, by rw [sizeLine_eq]; omega, ?_⟩
    walk_at "s"
    refine ⟨by rw [str_len_append, str_len_append, sizeLine_eq]; exact Nat.le_trans (Nat.le_add_right _ _) (Nat.le_trans x0 (by decide)), ?_⟩
    walk_at "s"
    refine ⟨by rw [str_len_append, str_len_append, str_len_append, sizeLine_eq]; exact Nat.le_trans x0 (by decide), ?_⟩
    have et := text0 ok
    rw [show txt (.int B.place) = Str.ofString (toString B.place) from rfl] at et
    try dsimp only
    rw [et]
    walk_at "s"
    refine ⟨_, .inl (Sub.new h1 _ _ hp), ?_⟩
    walk_at "s"
    rw [List.length_map]
    have hm := ok.most
    refine ⟨by rw [sizeLine_eq]; omega, by omega, ?_⟩
    rw [Int.toNat_natCast]
    refine loop_fw (fun i : Nat => AV.int (0 + ((i : Nat) : Int))) (List.range B.pages.length) (fun pre σ A2 => ∃ a6 a7 a8 a9, σ = [some (.tup [.ref p, .ref c, .ref b, .int B.place]), some (.ref p), some (.ref c), some (.ref b), some (.int B.place), some (.str (prefT B pre.length)), a6, a7, a8, a9] ∧ Sub AH A2) ?_ ?_ _ _ ⟨_, _, _, _, rfl, Sub.new h1⟩
    · rintro _ A2 ⟨a6, a7, a8, a9, rfl, hs⟩
      refine ⟨trivial, AH, hs, ?_⟩
      rw [List.length_range, prefT_all]
      exact hQ
    · rintro N B' Rt hB hR pre k l e ih _ A2 ⟨a6, a7, a8, a9, rfl, hs⟩
      refine ⟨trivial, ?_⟩
      have hk : k = pre.length ∧ k < B.pages.length := by
        have h2 : k ∈ List.range B.pages.length := by rw [e]; simp
        have h3 : (List.range B.pages.length)[pre.length]? = some k := by rw [e]; simp
        rw [List.getElem?_eq_some_iff] at h3
        obtain ⟨h4, h5⟩ := h3
        rw [List.getElem_range] at h5
        exact ⟨h5.symm, by simpa using h2⟩
      obtain ⟨rfl, hk⟩ := hk
      obtain ⟨g, hg⟩ : ∃ g, B.pages[pre.length]? = some g := ⟨_, List.getElem?_eq_getElem hk⟩
      walk_at "s"
      have hpA := hs _ _ hp
      obtain ⟨g1, g2, g3⟩ := g
      refine ⟨by decide, by decide, ?_⟩
      walk_at "s"
      refine ⟨trivial, ?_⟩
      walk_at "s"
      intro q2 k2
      walk_at "s"
      refine ⟨_, _, .inl (Sub.new k2 _ _ hpA), at_nat (n := pre.length) (by omega) (by rw [List.getElem?_map, hg]; rfl), ?_⟩
      walk_at "s"
      refine ⟨_, .str ⟨#[if g1 then 114 else 45]⟩, .inl aupd_same, by cases g1 <;> rfl, A2, Sub.new k2, trivial, ?_⟩
      walk_at "s"
      intro q3 k3
      walk_at "s"
      refine ⟨_, _, .inl (Sub.new k3 _ _ hpA), at_nat (n := pre.length) (by omega) (by rw [List.getElem?_map, hg]; rfl), ?_⟩
      walk_at "s"
      refine ⟨_, .str ⟨#[if g2 then 119 else 45]⟩, .inl aupd_same, by cases g2 <;> rfl, A2, Sub.new k3, trivial, ?_⟩
      walk_at "s"
      intro q4 k4
      walk_at "s"
      refine ⟨_, _, .inl (Sub.new k4 _ _ hpA), at_nat (n := pre.length) (by omega) (by rw [List.getElem?_map, hg]; rfl), ?_⟩
      walk_at "s"
      refine ⟨_, .str ⟨#[if g3 then 120 else 45]⟩, .inl aupd_same, by cases g3 <;> rfl, A2, Sub.new k4, trivial, fun q hq => ?_⟩
      walk_at "s"
      have ej : Txt.join (Str.ofString "") [⟨#[if g1 then 114 else 45]⟩, ⟨#[if g2 then 119 else 45]⟩, ⟨#[if g3 then 120 else 45]⟩] = rightsT g1 g2 g3 := by
        rw [TL.join_eq]
        cases g1 <;> cases g2 <;> cases g3 <;> decide +kernel
      refine ⟨[⟨#[if g1 then 114 else 45]⟩, ⟨#[if g2 then 119 else 45]⟩, ⟨#[if g3 then 120 else 45]⟩], aupd_same, by cases g1 <;> cases g2 <;> cases g3 <;> decide +kernel, by rw [ej]; show 3 ≤ sizeLine; decide, ?_⟩
      rw [ej]
      have hpl := prefT_len ok pre.length
      have hpn := prefT_len ok (pre.length + 1)
      have et := textk hg ok
      dsimp only at et
      rw [← et, str_len_append, str_len_append, str_len_append, str_len_append, str_len_append] at hpn
      walk_at "s"
      refine ⟨by rw [sizeLine_eq]; omega, ?_⟩
      walk_at "s"
      refine ⟨by rw [str_len_append, sizeLine_eq]; omega, ?_⟩
      walk_at "s"
      refine ⟨by rw [str_len_append, str_len_append, sizeLine_eq]; omega, ?_⟩
      repeat (walk_at "c")
      refine ⟨_, .inl (Sub.new hq _ _ (hs _ _ hc)), fun q5 h5 => ?_⟩
      rw [cutA_nat (i := 16 * (0 + ((pre.length : Nat) : Int))) (j := 16 * (0 + ((pre.length : Nat) : Int)) + 16) (a := 16 * pre.length) (b := 16 * pre.length + 16) (by omega) (by omega)]
      have er : ((B.cells.map AV.int).drop (16 * pre.length)).take (16 * pre.length + 16 - 16 * pre.length) = ((B.cells.drop (16 * pre.length)).take 16).map AV.int := by
        rw [List.map_take, List.map_drop, Nat.add_sub_cancel_left]
      rw [er]
      have hcw : ∀ n ∈ (B.cells.drop (16 * pre.length)).take 16, Word n := fun n hn => ok.cell n (List.mem_of_mem_drop (List.mem_of_mem_take hn))
      obtain ⟨j1, j2, j3⟩ := ints_join hcw (by simp; omega)
      walk_at "s"
      refine ⟨_, .inl aupd_same, ?_⟩
      refine comp_map AV.int (fun n => .str (txt (.int n))) (.inl aupd_same) _ [] (fun n hn => ⟨_, rfl, fun R hR => str_elem rfl (Word.ok (hcw n hn)) hR⟩) fun q6 h6 => ?_
      walk_at "s"
      refine ⟨((B.cells.drop (16 * pre.length)).take 16).map fun n => txt (.int n), by rw [aupd_same]; unfold strsA; rw [List.map_map]; rfl, j1, by rw [j2, sizeLine_eq]; omega, ?_⟩
      walk_at "s"
      rw [j2]
      refine ⟨by rw [str_len_append, str_len_append, str_len_append, sizeLine_eq]; omega, ?_⟩
      walk_at "s"
      refine ⟨by rw [str_len_append, str_len_append, str_len_append, str_len_append, sizeLine_eq]; omega, ?_⟩
      try dsimp only
      rw [et]
      refine WkS.refl (ih _ _ ⟨some (.int (0 + ((pre.length : Nat) : Int))), some (.str (rightsT g1 g2 g3)), a8, a9, ?_, hs.trans ((Sub.new hq).trans ((Sub.new h5).trans (Sub.new h6)))⟩)
      rw [List.length_append]
      rfl

def sp__law_right : ASp := fun xs AH Q _ => ∃ x y B, xs = [x, y] ∧ BegAt AH x B ∧ BegAt AH y B ∧ BegOk B ∧ Q (.bl true) AH
theorem sc__law_right : FnScope ["found", "due", "page", "word", "right"] ["found", "due"] (defScope (top 42)) := ⟨rfl, rfl, rfl, by decide +kernel, rfl, by decide +kernel, by decide +kernel⟩
theorem ok__law_right (T : Top P w K mg base) : DefOk P w K mg base CX0 2 (He.fAd K ("_law_right", none)) ["found", "due"] sp__law_right := by
  have sc := sc__law_right
  refine T.d__law_right.ok sc (fun _ _ _ _ _ _ us hl => match us, hl with | [_, _], _ => rfl) ?len (fun cdv A outer s H E hr => ⟨_, (ass_cons (as_if (PW.pt (aw_or (at_not (at_val (ae_callB ac_isi T.b_isinstance (al_cons (av 0) (al_cons (ae_ty (n := "tuple") T.b_tuple) al_nil))))) (aw_or (at_cmp (ao_ne (hu64 hr)) (ae_callB ac_len T.b_len (al_cons (av 0) al_nil)) ae_int) (aw_or (at_not (at_val (ae_callB ac_isi T.b_isinstance (al_cons (ae_ix (av 0) ae_int) (al_cons (ae_ty (n := "list") T.b_list) al_nil))))) (aw_or1 (at_cmp (ao_ne (hu64 hr)) (av 0) (av 1)))))))
  (ass_one (as_ret ae_bl))
  ass_nil)
  (ass_cons (as_for PassesOwn.never rfl (ai_any (ae_ix (av 0) ae_int)) (ag_name (i := 2) sc.nd)
  (ass_fg (ass_one (as_if (PW.pt (aw_or (at_not (at_val (ae_callB ac_isi T.b_isinstance (al_cons (av 2) (al_cons (ae_ty (n := "tuple") T.b_tuple) al_nil))))) (aw_or1 (at_not (at_val (ae_callB ac_all T.b_all (al_cons (ae_lc1 (i := 4) rfl sc.nd (ai_any (av 2)) (blkOk_by (own := [("right", 4)]) (N := ["found", "due", "page", "word", "right"]) (sc := defScope (top 42)) (by decide +kernel)) (fun _ _ _ _ _ => (pg_name (i := 4) sc.nd rfl (Or.inl rfl))) (fun _ _ _ _ _ => ats_nil) (fun _ _ _ _ _ => (ae_fg (ae_callB ac_isi T.b_isinstance (al_cons (av 4) (al_cons (ae_ty (n := "bool") T.b_bool) al_nil)))))) al_nil)))))))
  (ass_one (as_ret ae_bl))
  ass_nil))))
  (ass_one (as_ret (ae_callB ac_all T.b_all (al_cons (ae_lc1 (i := 3) rfl sc.nd (ai_any (ae_op ao_add (ae_op ao_add (ae_ix (av 0) ae_int) (ae_ix (av 0) ae_int)) (ae_lst (al_cons (ae_ix (av 0) ae_int) al_nil)))) (blkOk_by (own := [("word", 3)]) (N := ["found", "due", "page", "word", "right"]) (sc := defScope (top 42)) (by decide +kernel)) (fun _ _ _ _ _ => (pg_name (i := 3) sc.nd rfl (Or.inl rfl))) (fun _ _ _ _ _ => ats_nil) (fun _ _ _ _ _ => (ae_fg (ae_call (ok__law_whole T) T.m__law_whole (hr.mono (by decide)) (al_cons (av 3) al_nil))))) al_nil)))))), ?body⟩)
  case len => rintro _ _ _ _ ⟨_, _, _, rfl, _⟩; rfl
  case body =>
    rintro xs AH Q EA ⟨_, _, B, rfl, ⟨p, c, b, rfl, hp, hc, hb⟩, ⟨p', c', b', rfl, hp', hc', hb'⟩, ok, hQ⟩
    walk_at "s"
    refine ⟨"tuple", true, rfl, rfl, ?_⟩
    walk_at "s"
    refine ⟨"list", true, ⟨⟨_, .inl hp⟩, rfl⟩, rfl, ?_⟩
    walk_at "s"
    refine .inr ⟨begPy B, begPy B, beg_at ⟨p, c, b, rfl, hp, hc, hb⟩, beg_at ⟨p', c', b', rfl, hp', hc', hb'⟩, (beg_lay B).shaped (by decide), (beg_lay B).shaped (by decide), ?_⟩
    rw [eq_py (beg_lay B)]
    walk_at "s"
    refine ⟨_, .inl hp, ?_⟩
    refine loop_fw pageA B.pages (fun _ σ A2 => ∃ a2 a3 a4, σ = [some (.tup [.ref p, .ref c, .ref b, .int B.place]), some (.tup [.ref p', .ref c', .ref b', .int B.place]), a2, a3, a4] ∧ AH = A2) ?_ ?_ _ _ ⟨_, _, _, rfl, rfl⟩
    · rintro _ _ ⟨a2, a3, a4, rfl, rfl⟩
      refine ⟨.inl hp, ?_⟩
      walk_at "s"
      have hlc : B.cells.length ≤ 128 := by rw [ok.size]; have := ok.most; omega
      refine ⟨_, _, hc, hb, by rw [List.length_map, List.length_map, ok.four, sizeLine_eq]; omega, fun q hq => ?_⟩
      walk_at "s"
      intro q2 hq2
      walk_at "s"
      refine ⟨_, [.int B.place], Sub.new hq2 _ _ aupd_same, aupd_same, by simp [ok.four, sizeLine_eq]; omega, fun q3 hq3 => ?_⟩
      walk_at "s"
      refine ⟨_, .inl aupd_same, ?_⟩
      rw [show (B.cells.map AV.int ++ B.boxes.map AV.int) ++ [AV.int B.place] = (B.cells ++ B.boxes ++ [B.place]).map AV.int by simp]
      refine comp_map AV.int (fun _ => .bl true) (.inl aupd_same) _ [] (fun n hn => ⟨_, rfl, fun R hR => ?_⟩) fun q4 h4 => ?_
      · walk_at "s"
        exact ⟨n, rfl, Wk.refl hR⟩
      walk_at "s"
      refine ⟨(B.cells ++ B.boxes ++ [B.place]).map fun _ => true, .inl (by rw [aupd_same, List.map_map]; rfl), AH, (Sub.new hq).trans ((Sub.new hq2).trans ((Sub.new hq3).trans (Sub.new h4))), ?_⟩
      rw [show ((B.cells ++ B.boxes ++ [B.place]).map fun _ => true).all id = true from List.all_eq_true.mpr fun x hx => by
        obtain ⟨_, _, rfl⟩ := List.mem_map.mp hx
        rfl]
      exact hQ
    · rintro N B' Rt hB hR pre g l e ih _ _ ⟨a2, a3, a4, rfl, rfl⟩
      refine ⟨.inl hp, ?_⟩
      obtain ⟨g1, g2, g3⟩ := g
      walk_at "s"
      refine ⟨"tuple", true, rfl, rfl, ?_⟩
      walk_at "s"
      refine ⟨trivial, ?_⟩
      walk_at "s"
      refine ⟨"bool", true, rfl, rfl, AH, Sub.refl, trivial, ?_⟩
      walk_at "s"
      refine ⟨"bool", true, rfl, rfl, AH, Sub.refl, trivial, ?_⟩
      walk_at "s"
      refine ⟨"bool", true, rfl, rfl, AH, Sub.refl, trivial, fun q hq => ?_⟩
      walk_at "s"
      refine ⟨[true, true, true], .inl aupd_same, ?_⟩
      exact ⟨AH, Sub.new hq, ih _ _ ⟨_, _, _, rfl, rfl⟩⟩

def sp_law : ASp := fun xs AH Q _ => ∃ (p : Addr) (cs : List Int), xs = [.ref p] ∧ LstAt AH p (cs.map .int) ∧ ∀ AH', Q (.bl true) AH'
theorem sc_law : FnScope ["script", "beginning", "pages", "cells", "boxes", "place", "handed", "text", "turn", "found"] ["script"] (defScope (top 43)) := ⟨rfl, rfl, rfl, by decide +kernel, rfl, by decide +kernel, by decide +kernel⟩
theorem ok_law (T : Top P w K mg base) {fd : FuncData} (F : FunD K "law" "law" (defArgs (top 43)) (defBody (top 43)) (defScope (top 43)) [] [] (He.fAd K ("law", none)) fd) : FnOk P w K mg base CX0 6 (He.fAd K ("law", none)) fd ["script"] (Av.lift K sp_law) := by
  have sc := sc_law
  refine fn_ok F sc ?len (fun cdv A outer s H E hr => ⟨_, (ass_cons (as_set (i := 1) sc.nd (ae_call (ok__law_beginning T) T.m__law_beginning (hr.mono (by decide)) (al_cons (av 0) al_nil)))
  (ass_cons (as_asg (av 1) (ag_tup (n := 4) rfl (ags_cons (ag_name (i := 2) sc.nd) (ags_cons (ag_name (i := 3) sc.nd) (ags_cons (ag_name (i := 4) sc.nd) (ags_cons (ag_name (i := 5) sc.nd) ags_nil))))))
  (ass_cons (as_set (i := 6) sc.nd (ae_tup (al_cons (ae_callTy ac_list T.b_list (al_cons (av 2) al_nil)) (al_cons (ae_callTy ac_list T.b_list (al_cons (av 3) al_nil)) (al_cons (ae_callTy ac_list T.b_list (al_cons (av 4) al_nil)) (al_cons (av 5) al_nil))))))
  (ass_cons (as_set (i := 7) sc.nd (ae_call (ok__law_text T) T.m__law_text (hr.mono (by decide)) (al_cons (av 1) al_nil)))
  (ass_cons (as_for PassesOwn.never rfl (ai_range1 T.b_range (al_cons ae_int al_nil)) (ag_name (i := 8) sc.nd)
  (ass_fg (ass_cons (as_if (PW.pt (aw_or (at_cmp (ao_ne (hu64 hr)) (ae_call (ok_beginning_text T) T.m_beginning_text (hr.mono (by decide)) (al_cons (av 6) al_nil)) (av 7)) (aw_or1 (at_cmp (ao_ne (hu64 hr)) (av 6) (av 1)))))
  (ass_one (as_ret ae_bl))
  ass_nil)
  (ass_cons (as_set (i := 9) sc.nd (ae_call (ok_beginning_of T) T.m_beginning_of (hr.mono (by decide)) (al_cons (av 7) al_nil)))
  (ass_cons (as_if (at_not (at_val (ae_call (ok__law_right T) T.m__law_right (hr.mono (by decide)) (al_cons (av 9) (al_cons (av 1) al_nil)))))
  (ass_one (as_ret ae_bl))
  ass_nil)
  (ass_cons (as_expr (ae_lm0 PySem.F.slot_list_clear PySem.F.type_list_clear am_clear (ae_ix (av 9) ae_int)))
  (ass_cons (as_asg (ae_op ao_sub ae_int (ae_ix (ae_ix (av 9) ae_int) ae_int)) (ag_sub aset_list (ae_ix (av 9) ae_int) ae_int))
  (ass_one (as_expr (ae_lm PySem.F.slot_list_append PySem.F.type_list_append am_append (ae_ix (av 9) ae_int) (al_cons ae_int al_nil)))))))))))
  (ass_one (as_ret ae_bl))))))), ?body⟩)
  case len => rintro _ _ _ _ ⟨_, _, rfl, _⟩; rfl
  case body =>
    rintro xs AH Q EA ⟨p0, cs, rfl, hp0, hQ⟩
    walk_at "s"
    refine ⟨p0, cs, rfl, hp0, fun B ok p c b h1 h2 h3 n1 n2 n3 => ?_⟩
    walk_at "s"
    refine ⟨rfl, ?_⟩
    walk_at "s"
    obtain ⟨A0, hA0⟩ : ∃ A0, aupd (aupd (aupd AH p (.lst (B.pages.map pageA))) c (.lst (B.cells.map .int))) b (.lst (B.boxes.map .int)) = A0 := ⟨_, rfl⟩
    have hp : A0 p = some (.lst (B.pages.map pageA)) := by rw [← hA0, aupd_ne n2, aupd_ne n1, aupd_same]
    have hc : A0 c = some (.lst (B.cells.map .int)) := by rw [← hA0, aupd_ne n3, aupd_same]
    have hb : A0 b = some (.lst (B.boxes.map .int)) := by rw [← hA0, aupd_same]
    rw [hA0]
    refine ⟨_, .inl hp, fun p2 hp2 => ?_⟩
    walk_at "s"
    refine ⟨_, .inl (Sub.new hp2 _ _ hc), fun c2 hc2 => ?_⟩
    walk_at "s"
    refine ⟨_, .inl (Sub.new hc2 _ _ (Sub.new hp2 _ _ hb)), fun b2 hb2 => ?_⟩
    walk_at "s"
    have sb := fun o => (Sub.new hp2).trans ((Sub.new hc2).trans (Sub.new (o := o) hb2))
    have atA : BegAt (aupd (aupd (aupd A0 p2 (.lst (B.pages.map pageA))) c2 (.lst (B.cells.map .int))) b2 (.lst (B.boxes.map .int))) (.tup [.ref p, .ref c, .ref b, .int B.place]) B := ⟨p, c, b, rfl, sb _ _ _ hp, sb _ _ _ hc, sb _ _ _ hb⟩
    have atB : BegAt (aupd (aupd (aupd A0 p2 (.lst (B.pages.map pageA))) c2 (.lst (B.cells.map .int))) b2 (.lst (B.boxes.map .int))) (.tup [.ref p2, .ref c2, .ref b2, .int B.place]) B := ⟨p2, c2, b2, rfl, Sub.new hb2 _ _ (Sub.new hc2 _ _ aupd_same), Sub.new hb2 _ _ aupd_same, aupd_same⟩
    refine ⟨_, B, rfl, atA, ok, ?_⟩
    walk_at "s"
    refine ⟨by decide, by decide, ?_⟩
    refine loop_fw (fun i : Nat => AV.int (0 + ((i : Nat) : Int))) (List.range 2) (fun _ σ A2 => ∃ a8 a9, σ = [some (.ref p0), some (.tup [.ref p, .ref c, .ref b, .int B.place]), some (.ref p), some (.ref c), some (.ref b), some (.int B.place), some (.tup [.ref p2, .ref c2, .ref b2, .int B.place]), some (.str (begText B)), a8, a9] ∧ BegAt A2 (.tup [.ref p, .ref c, .ref b, .int B.place]) B ∧ BegAt A2 (.tup [.ref p2, .ref c2, .ref b2, .int B.place]) B) ?_ ?_ _ _ ⟨_, _, rfl, atA, atB⟩
    · rintro _ A2 ⟨a8, a9, rfl, atA, atB⟩
      exact ⟨trivial, Wk.refl (hQ _)⟩
    · rintro N B' Rt hB hR pre k l e ih _ A2 ⟨a8, a9, rfl, atA, atB⟩
      refine ⟨trivial, ?_⟩
      walk_at "s"
      refine ⟨_, B, rfl, atB, ok, ?_⟩
      walk_at "s"
      rw [show decide (begText B = begText B) = true from decide_eq_true rfl]
      walk_at "s"
      refine .inr ⟨begPy B, begPy B, beg_at atB, beg_at atA, (beg_lay B).shaped (by decide), (beg_lay B).shaped (by decide), ?_⟩
      rw [eq_py (beg_lay B)]
      walk_at "s"
      refine ⟨B, rfl, ok, fun f1 f2 f3 hf1 hf2 hf3 m1 m2 m3 => ?_⟩
      obtain ⟨A3, hA3⟩ : ∃ A3, aupd (aupd (aupd A2 f1 (.lst (B.pages.map pageA))) f2 (.lst (B.cells.map .int))) f3 (.lst (B.boxes.map .int)) = A3 := ⟨_, rfl⟩
      have s3 : Sub A2 A3 := by rw [← hA3]; exact ((Sub.refl.over hf1 _).over hf2 _).over hf3 _
      have g1 : A3 f1 = some (.lst (B.pages.map pageA)) := by rw [← hA3, aupd_ne m2, aupd_ne m1, aupd_same]
      have g2 : A3 f2 = some (.lst (B.cells.map .int)) := by rw [← hA3, aupd_ne m3, aupd_same]
      have g3 : A3 f3 = some (.lst (B.boxes.map .int)) := by rw [← hA3, aupd_same]
      rw [hA3]
      have up : ∀ {x : AV} {A B' : AHp}, Sub A B' → BegAt A x B → BegAt B' x B := fun h ⟨p, c, b, e, hp, hc, hb⟩ => ⟨p, c, b, e, h _ _ hp, h _ _ hc, h _ _ hb⟩
      walk_at "s"
      refine ⟨_, _, B, rfl, ⟨f1, f2, f3, rfl, g1, g2, g3⟩, up s3 atA, ok, ?_⟩
      walk_at "s"
      refine ⟨⟨_, g1⟩, ?_⟩
      walk_at "s"
      refine ⟨_, g1, ?_⟩
      walk_at "s"
      obtain ⟨x0, cs', hcs⟩ : ∃ x0 cs', B.cells = x0 :: cs' := by
        have h1 := ok.size
        have h2 := ok.one
        cases q : B.cells with
        | nil => rw [q] at h1; simp at h1; omega
        | cons a b => exact ⟨_, _, rfl⟩
      rw [hcs] at g2
      have n21 : f2 ≠ f1 := Ne.symm m1
      have n31 : f3 ≠ f1 := Ne.symm m2
      have n32 : f3 ≠ f2 := Ne.symm m3
      refine ⟨_, .int x0, .inl ((aupd_ne n21).trans g2), rfl, ?_⟩
      walk_at "s"
      refine ⟨_, 0, (aupd_ne n21).trans g2, rfl, ?_⟩
      walk_at "s"
      refine ⟨⟨_, (aupd_ne n32).trans ((aupd_ne n31).trans g3)⟩, ?_⟩
      walk_at "s"
      refine ⟨_, (aupd_ne n32).trans ((aupd_ne n31).trans g3), by rw [List.length_map, ok.four, sizeLine_eq]; decide, ?_⟩
      have sf : Sub A2 (aupd (aupd (aupd A3 f1 (.lst [])) f2 (.lst (((x0 :: cs').map AV.int).set 0 (.int (4095 - x0))))) f3 (.lst (B.boxes.map AV.int ++ [.int 1]))) := ((s3.over hf1 _).over hf2 _).over hf3 _
      exact WkS.refl (ih _ _ ⟨_, _, rfl, up sf atA, up sf atB⟩)

end K81
namespace K81
open PySem PySem.Spec PyProof.Rows L2 Av
def fa0 : List He.Fa := [.free "all", .free "bool", .free "enumerate", .free "int", .free "isinstance", .free "len", .free "list", .free "max", .free "range", .free "str", .free "tuple", .int "BOXES" 4, .int "CELLS_OF_A_PAGE" 16, .str "FIGURES" "0123456789", .int "GREATEST_WORD" 4095, .int "LONGEST" 60]
def fa1 : List He.Fa := [.int "MOST_PAGES" 8, .int "PAGE_CELLS" 16, .str "RIGHT_SIGNS" "rwx", .glo "check_pages", .glo "are_words", .glo "check_state", .glo "number_in", .glo "numbers_in", .glo "joined", .glo "rights_text", .glo "beginning_text", .glo "rights_in", .glo "page_read", .glo "named_read", .glo "ended_rows", .glo "beginning_of"]
def fa2 : List He.Fa := [.glo "_law_cell_at", .glo "_law_whole", .glo "_law_numbers", .glo "_law_kind", .glo "_law_wide", .glo "_law_row_words", .glo "_law_goal", .glo "_law_pages", .glo "_law_laid", .glo "_law_program", .glo "_law_digits", .glo "_law_beginning", .glo "_law_text", .glo "_law_right", .glo "law"]
def fa : List He.Fa := fa0 ++ (fa1 ++ (fa2))
def fn0 : List He.DefD := [⟨("check_pages", none), "check_pages", "check_pages", defArgs (top 10), defBody (top 10), defScope (top 10), [], []⟩, ⟨("are_words", none), "are_words", "are_words", defArgs (top 11), defBody (top 11), defScope (top 11), [], []⟩, ⟨("check_state", none), "check_state", "check_state", defArgs (top 12), defBody (top 12), defScope (top 12), [], []⟩, ⟨("number_in", none), "number_in", "number_in", defArgs (top 18), defBody (top 18), defScope (top 18), [], []⟩, ⟨("numbers_in", none), "numbers_in", "numbers_in", defArgs (top 19), defBody (top 19), defScope (top 19), [], []⟩, ⟨("joined", none), "joined", "joined", defArgs (top 20), defBody (top 20), defScope (top 20), [], []⟩, ⟨("rights_text", none), "rights_text", "rights_text", defArgs (top 21), defBody (top 21), defScope (top 21), [], []⟩, ⟨("beginning_text", none), "beginning_text", "beginning_text", defArgs (top 22), defBody (top 22), defScope (top 22), [], []⟩, ⟨("rights_in", none), "rights_in", "rights_in", defArgs (top 23), defBody (top 23), defScope (top 23), [], []⟩, ⟨("page_read", none), "page_read", "page_read", defArgs (top 24), defBody (top 24), defScope (top 24), [], []⟩, ⟨("named_read", none), "named_read", "named_read", defArgs (top 25), defBody (top 25), defScope (top 25), [], []⟩, ⟨("ended_rows", none), "ended_rows", "ended_rows", defArgs (top 26), defBody (top 26), defScope (top 26), [], []⟩, ⟨("beginning_of", none), "beginning_of", "beginning_of", defArgs (top 27), defBody (top 27), defScope (top 27), [], []⟩, ⟨("_law_cell_at", none), "_law_cell_at", "_law_cell_at", defArgs (top 29), defBody (top 29), defScope (top 29), [], []⟩, ⟨("_law_whole", none), "_law_whole", "_law_whole", defArgs (top 30), defBody (top 30), defScope (top 30), [], []⟩, ⟨("_law_numbers", none), "_law_numbers", "_law_numbers", defArgs (top 31), defBody (top 31), defScope (top 31), [], []⟩]
def fn1 : List He.DefD := [⟨("_law_kind", none), "_law_kind", "_law_kind", defArgs (top 32), defBody (top 32), defScope (top 32), [], []⟩, ⟨("_law_wide", none), "_law_wide", "_law_wide", defArgs (top 33), defBody (top 33), defScope (top 33), [], []⟩, ⟨("_law_row_words", none), "_law_row_words", "_law_row_words", defArgs (top 34), defBody (top 34), defScope (top 34), [], []⟩, ⟨("_law_goal", none), "_law_goal", "_law_goal", defArgs (top 35), defBody (top 35), defScope (top 35), [], []⟩, ⟨("_law_pages", none), "_law_pages", "_law_pages", defArgs (top 36), defBody (top 36), defScope (top 36), [], []⟩, ⟨("_law_laid", none), "_law_laid", "_law_laid", defArgs (top 37), defBody (top 37), defScope (top 37), [], []⟩, ⟨("_law_program", none), "_law_program", "_law_program", defArgs (top 38), defBody (top 38), defScope (top 38), [], []⟩, ⟨("_law_digits", none), "_law_digits", "_law_digits", defArgs (top 39), defBody (top 39), defScope (top 39), [], []⟩, ⟨("_law_beginning", none), "_law_beginning", "_law_beginning", defArgs (top 40), defBody (top 40), defScope (top 40), [], []⟩, ⟨("_law_text", none), "_law_text", "_law_text", defArgs (top 41), defBody (top 41), defScope (top 41), [], []⟩, ⟨("_law_right", none), "_law_right", "_law_right", defArgs (top 42), defBody (top 42), defScope (top 42), [], []⟩, ⟨("law", none), "law", "law", defArgs (top 43), defBody (top 43), defScope (top 43), [], []⟩]
def fn : List He.DefD := fn0 ++ (fn1)
def names0 : List PySem.Str := ["__name__", "LikeError", "BadPages", "BadState", "BadText", "MOST_PAGES", "CELLS_OF_A_PAGE", "GREATEST_WORD", "BOXES", "check_pages", "are_words", "check_state", "FIGURES", "LONGEST", "PAGE_CELLS", "RIGHT_SIGNS"]
def names1 : List PySem.Str := ["number_in", "numbers_in", "joined", "rights_text", "beginning_text", "rights_in", "page_read", "named_read", "ended_rows", "beginning_of", "_law_cell_at", "_law_whole", "_law_numbers", "_law_kind", "_law_wide", "_law_row_words"]
def names2 : List PySem.Str := ["_law_goal", "_law_pages", "_law_laid", "_law_program", "_law_digits", "_law_beginning", "_law_text", "_law_right"]
def names : List PySem.Str := names0 ++ (names1 ++ (names2))
abbrev R : PySem.W.OpenRow := PySem.W.OpenLaw.row PySem.Challenge.rw_likewise_k81_beginnings_written
abbrev hk : PySem.W.Hook := He.hookX 4 fa fn [] [] Av.noLists
def ob (s : PySem.W.SharedT) : He.AlX := He.obsX 4 fa fn [] [] Av.noLists (HandSHeadRun.getT s)
theorem ob_eq (s : PySem.W.SharedT) : ob s = hk.obs s.abs := He.obsX_eq (HandSHeadRun.getT_eq s)
theorem run (w : World) : HandSHeadRun.RunEq R (PySem.W.view R.prog [43]) hk ob 3000 names w := by
  intro os
  kernel_rfl
theorem top_of {P : Program} {w : World} {K : PySem.W.Frag} {h : Heap} {mg : Str → Option Value} {base : Heap} (X : K.In h) (G : h.Ns mainGlobals mg) (c : He.SaysD fa fn K) : Top P w K mg base where
  b_all := He.free_ok X G (c.fact 0 (f := .free "all") rfl)
  b_bool := He.free_ok X G (c.fact 1 (f := .free "bool") rfl)
  b_enumerate := He.free_ok X G (c.fact 2 (f := .free "enumerate") rfl)
  b_int := He.free_ok X G (c.fact 3 (f := .free "int") rfl)
  b_isinstance := He.free_ok X G (c.fact 4 (f := .free "isinstance") rfl)
  b_len := He.free_ok X G (c.fact 5 (f := .free "len") rfl)
  b_list := He.free_ok X G (c.fact 6 (f := .free "list") rfl)
  b_max := He.free_ok X G (c.fact 7 (f := .free "max") rfl)
  b_range := He.free_ok X G (c.fact 8 (f := .free "range") rfl)
  b_str := He.free_ok X G (c.fact 9 (f := .free "str") rfl)
  b_tuple := He.free_ok X G (c.fact 10 (f := .free "tuple") rfl)
  c_BOXES := con_int (He.int_ok X G (c.fact 11 (f := .int "BOXES" 4) rfl))
  c_CELLS_OF_A_PAGE := con_int (He.int_ok X G (c.fact 12 (f := .int "CELLS_OF_A_PAGE" 16) rfl))
  c_FIGURES := con_str (He.str_ok X G (c.fact 13 (f := .str "FIGURES" "0123456789") rfl))
  c_GREATEST_WORD := con_int (He.int_ok X G (c.fact 14 (f := .int "GREATEST_WORD" 4095) rfl))
  c_LONGEST := con_int (He.int_ok X G (c.fact 15 (f := .int "LONGEST" 60) rfl))
  c_MOST_PAGES := con_int (He.int_ok X G (c.fact 16 (f := .int "MOST_PAGES" 8) rfl))
  c_PAGE_CELLS := con_int (He.int_ok X G (c.fact 17 (f := .int "PAGE_CELLS" 16) rfl))
  c_RIGHT_SIGNS := con_str (He.str_ok X G (c.fact 18 (f := .str "RIGHT_SIGNS" "rwx") rfl))
  m_check_pages := He.glo_ok X G (c.fact 19 (f := .glo "check_pages") rfl)
  d_check_pages := ⟨c.def_ 0 (d := ⟨("check_pages", none), "check_pages", "check_pages", defArgs (top 10), defBody (top 10), defScope (top 10), [], []⟩) rfl⟩
  m_are_words := He.glo_ok X G (c.fact 20 (f := .glo "are_words") rfl)
  d_are_words := ⟨c.def_ 1 (d := ⟨("are_words", none), "are_words", "are_words", defArgs (top 11), defBody (top 11), defScope (top 11), [], []⟩) rfl⟩
  m_check_state := He.glo_ok X G (c.fact 21 (f := .glo "check_state") rfl)
  d_check_state := ⟨c.def_ 2 (d := ⟨("check_state", none), "check_state", "check_state", defArgs (top 12), defBody (top 12), defScope (top 12), [], []⟩) rfl⟩
  m_number_in := He.glo_ok X G (c.fact 22 (f := .glo "number_in") rfl)
  d_number_in := ⟨c.def_ 3 (d := ⟨("number_in", none), "number_in", "number_in", defArgs (top 18), defBody (top 18), defScope (top 18), [], []⟩) rfl⟩
  m_numbers_in := He.glo_ok X G (c.fact 23 (f := .glo "numbers_in") rfl)
  d_numbers_in := ⟨c.def_ 4 (d := ⟨("numbers_in", none), "numbers_in", "numbers_in", defArgs (top 19), defBody (top 19), defScope (top 19), [], []⟩) rfl⟩
  m_joined := He.glo_ok X G (c.fact 24 (f := .glo "joined") rfl)
  d_joined := ⟨c.def_ 5 (d := ⟨("joined", none), "joined", "joined", defArgs (top 20), defBody (top 20), defScope (top 20), [], []⟩) rfl⟩
  m_rights_text := He.glo_ok X G (c.fact 25 (f := .glo "rights_text") rfl)
  d_rights_text := ⟨c.def_ 6 (d := ⟨("rights_text", none), "rights_text", "rights_text", defArgs (top 21), defBody (top 21), defScope (top 21), [], []⟩) rfl⟩
  m_beginning_text := He.glo_ok X G (c.fact 26 (f := .glo "beginning_text") rfl)
  d_beginning_text := ⟨c.def_ 7 (d := ⟨("beginning_text", none), "beginning_text", "beginning_text", defArgs (top 22), defBody (top 22), defScope (top 22), [], []⟩) rfl⟩
  m_rights_in := He.glo_ok X G (c.fact 27 (f := .glo "rights_in") rfl)
  d_rights_in := ⟨c.def_ 8 (d := ⟨("rights_in", none), "rights_in", "rights_in", defArgs (top 23), defBody (top 23), defScope (top 23), [], []⟩) rfl⟩
  m_page_read := He.glo_ok X G (c.fact 28 (f := .glo "page_read") rfl)
  d_page_read := ⟨c.def_ 9 (d := ⟨("page_read", none), "page_read", "page_read", defArgs (top 24), defBody (top 24), defScope (top 24), [], []⟩) rfl⟩
  m_named_read := He.glo_ok X G (c.fact 29 (f := .glo "named_read") rfl)
  d_named_read := ⟨c.def_ 10 (d := ⟨("named_read", none), "named_read", "named_read", defArgs (top 25), defBody (top 25), defScope (top 25), [], []⟩) rfl⟩
  m_ended_rows := He.glo_ok X G (c.fact 30 (f := .glo "ended_rows") rfl)
  d_ended_rows := ⟨c.def_ 11 (d := ⟨("ended_rows", none), "ended_rows", "ended_rows", defArgs (top 26), defBody (top 26), defScope (top 26), [], []⟩) rfl⟩
  m_beginning_of := He.glo_ok X G (c.fact 31 (f := .glo "beginning_of") rfl)
  d_beginning_of := ⟨c.def_ 12 (d := ⟨("beginning_of", none), "beginning_of", "beginning_of", defArgs (top 27), defBody (top 27), defScope (top 27), [], []⟩) rfl⟩
  m__law_cell_at := He.glo_ok X G (c.fact 32 (f := .glo "_law_cell_at") rfl)
  d__law_cell_at := ⟨c.def_ 13 (d := ⟨("_law_cell_at", none), "_law_cell_at", "_law_cell_at", defArgs (top 29), defBody (top 29), defScope (top 29), [], []⟩) rfl⟩
  m__law_whole := He.glo_ok X G (c.fact 33 (f := .glo "_law_whole") rfl)
  d__law_whole := ⟨c.def_ 14 (d := ⟨("_law_whole", none), "_law_whole", "_law_whole", defArgs (top 30), defBody (top 30), defScope (top 30), [], []⟩) rfl⟩
  m__law_numbers := He.glo_ok X G (c.fact 34 (f := .glo "_law_numbers") rfl)
  d__law_numbers := ⟨c.def_ 15 (d := ⟨("_law_numbers", none), "_law_numbers", "_law_numbers", defArgs (top 31), defBody (top 31), defScope (top 31), [], []⟩) rfl⟩
  m__law_kind := He.glo_ok X G (c.fact 35 (f := .glo "_law_kind") rfl)
  d__law_kind := ⟨c.def_ 16 (d := ⟨("_law_kind", none), "_law_kind", "_law_kind", defArgs (top 32), defBody (top 32), defScope (top 32), [], []⟩) rfl⟩
  m__law_wide := He.glo_ok X G (c.fact 36 (f := .glo "_law_wide") rfl)
  d__law_wide := ⟨c.def_ 17 (d := ⟨("_law_wide", none), "_law_wide", "_law_wide", defArgs (top 33), defBody (top 33), defScope (top 33), [], []⟩) rfl⟩
  m__law_row_words := He.glo_ok X G (c.fact 37 (f := .glo "_law_row_words") rfl)
  d__law_row_words := ⟨c.def_ 18 (d := ⟨("_law_row_words", none), "_law_row_words", "_law_row_words", defArgs (top 34), defBody (top 34), defScope (top 34), [], []⟩) rfl⟩
  m__law_goal := He.glo_ok X G (c.fact 38 (f := .glo "_law_goal") rfl)
  d__law_goal := ⟨c.def_ 19 (d := ⟨("_law_goal", none), "_law_goal", "_law_goal", defArgs (top 35), defBody (top 35), defScope (top 35), [], []⟩) rfl⟩
  m__law_pages := He.glo_ok X G (c.fact 39 (f := .glo "_law_pages") rfl)
  d__law_pages := ⟨c.def_ 20 (d := ⟨("_law_pages", none), "_law_pages", "_law_pages", defArgs (top 36), defBody (top 36), defScope (top 36), [], []⟩) rfl⟩
  m__law_laid := He.glo_ok X G (c.fact 40 (f := .glo "_law_laid") rfl)
  d__law_laid := ⟨c.def_ 21 (d := ⟨("_law_laid", none), "_law_laid", "_law_laid", defArgs (top 37), defBody (top 37), defScope (top 37), [], []⟩) rfl⟩
  m__law_program := He.glo_ok X G (c.fact 41 (f := .glo "_law_program") rfl)
  d__law_program := ⟨c.def_ 22 (d := ⟨("_law_program", none), "_law_program", "_law_program", defArgs (top 38), defBody (top 38), defScope (top 38), [], []⟩) rfl⟩
  m__law_digits := He.glo_ok X G (c.fact 42 (f := .glo "_law_digits") rfl)
  d__law_digits := ⟨c.def_ 23 (d := ⟨("_law_digits", none), "_law_digits", "_law_digits", defArgs (top 39), defBody (top 39), defScope (top 39), [], []⟩) rfl⟩
  m__law_beginning := He.glo_ok X G (c.fact 43 (f := .glo "_law_beginning") rfl)
  d__law_beginning := ⟨c.def_ 24 (d := ⟨("_law_beginning", none), "_law_beginning", "_law_beginning", defArgs (top 40), defBody (top 40), defScope (top 40), [], []⟩) rfl⟩
  m__law_text := He.glo_ok X G (c.fact 44 (f := .glo "_law_text") rfl)
  d__law_text := ⟨c.def_ 25 (d := ⟨("_law_text", none), "_law_text", "_law_text", defArgs (top 41), defBody (top 41), defScope (top 41), [], []⟩) rfl⟩
  m__law_right := He.glo_ok X G (c.fact 45 (f := .glo "_law_right") rfl)
  d__law_right := ⟨c.def_ 26 (d := ⟨("_law_right", none), "_law_right", "_law_right", defArgs (top 42), defBody (top 42), defScope (top 42), [], []⟩) rfl⟩
  m_law := He.glo_ok X G (c.fact 46 (f := .glo "law") rfl)
  d_law := ⟨c.def_ 27 (d := ⟨("law", none), "law", "law", defArgs (top 43), defBody (top 43), defScope (top 43), [], []⟩) rfl⟩
theorem law_sp : Av.LawSp 63 sp_law := fun p cs AH Q E hl hp hQ => ⟨p, cs, rfl, hp, hQ⟩

end K81
open PySem PySem.W PySem.Calls PyProof.Rows
theorem PySem.Challenge.cw_likewise_k81_beginnings_written_holds : PySem.Challenge.rw_likewise_k81_beginnings_written.Holds := by
  w_on; o_law
  refine HandSHeadRun.head_any (r := OpenLaw.row PySem.Challenge.rw_likewise_k81_beginnings_written) (q := view (OpenLaw.row PySem.Challenge.rw_likewise_k81_beginnings_written).prog [43]) (H := K81.hk) (ob := K81.ob) (M := 3000) (loose := K81.names) (d := HandSHeadRun.topDef (OpenLaw.row PySem.Challenge.rw_likewise_k81_beginnings_written).prog 43) (kwd := []) K81.ob_eq
    (by kernel_rfl) (fun s => by kernel_rfl) K81.run (by kernel_rfl) (by kernel_rfl) (by kernel_rfl) (by rfl) (by first | assumption | decide +kernel) (by decide +kernel) ⟨rfl, rfl, rfl, rfl, rfl, by decide +kernel⟩ ?hw ?hc
  case hw => w_witness2
  case hc =>
    refine L2.walk_ofE (l := PySem.Challenge.rw_likewise_k81_beginnings_written) (n := 63) (k := 6) (x := "script") (CX := L2.CX0) rfl (by decide) (by kernel_rfl) ⟨rfl, by decide, by decide⟩ ?F (fun _ _ _ _ z => z)
    intro w mg fa h Y G hmg0
    obtain ⟨K, KX, c⟩ := Y
    have cD : He.SaysD K81.fa K81.fn K := congrArg Prod.fst c.t
    have hmg : mg ("law" : PySem.Str) = some (.ref fa) := by
      have e : (HandSHeadRun.topDef (OpenLaw.row PySem.Challenge.rw_likewise_k81_beginnings_written).prog 43).name = ("law" : PySem.Str) := by kernel_rfl
      rw [← e]
      exact hmg0
    have T0 : K81.Top (PySem.Challenge.rw_likewise_k81_beginnings_written).prog w K mg h := K81.top_of KX G cD
    have ef := hmg.symm.trans T0.m_law
    cases ef
    obtain ⟨fd, F⟩ := T0.d_law.ex
    have b := L2.FunD.bindsA (ps := ["script"]) F fun _ _ _ _ _ _ us hl => match us, hl with | [_], _ => rfl
    exact ⟨K, fd, Av.lift K K81.sp_law, KX, fun s v => b s [v] rfl, fun H a ns hl hO hS => K81.law_sp.lift (by decide) c.more H a ns hl hO hS, fun base _ _ => K81.ok_law (K81.top_of KX G cD) F⟩
